import PyProof.Rows.All
import Wide.All
import OpenK.AllK
import Wide.FinOn
import HandS.ForMost
import HandS.Exc
import HandS.ExcOwn
import HandS.ExcInit
import HandS.WordsExc
import HandS.Defaults
import HandS.IsInst
import HandS.Zip
import HandS.Strs
import HandS.Flow
import HandS.HeadHook2
import HandS.SetFor
import KE.GoesMore
import HandS.Walk
import HandS.Evl
import HandS.HeadHook4
import HandS.ExcField
import HandS.ExcIs
import KE.KExcIs
import HandS.HeadWalk
import HandS.Head2
import HandS.HeadEnd
import HandS.HeadHook3
import PySem.Challenge.RW_measurehall_k05_texts_refused
import HandS.DictComp
import KE.KEqDict
import HandS.DictTup
import HandS.SortRule
import KE.KDictWalk
import KE.KLam
import HandS.Lambda
import HandS.Nested
import HandS.ExcCtx
import HandS.ExcInitHot
import KE.KAsSuite
import HandS.Comp
import HandS.Finally
import HandS.Hot
import HandS.HotCalls
import HandS.RaiseFrom
import HandS.ExcSuper
import HandS.Text
import KE.IntTextLaws
import HandS.Steps
import KE.GoesZip
import HandS.TupAny
import HandS.TupMul
import HandS.Conv
import HandS.Deep
import PyProof.StrOps2
import HandS.SuiteRaise
import HandS.SortInts
import HandS.Set
set_option Elab.async false
set_option linter.all false
set_option maxRecDepth 100000
set_option maxHeartbeats 0
/-! MhBase -/
namespace Mh
open PySem PySem.Spec PyProof.Rows L2

/-! ### frames -/
/-- what is tracked stands as it was, but at the places of M; tuples and locked things stand there too; nothing is lost -/
structure Fx (M : List Addr) (H H' : Hp) : Prop where
  k : ∀ a o, H a = some o → a ∉ M → H' a = some o
  t : ∀ a xs, H a = some (.tup xs) → H' a = some (.tup xs)
  z : ∀ a o u, H a = some (.frz o u) → H' a = some (.frz o u)
  d : ∀ a, H' a = none → H a = none
theorem Fx.refl {M : List Addr} {H : Hp} : Fx M H H := ⟨fun _ _ h _ => h, fun _ _ h => h, fun _ _ _ h => h, fun _ h => h⟩
theorem Fx.trans {M : List Addr} {H H1 H2 : Hp} (a : Fx M H H1) (b : Fx M H1 H2) : Fx M H H2 :=
  ⟨fun c o h n => b.k c o (a.k c o h n) n, fun c o h => b.t c o (a.t c o h), fun c o u h => b.z c o u (a.z c o u h), fun c h => a.d c (b.d c h)⟩
theorem Fx.mono {M N : List Addr} {H H' : Hp} (a : Fx M H H') (h : ∀ x, x ∈ M → x ∈ N) : Fx N H H' := ⟨fun c o e n => a.k c o e fun m => n (h c m), a.t, a.z, a.d⟩
theorem Fx.nil {N : List Addr} {H H' : Hp} (a : Fx [] H H') : Fx N H H' := a.mono fun _ m => nomatch m
theorem Fx.new {M : List Addr} {H : Hp} {p : Addr} {o : HO} (h : H p = none) : Fx M H (upd H p o) :=
  ⟨fun a u e _ => by rw [upd_ne (ne_of_none e h)]; exact e, fun a u e => by rw [upd_ne (ne_of_none e h)]; exact e, fun a u v e => by rw [upd_ne (ne_of_none e h)]; exact e,
    fun a e => by
      by_cases q : a = p
      · rw [q]; exact h
      · rw [upd_ne q] at e; exact e⟩
/-- what is at p may change if it is no tuple and not locked -/
def Chg (H : Hp) (p : Addr) : Prop := (∀ xs, H p ≠ some (.tup xs)) ∧ ∀ o u, H p ≠ some (.frz o u)
theorem Chg.none {H : Hp} {p : Addr} (h : H p = none) : Chg H p := ⟨fun xs e => (by rw [h] at e; cases e), fun o u e => (by rw [h] at e; cases e)⟩
theorem Chg.lst {H : Hp} {p : Addr} {ys : List V} (h : H p = some (.lst ys)) : Chg H p := ⟨fun xs e => (by rw [h] at e; cases e), fun o u e => (by rw [h] at e; cases e)⟩
theorem Chg.dK {H : Hp} {p : Addr} {ys : List (Key × V)} (h : H p = some (.dK ys)) : Chg H p := ⟨fun xs e => (by rw [h] at e; cases e), fun o u e => (by rw [h] at e; cases e)⟩
theorem Chg.ins {H : Hp} {p C dx : Addr} {fs : List (Str × V)} (h : H p = some (.ins C dx fs)) : Chg H p := ⟨fun xs e => (by rw [h] at e; cases e), fun o u e => (by rw [h] at e; cases e)⟩
theorem Fx.set {M : List Addr} {H : Hp} {p : Addr} {o : HO} (m : p ∈ M) (c : Chg H p) : Fx M H (upd H p o) :=
  ⟨fun a u e n => by rw [upd_ne (show a ≠ p from fun z => n (by rw [z]; exact m))]; exact e,
    fun a u e => by rw [upd_ne (show a ≠ p from fun z => c.1 u (by rw [← z]; exact e))]; exact e, fun a u v e => by rw [upd_ne (show a ≠ p from fun z => c.2 u v (by rw [← z]; exact e))]; exact e,
    fun a e => by
      by_cases q : a = p
      · rw [q, upd_same] at e; cases e
      · rw [upd_ne q] at e; exact e⟩
/-- a place that was free ahead needn't be named -/
theorem Fx.drop {M : List Addr} {H H' : Hp} {p : Addr} (a : Fx (p :: M) H H') (h : H p = none) : Fx M H H' :=
  ⟨fun c o e n => a.k c o e fun m => (by
    rcases List.mem_cons.mp m with q | q
    · rw [q, h] at e; cases e
    · exact n q), a.t, a.z, a.d⟩
theorem Fx.free {M : List Addr} {H H' : Hp} {p : Addr} (a : Fx M H H') (h : H' p = none) : H p = none := a.d p h
theorem Fx.same {H H' : Hp} (a : Fx [] H H') : Same H H' := fun b o e => a.k b o e fun m => nomatch m
theorem Fx.to {M : List Addr} {H H' : Hp} {p : Addr} {o : HO} (a : Fx M H H') (h : H p = some o) (n : p ∉ M) : H' p = some o := a.k p o h n
theorem Fx.rdT {M : List Addr} {H H' : Hp} {p : Addr} {xs : List V} (a : Fx M H H') (h : Rd H p (.tup xs)) : Rd H' p (.tup xs) := by
  rcases h with h | ⟨o, h⟩
  · exact .inl (a.t _ _ h)
  · exact .inr ⟨o, a.z _ _ _ h⟩
theorem Fx.sqT {M : List Addr} {H H' : Hp} {K : PySem.W.Frag} {p : Addr} {xs : List V} (a : Fx M H H') (h : SqT K H p xs) : SqT K H' p xs := by
  rcases h with h | h
  · exact .inl (a.rdT h)
  · exact .inr h
theorem Fx.sqL {M : List Addr} {H H' : Hp} {K : PySem.W.Frag} {p : Addr} {xs : List V} (a : Fx M H H') (h : SqL K H p xs) (n : p ∉ M) : SqL K H' p xs := by
  rcases h with (h | ⟨o, h⟩) | h
  · exact .inl (.inl (a.k _ _ h n))
  · exact .inl (.inr ⟨o, a.z _ _ _ h⟩)
  · exact .inr h

/-! ### data that stands in the heap -/
mutual
/-- no list within -/
def nol : PyData → Bool
  | .list _ => false
  | .dict _ => false
  | .tuple xs => nolA xs
  | _ => true
def nolA : List PyData → Bool
  | [] => true
  | x :: xs => nol x && nolA xs
end
end Mh
namespace L2
open PySem PySem.Spec PyProof.Rows Mh
section
variable {K : PySem.W.Frag} {M : List Addr} {H H' : Hp}
mutual
theorem Dp.fx (a : Fx M H H') : ∀ (d : PyData) (v : V), nol d = true → Dp K H v d → Dp K H' v d
  | .none, _, _, h => by cases h; exact .non
  | .bool b, _, _, h => by cases h; exact .bl b
  | .int i, _, _, h => by cases h; exact .int i
  | .str x, _, _, h => by cases h; exact .str x
  | .list ds, _, n, _ => by cases n
  | .tuple ds, _, n, h => by
    cases h with
    | tup hs ha => exact .tup (a.sqT hs) (DpA.fx a ds _ n ha)
  | .dict _, _, _, h => by cases h
theorem DpA.fx (a : Fx M H H') : ∀ (ds : List PyData) (vs : List V), nolA ds = true → DpAll K H vs ds → DpAll K H' vs ds
  | [], _, _, h => by cases h; exact .nil
  | d :: ds, _, n, h => by
    cases h with
    | cons h1 h2 =>
      have n2 : (nol d && nolA ds) = true := n
      obtain ⟨n3, n4⟩ := Bool.and_eq_true_iff.mp n2
      exact .cons (Dp.fx a d _ n3 h1) (DpA.fx a ds _ n4 h2)
end
mutual
theorem Dp.up (a : Fx [] H H') : ∀ (d : PyData) (v : V), Dp K H v d → Dp K H' v d
  | .none, _, h => by cases h; exact .non
  | .bool b, _, h => by cases h; exact .bl b
  | .int i, _, h => by cases h; exact .int i
  | .str x, _, h => by cases h; exact .str x
  | .list ds, _, h => by
    cases h with
    | lst hs ha => exact .lst (a.sqL hs fun m => nomatch m) (DpA.up a ds _ ha)
  | .tuple ds, _, h => by
    cases h with
    | tup hs ha => exact .tup (a.sqT hs) (DpA.up a ds _ ha)
  | .dict _, _, h => by cases h
theorem DpA.up (a : Fx [] H H') : ∀ (ds : List PyData) (vs : List V), DpAll K H vs ds → DpAll K H' vs ds
  | [], _, h => by cases h; exact .nil
  | d :: ds, _, h => by
    cases h with
    | cons h1 h2 => exact .cons (Dp.up a d _ h1) (DpA.up a ds _ h2)
end
theorem Dp.tupI {v : V} {ds : List PyData} (h : Dp K H v (.tuple ds)) : ∃ a xs, v = .ref a ∧ SqT K H a xs ∧ DpAll K H xs ds := by
  cases h with
  | tup hs ha => exact ⟨_, _, rfl, hs, ha⟩
theorem Dp.tup1 {K : PySem.W.Frag} {H : Hp} {v : V} {d1 : PyData} (h : Dp K H v (.tuple [d1])) : ∃ a v1, v = .ref a ∧ SqT K H a [v1] ∧ Dp K H v1 d1 := by
  obtain ⟨a, xs, e, hs, ha⟩ := h.tupI
  cases ha with | cons h1 t => cases t; exact ⟨a, _, e, hs, h1⟩
theorem Dp.tup2 {K : PySem.W.Frag} {H : Hp} {v : V} {d1 d2 : PyData} (h : Dp K H v (.tuple [d1, d2])) : ∃ a v1 v2, v = .ref a ∧ SqT K H a [v1, v2] ∧ Dp K H v1 d1 ∧ Dp K H v2 d2 := by
  obtain ⟨a, xs, e, hs, ha⟩ := h.tupI
  cases ha with | cons h1 t => cases t with | cons h2 t => cases t; exact ⟨a, _, _, e, hs, h1, h2⟩
theorem Dp.tup3 {K : PySem.W.Frag} {H : Hp} {v : V} {d1 d2 d3 : PyData} (h : Dp K H v (.tuple [d1, d2, d3])) : ∃ a v1 v2 v3, v = .ref a ∧ SqT K H a [v1, v2, v3] ∧ Dp K H v1 d1 ∧ Dp K H v2 d2 ∧ Dp K H v3 d3 := by
  obtain ⟨a, xs, e, hs, ha⟩ := h.tupI
  cases ha with | cons h1 t => cases t with | cons h2 t => cases t with | cons h3 t => cases t; exact ⟨a, _, _, _, e, hs, h1, h2, h3⟩
theorem Dp.lstI {v : V} {ds : List PyData} (h : Dp K H v (.list ds)) : ∃ a xs, v = .ref a ∧ SqL K H a xs ∧ DpAll K H xs ds := by
  cases h with
  | lst hs ha => exact ⟨_, _, rfl, hs, ha⟩
theorem Dp.intI {v : V} {i : Int} (h : Dp K H v (.int i)) : v = .int i := by cases h; rfl
theorem Dp.strI {v : V} {i : Str} (h : Dp K H v (.str i)) : v = .str i := by cases h; rfl
theorem Dp.blI {v : V} {i : Bool} (h : Dp K H v (.bool i)) : v = .bl i := by cases h; rfl
theorem Dp.nonI {v : V} (h : Dp K H v .none) : v = .non := by cases h; rfl
theorem Dp.mv {v : V} {d : PyData} (h : Dp K H v d) (a : Fx M H H') (n : nol d = true) : Dp K H' v d := Dp.fx a d v n h
theorem Dp.ext {v : V} {d : PyData} (h : Dp K H v d) (a : Fx [] H H') : Dp K H' v d := Dp.up a d v h
theorem DpAll.mv {vs : List V} {ds : List PyData} (h : DpAll K H vs ds) (a : Fx M H H') (n : nolA ds = true) : DpAll K H' vs ds := DpA.fx a ds vs n h
theorem DpAll.ext {vs : List V} {ds : List PyData} (h : DpAll K H vs ds) (a : Fx [] H H') : DpAll K H' vs ds := DpA.up a ds vs h
theorem DpAll.len : ∀ {vs : List V} {ds : List PyData}, DpAll K H vs ds → vs.length = ds.length
  | _, _, .nil => rfl
  | _, _, .cons _ t => congrArg Nat.succ (DpAll.len t)
theorem DpAll.get : ∀ {vs : List V} {ds : List PyData} {i : Nat} {v : V}, DpAll K H vs ds → vs[i]? = some v → ∃ d, ds[i]? = some d ∧ Dp K H v d
  | _, _, _, _, .nil, e => by simp at e
  | _, _, 0, _, .cons r _, e => by simp at e; subst e; exact ⟨_, rfl, r⟩
  | _, _, i + 1, v, .cons _ t, e => by
    obtain ⟨d, h1, h2⟩ := DpAll.get (i := i) (v := v) t (by simpa using e)
    exact ⟨d, by simpa using h1, h2⟩
theorem DpAll.at : ∀ {vs : List V} {ds : List PyData} {i : Nat} {d : PyData}, DpAll K H vs ds → ds[i]? = some d → ∃ v, vs[i]? = some v ∧ Dp K H v d
  | _, _, _, _, .nil, e => by simp at e
  | _, _, 0, _, .cons r _, e => by simp at e; subst e; exact ⟨_, rfl, r⟩
  | _, _, i + 1, d, .cons _ t, e => by
    obtain ⟨v, h1, h2⟩ := DpAll.at (i := i) (d := d) t (by simpa using e)
    exact ⟨v, by simpa using h1, h2⟩
theorem DpAll.snoc : ∀ {vs : List V} {ds : List PyData} {v : V} {d : PyData}, DpAll K H vs ds → Dp K H v d → DpAll K H (vs ++ [v]) (ds ++ [d])
  | _, _, _, _, .nil, h => .cons h .nil
  | _, _, _, _, .cons r t, h => .cons r (DpAll.snoc t h)
end

end L2
namespace Mh
open PySem PySem.Spec PyProof.Rows L2
/-! ### isinstance of data, a built-in type -/
def isTy (n : String) : PyData → Bool
  | .none => n == "NoneType"
  | .bool _ => n == "bool" || n == "int"
  | .int _ => n == "int"
  | .str _ => n == "str"
  | .list _ => n == "list"
  | .tuple _ => n == "tuple"
  | .dict _ => n == "dict"
def tyD : PyData → String
  | .none => "NoneType"
  | .bool _ => "bool"
  | .int _ => "int"
  | .str _ => "str"
  | .list _ => "list"
  | .tuple _ => "tuple"
  | .dict _ => "dict"
def sixTy : List String := ["int", "bool", "str", "tuple", "list"]
theorem kit_tab : sixTy.all (fun n => ["NoneType", "bool", "int", "str", "list", "tuple"].all fun t => decide (kitB t n = some ((t == n) || (t == "bool" && n == "int")))) = true := by decide +kernel
theorem isTy_eq (n : String) (d : PyData) (hn : n ∈ sixTy) : isTy n d = ((tyD d == n) || (tyD d == "bool" && n == "int")) := by
  simp only [sixTy, List.mem_cons, List.mem_nil_iff, or_false] at hn
  rcases hn with rfl | rfl | rfl | rfl | rfl <;> cases d <;> rfl
section
variable {K : PySem.W.Frag} {H : Hp}
theorem tyx_of {v : V} {d : PyData} (h : Dp K H v d) : TyX K H v (.type (tyD d)) := by
  cases h with
  | non => exact .base .non
  | bl b => exact .base (.bl b)
  | int i => exact .base (.int i)
  | str x => exact .base (.str x)
  | lst hs _ =>
    rcases hs with (h | ⟨o, h⟩) | ⟨o, its, n, hk, hc, _⟩
    · exact .base (.lst h)
    · exact .base (.frz h)
    · exact .kList hk hc
  | tup hs _ =>
    rcases hs with (h | ⟨o, h⟩) | ⟨o, its, n, hk, hc, _⟩
    · exact .base (.tup h)
    · exact .fTuple h
    · exact .kTuple hk hc
theorem tyD_mem {v : V} {d : PyData} (h : Dp K H v d) : tyD d ∈ ["NoneType", "bool", "int", "str", "list", "tuple"] := by
  cases h <;> simp [tyD]
theorem kit_of_tab {t n : String} (ht : t ∈ ["NoneType", "bool", "int", "str", "list", "tuple"]) (hn : n ∈ sixTy) : kitB t n = some ((t == n) || (t == "bool" && n == "int")) := by
  have h := List.all_eq_true.mp (List.all_eq_true.mp kit_tab n hn) t ht
  exact of_decide_eq_true h
/-- isinstance(x, n) -/
def rIsD (K : PySem.W.Frag) : List V → Hp → VK → Prop := fun xs H Q => ∃ (x : V) (n : String) (d : PyData), xs = [x, .ty n] ∧ n ∈ sixTy ∧ Dp K H x d ∧ Q (.bl (isTy n d)) H
theorem call_isiD {X : Cx} : CallR X (.builtin "isinstance") (rIsD X.K) := fun pins s σ H xs us Q I r h => by
  obtain ⟨x, n, d, e, hn, hd, q⟩ := h
  refine call_isi pins s σ H xs us Q I r ⟨x, .ty n, .type (tyD d), .type n, isTy n d, e, .ty n, tyx_of hd, kit_ty ?_, q⟩
  rw [kit_of_tab (tyD_mem hd) hn, isTy_eq n d hn]
end

/-! ### a def of the text, as its callers want it -/
structure Def (P : Program) (w : World) (K : PySem.W.Frag) (mg : Str → Option Value) (base : Heap) (CX : CXT) (k : Nat) (x : Str) (ps : List Str) (sp : Sp) : Prop where
  ex : ∃ (f : Addr) (fd : FuncData), FnOk P w K mg base CX k f fd ps sp ∧ Binds K fd ps [] ∧ mg x = some (.ref f) ∧ PySem.W.keepIn K (.ref f) = true
section
variable {X : Cx} {CX : CXT} {k : Nat} {ps : List Str} {sp : Sp} {E : XK} {x : Str} {p pos : Pos} {e : Expr} {es : List Expr} {t : TA}
theorem pe_def (F : Def X.prog X.w X.K X.mg X.base CX k x ps sp) (hr : Room k X.A) (hx : Passes CX X E) (ha : PA X (e :: es) t) (hg : Gl X x := by rfl) (hdb : (x == ("__debug__" : Str)) = false := by decide)
    (he : starEach (e :: es) X.env = (false, eval e X.env) :: starEach es X.env := by rfl) (hpl : (backTo pos (starEach es X.env)).any (·.1) = false := by rfl) :
    PE X (.Call (.Name x p) (e :: es) [] pos) (tCall sp [] E t) := by
  obtain ⟨f, fd, F1, b, g, kp⟩ := F.ex
  exact pe_call F1 hr hg g kp b .nil hx ha hdb he hpl
theorem pe_def0 (F : Def X.prog X.w X.K X.mg X.base CX k x ps sp) (hr : Room k X.A) (hx : Passes CX X E) (hg : Gl X x := by rfl) (hdb : (x == ("__debug__" : Str)) = false := by decide) :
    PE X (.Call (.Name x p) [] [] pos) (tCall sp [] E tNil) := by
  obtain ⟨f, fd, F1, b, g, kp⟩ := F.ex
  exact pe_call0 F1 hr hg g kp b .nil hx hdb
/-- a module's number, text -/
theorem gC {i : Int} (h : ∃ t, X.mg x = some (.int i t)) (hg : Gl X x := by rfl) (hd : (x == ("__debug__" : Str)) = false := by decide) : PE X (.Name x pos) (tC (.int i)) := by
  obtain ⟨t, h⟩ := h
  exact pe_glob hg h ⟨t, rfl⟩ hd
theorem gS {z : Str} (h : ∃ t, X.mg x = some (.str z t)) (hg : Gl X x := by rfl) (hd : (x == ("__debug__" : Str)) = false := by decide) : PE X (.Name x pos) (tC (.str z)) := by
  obtain ⟨t, h⟩ := h
  exact pe_glob hg h ⟨t, rfl⟩ hd
/-- a built-in type's name as a value -/
theorem gT {n : String} (hm : X.mg x = none) (hg : Gl X x := by rfl) (hv : bootBuiltins x = some (.type n) := by decide +kernel) (hn : x ≠ "__name__" := by decide) (hd : (x == ("__debug__" : Str)) = false := by decide) : PE X (.Name x pos) (tC (.ty n)) :=
  pe_bltn hg hm hv rfl hn hd
end
/-! ### small things -/
theorem ifT {c : Bool} {A B : Prop} (h : c = true) (a : A) : if c = true then A else B := by rw [if_pos h]; exact a
theorem ifF {c : Bool} {A B : Prop} (h : c = false) (b : B) : if c = true then A else B := by rw [if_neg (by rw [h]; decide)]; exact b
theorem ifB {c : Bool} {A B : Prop} (a : c = true → A) (b : c = false → B) : if c = true then A else B := by
  cases h : c with
  | true => exact ifT rfl (a h)
  | false => exact ifF rfl (b h)
theorem sz2 {n : Nat} (h : n ≤ 1000) : n ≤ sizeLine := Nat.le_trans h (by decide)
end Mh
/-! MhSet -/
namespace Mh
open PySem PySem.Spec PyProof.Rows L2

/-! ### set(xs), xs a list of ints, as the hand layer's sets are told (an adaption of the library's own way for a tuple) -/
section
variable {P : Program} {w : World} {A : Around} {E : Value → Shared → Prop} {s : Shared}
abbrev newS (w : World) : Obj := { cls := .type "set", dict := none, data := .set #[] 0 (.fresh 0 0 (!w.params.followText "set-order")) }
set_option maxHeartbeats 8000000 in
theorem set_listI {l : Addr} {items : Array Value} (ns : List Int) {Q : Value → Shared → Prop} (hh : A.handled = none) (hl : s.heap.IsList l items) (hit : IntsAre items.toList ns) (hb : ns.length + 1 < scanBound)
    (h : ∀ (h' : Heap) (tk c : Nat), SetR w h' s.heap.objs.size (fun j => decide (j ∈ ns)) c → c ≤ ns.length → (∀ b o, s.heap.get? b = some o → h'.get? b = some o) → Q (.ref s.heap.objs.size) { s with heap := h', toks := tk }) :
    wpAny (model P w) A (call (.type "set") [.ref l]) Q E s := by
  have sz : items.size = ns.length := by
    have q := IntsAre.length hit
    rw [Array.length_toList] at q
    exact q
  obtain ⟨c, tl, hmro⟩ := F.called_set.mro
  have a1 := F.called_set.made
  have a2 := F.called_set.sub
  refine wpAny_call (codeAny_of_tree ?_)
  show wpAny _ _ (callAny (.type "set") _) _ _ _
  refine wpAny_pure ⟨Code.quiet_builtin _ (by decide +kernel), codeAny_builtin F.entry_type_call ?_⟩
  rw [Around.under_plain (weight_type_call_type "set" [.ref l] []) rfl]
  have a3 := F.called_set.notType
  have a4 := F.called_set.canCreate
  have a5 := F.typeCall_set_1 (.ref l)
  repeat (any_goals (first | assumption | wp_step))
  refine codeAny_mono (code_set_led1 (.ref l) (E := E) (Q₁ := fun obj s₁ => obj = .ref s.heap.objs.size ∧ s₁ = { s with heap := s.heap.push (newS w) }) ⟨rfl, rfl⟩) fun r s₁ hr => ?_
  cases r with
  | error e => exact hr
  | ok fl =>
    cases fl with
    | ret obj =>
      obtain ⟨rfl, rfl⟩ := hr
      have hS : (s.heap.push (newS w)).get? s.heap.objs.size = some (newS w) := Heap.get?_push_size _ rfl
      have hT : Shared.TypeIs { s with heap := s.heap.push (newS w) } (.ref s.heap.objs.size) "set" := ⟨_, hS, rfl⟩
      have a6 := F.called_set.init.lookup
      have a7 := F.called_set.init.bind (.ref s.heap.objs.size)
      repeat (any_goals (first | assumption | wp_step))
      refine codeAny_mono (codeAny_call_builtin (R := wants (fun r s₂ => r = .none ∧ ∃ h' tk c, s₂ = { s with heap := h', toks := tk } ∧ SetR w h' s.heap.objs.size (fun j => decide (j ∈ ns)) c ∧ c ≤ ns.length ∧
          (∀ b o, s.heap.get? b = some o → h'.get? b = some o)) E) F.called_set.init.plain F.entry_set_init (check_set_init_1 hT ?_)) fun r₂ s₂ hr₂ => ?_
      · obtain ⟨ol, hol, hcl, nl, hdl⟩ := hl
        obtain ⟨ocls, odict, odata, oslots⟩ := ol
        simp only at hcl hdl
        subst hcl; subst hdl
        have hol' : (s.heap.push (newS w)).get? l = some { cls := .type "list", dict := odict, data := .seq items nl, slots := oslots } := Heap.get?_push_of_some _ hol
        have b1 := F.sub_list_set
        have b2 := F.sub_list_frozenset
        have b3 : (Value.type "list" == Value.type "dict") = false := by decide
        have hl1 : (s.heap.push (newS w)).IsList l items := ⟨_, hol', rfl, nl, rfl⟩
        unfold Builtin.«set.__init__» noKeywords Builtin.Frozenset.updateFrom
        generalize hPI : pyIter = PI
        wp_walk
        subst hPI
        refine wpAny_pyIter_list hl1 (wpAny_bind (wpAny_runValue ?_))
        have hlS : l < s.heap.objs.size := Heap.lt_size hol
        have hh3 : A.in1.in1.in1.handled = none := by simp [hh]
        have z1 : (s.heap.push (newS w)).objs.size = s.heap.objs.size + 1 := Heap.size_push ..
        have hneI : l ≠ (s.heap.push (newS w)).objs.size := by rw [z1]; exact Nat.ne_of_lt (Nat.lt_succ_of_lt hlS)
        have hSf : s.heap.objs.size ∉ [(s.heap.push (newS w)).objs.size, l] := by
          rw [z1]
          intro m
          rcases List.mem_cons.mp m with m | m
          · exact Nat.ne_of_lt (Nat.lt_succ_self _) m
          · exact Nat.ne_of_gt hlS (List.mem_singleton.mp m)
        have hval : ∀ (i : Nat) (v : Value), items[i]? = some v → ∃ k t, ns[i]? = some k ∧ v = .int k t := fun i v hv => by
          have hi : i < ns.length := by rw [← sz]; exact (Array.getElem?_eq_some_iff.mp hv).1
          obtain ⟨t, e⟩ := PyProof.Rows.IntsAre.int_at hit i v (by rw [Array.getElem?_toList]; exact hv)
          refine ⟨ns[i], t, List.getElem?_eq_getElem hi, ?_⟩
          rw [e, List.getD_eq_getElem?_getD, List.getElem?_eq_getElem hi] <;> rfl
        refine set_update_ints ((Walks.list hh3 _ l hneI items).toS) s.heap.objs.size hSf ns sz hb hval (items.size - 0) 0 _ (by omega) (Nat.zero_le _) ⟨⟨_, Heap.get?_push_size _ rfl, rfl, rfl⟩, (hl1.push _)⟩ ?hS0 ?hR
        case hS0 =>
          have g0 : ((s.heap.push (newS w)).push { cls := .type "list_iterator", data := .fields #[.ref l, .int 0 0] }).get? s.heap.objs.size = some (newS w) := Heap.get?_push_of_some _ hS
          exact ⟨0, Nat.le_refl 0, setR_new_at g0⟩
        case hR =>
          intro s' c' hm hc' hS'
          obtain ⟨h', g2, d', tk', os'⟩ := s'
          have e1 : g2 = s.gens := hm.gens
          have e2 : d' = s.drawn := hm.drawn
          have e3 : os' = s.os := hm.os
          subst e1; subst e2; subst e3
          show wpAny _ _ _ _ _ _
          refine wpAny_pure ?_
          show wpAny _ _ (ret Value.none) _ _ _
          rw [sz] at hc'
          refine wpAny_pure ⟨rfl, h', tk', c', rfl, hS', hc', fun b o e => ?_⟩
          have hb0 : b < s.heap.objs.size := Heap.lt_size e
          have n1 : b ≠ s.heap.objs.size := Nat.ne_of_lt hb0
          have n2 : b ≠ (s.heap.push (newS w)).objs.size := by rw [z1]; exact Nat.ne_of_lt (Nat.lt_succ_of_lt hb0)
          refine hm.heap b o (fun m => ?_) (Heap.get?_push_of_some _ (Heap.get?_push_of_some _ e))
          rcases List.mem_cons.mp m with m | m
          · exact n1 m
          · exact n2 (List.mem_singleton.mp m)
      · cases r₂ with
        | error e => exact hr₂
        | ok fl₂ =>
          cases fl₂ with
          | ret r =>
            obtain ⟨rfl, h', tk, c', rfl, hS', hc', hk'⟩ := hr₂
            repeat (any_goals (first | assumption | wp_step))
            exact h _ _ _ hS' hc' hk'
          | _ => exact hr₂.elim
    | _ => exact hr.elim
end
def rSetL (K : PySem.W.Frag) (w : World) : List V → Hp → VK → Prop := fun xs H Q => ∃ (l : Addr) (ns : List Int), xs = [V.ref l] ∧ SqL K H l (ns.map V.int) ∧ ns.length < 60 ∧
  ∀ a c, H a = none → c ≤ ns.length → Q (.ref a) (upd H a (SetO w a (fun j => decide (j ∈ ns)) c))
theorem cr_setL {X : Cx} (hc : X.calm = true) : CallR X (.type "set") (rSetL X.K X.w) := fun pins s σ H xs us Q I r h => by
  obtain ⟨l, ns, rfl, hq, hn, q⟩ := h
  rw [Vals.ref1 r]
  obtain ⟨its, rv, pl, hz⟩ := I.list hq
  refine set_listI ns (I.ok.hd hc) pl.isList (by simpa using rv.ints) (by unfold scanBound; omega) fun h' tk c R hcn k => ?_
  have fr : H s.heap.objs.size = none := I.hok.fresh (Nat.le_refl _)
  exact ⟨.ref s.heap.objs.size, _, I.laid (t' := tk) (fun b u e => k b u e) (Nat.le_refl _) (setO_new R), rfl, q _ c fr hcn⟩

end Mh
/-! MhRules -/
namespace Mh
open PySem PySem.Spec PyProof.Rows L2

/-! ### for i, x in enumerate(t), t a tuple -/
section
variable {prog : Program} {w : World} {A : Around} {E : Value → Shared → Prop} {s : Shared}
theorem meets_enT (l : Addr) (items : Array Value) (n : Nat) (dct : Option Addr) (sl : Array (Option Value)) :
    Meets (Builtin.«enumerate.__new__» ⟨[.type "enumerate", .ref l], []⟩) (fun _ R s => s.heap.get? l = some { cls := .type "tuple", dict := dct, data := .seq items n, slots := sl } ∧
      R (.ok (.ret (.ref (s.heap.push { cls := .type "tuple_iterator", data := .fields #[.ref l, .int 0 0] }).objs.size)))
        { s with heap := (s.heap.push { cls := .type "tuple_iterator", data := .fields #[.ref l, .int 0 0] }).push { cls := .type "enumerate", data := .fields #[.none, .bool false, .ref s.heap.objs.size, rawInt 0, .none, .none] } }) :=
  .of_wp fun prog w A R s h => by
    obtain ⟨hp, g, d, tk, os⟩ := s
    obtain ⟨hl, h⟩ := h
    have hsub := sub_enumerate
    have hL : Heap.IsTuple (Shared.heap ⟨hp, g, d, tk, os⟩) l items := ⟨_, hl, rfl, n, rfl⟩
    wp_walk using AutoSeq1.wpAny_loadPart' hl
    refine wpAny_stack_any fun st => wpAny_pure ?_
    split
    · rename_i c _ _ _ _ _
      cases (c == Value.type "enumerate") <;> (wp_walk using AutoSeq1.wpAny_loadPart' hl, wpAny_pyIter_tuple hL; exact ⟨_, rfl, h⟩)
    · wp_walk using AutoSeq1.wpAny_loadPart' hl, wpAny_pyIter_tuple hL
      exact ⟨_, rfl, h⟩
theorem call_enT {l : Addr} {items : Array Value} {Q : Value → Shared → Prop} (hL : s.heap.IsTuple l items)
    (h : ∀ h', IsEnum h' (s.heap.objs.size + 1) s.heap.objs.size 0 .none → h'.IsTupleIter s.heap.objs.size l 0 → (∀ b o, s.heap.get? b = some o → h'.get? b = some o) → Q (.ref (s.heap.objs.size + 1)) { s with heap := h' }) :
    wpAny (model prog w) A (call (.type "enumerate") [.ref l]) Q E s := by
  obtain ⟨⟨c, dct, dt, sl⟩, hl, hc, n, hd⟩ := hL
  replace hc : c = .type "tuple" := hc
  replace hd : dt = .seq items n := hd
  subst hc hd
  refine callType_new F.called_enumerate (by decide) (F.typeCall_enumerate_1 _) (F.newCall_enumerate_1 _) (fun obj => F.args_object_init_2 obj _) F.entry_enumerate_new (meets_enT l items n dct sl) ⟨hl, ?_⟩
  have hz : (s.heap.push { cls := .type "tuple_iterator", data := .fields #[.ref l, .int 0 0] }).objs.size = s.heap.objs.size + 1 := Heap.size_push ..
  show _ ∧ _
  rw [hz]
  have he : IsEnum ((s.heap.push { cls := .type "tuple_iterator", data := .fields #[.ref l, .int 0 0] }).push { cls := .type "enumerate", data := .fields #[.none, .bool false, .ref s.heap.objs.size, rawInt 0, .none, .none] }) (s.heap.objs.size + 1) s.heap.objs.size 0 .none := by
    have q := Heap.get?_push_size (s.heap.push { cls := .type "tuple_iterator", data := .fields #[.ref l, .int 0 0] }) (o := { cls := .type "enumerate", data := .fields #[.none, .bool false, .ref s.heap.objs.size, rawInt 0, .none, .none] }) rfl
    rw [hz] at q
    exact q
  exact ⟨⟨_, he, rfl⟩, h _ he ⟨_, Heap.get?_push_of_some _ (Heap.get?_push_size _ rfl), rfl, rfl⟩ fun b o x => Heap.get?_push_of_some _ (Heap.get?_push_of_some _ x)⟩
theorem enT_end {e it l : Addr} {i : Nat} {items : Array Value} {old : Value} {Q : Option Value → Shared → Prop} (hh : A.handled = none)
    (he : IsEnum s.heap e it i old) (hit : s.heap.IsTupleIter it l i) (hl : s.heap.IsTuple l items) (hx : items[i]? = none) (hQ : ∀ h', Heap.ExtBut it s.heap h' → Q none { s with heap := h' }) : wpAny (model prog w) A (pyNext (.ref e)) Q E s := by
  have hT : s.TypeIs (.ref e) "enumerate" := ⟨_, he, rfl⟩
  unfold pyNext
  refine wpAny_bind (wpAny_attempt (wpAny_callSpecial?_slot (name := Str.ofString "__next__") hT F.slot_enumerate_next (wpAny_call_entry F.slot_enumerate_next hT F.entry_enumerate_next ?_ (F.args_enumerate_next_1 _))))
  show wpAny _ _ (field (.ref e) 2 >>= _) _ _ _
  refine wpAny_bind (wpAny_field he rfl (x := .ref it) rfl ?_)
  refine wpAny_bind (RZ.nextOf_tuple_end hh hit hl hx fun h' x he' hx' => ?_)
  obtain ⟨o, ho, hc⟩ := hx'
  exact wpAny_bind (wpAny_isInstance (T := "StopIteration") (b := true) ⟨o, ho, hc⟩ isSubtype_stop (wpAny_pure (hQ _ he')))
end
def IteT (K : PySem.W.Frag) (a : Addr) : It :=
  ⟨fun i H => ∃ (xs : List V) (x : V), SqT K H a xs ∧ xs[i]? = some x, fun i H v H' => ∃ T x, v = .ref T ∧ H T = none ∧ H' = upd H T (.tup [.int (i : Nat), x]) ∧ ∀ xs, SqT K H a xs → xs[i]? = some x, fun i H => ∃ xs : List V, SqT K H a xs ∧ xs.length ≤ i⟩
theorem turn_enT {P : Program} {w : World} {K : PySem.W.Frag} {elts : List Expr} {kk : Nat} {tpos : Pos} (a e it : Addr) :
    Turn P w K (.Tuple elts kk tpos) (IteT K a) [e, it] e (fun i h => (∃ old, IsEnum h e it ((i : Nat) : Int) old) ∧ h.IsTupleIter it a i ∧ e ≠ it) where
  mem := by simp
  obj := fun i h st b hb => by
    obtain ⟨⟨old, he⟩, ⟨o, ho, hc, hd⟩, _⟩ := st
    have e' : b = e ∨ b = it := by simpa using hb
    rcases e' with z | z
    · rw [z]; exact ⟨_, he, fun v q => nomatch q⟩
    · rw [z]; exact ⟨o, ho, fun v q => by rw [hd] at q; cases q⟩
  keep := fun i h h' st k => let ⟨⟨old, he⟩, hi, hne⟩ := st; ⟨⟨old, k e (by simp) _ he⟩, hi.at fun o q => k it (by simp) o q, hne⟩
  item := fun {X} hP hw hK hc i pins s σ H E I hf st hg => by
    subst hP hw hK
    obtain ⟨⟨old, he⟩, hit, hne⟩ := st
    obtain ⟨xs, x, hq, hx⟩ := hg
    obtain ⟨its, rv, p, hz⟩ := I.tuple hq
    obtain ⟨u, hu, ru⟩ := rv.get hx
    have hel : e < s.heap.objs.size := Heap.lt_size he
    have hil : it < s.heap.objs.size := by obtain ⟨_, q, _⟩ := hit; exact Heap.lt_size q
    have hat : a ≠ it := fun z => by
      obtain ⟨o1, q1, c1, _⟩ := hit
      obtain ⟨o2, q2, c2, _⟩ := p
      rw [z, q1] at q2
      rw [← Option.some.inj q2, c1] at c2
      exact absurd (Value.type.inj c2) (by decide)
    have hae : e ≠ a := fun z => by
      obtain ⟨o2, q2, c2, _⟩ := p
      rw [← z, he] at q2
      rw [← Option.some.inj q2] at c2
      exact absurd (Value.type.inj c2) (by decide)
    have hlt : i < its.toArray.size := by
      have := (List.getElem?_eq_some_iff.mp hu).1
      simpa using this
    refine wpAny_pyNext_enum_itemD (Draws.tuple (by rw [show X.A.in1.handled = X.A.handled from rfl]; exact I.ok.hd hc) it a hat its.toArray) he ⟨hit, p⟩ hlt hne (fun m => ?_) fun x1 h' tk hx1 ho hst' hT hsz hk => ?_
    · rcases List.mem_cons.mp m with m | m
      · exact hne m
      · exact hae (List.mem_singleton.mp m)
    obtain ⟨hit', _⟩ := hst'
    have e1 : x1 = u := by
      have q : its[i]? = some x1 := by simpa using hx1
      rw [hu] at q
      exact (Option.some.inj q).symm
    subst e1
    refine ⟨_, rfl, wpAny_letOwnedTupleGo_enum (s := { s with heap := h', toks := tk + 1 }) ho fun h'' he' sb => ?_⟩
    have hT2 : h''.get? s.heap.objs.size = some { cls := .type "tuple", data := .seq #[.int i tk, x1] } := (sb.2 _ (Nat.ne_of_gt hel)).trans hT
    have new : ObjOk X.prog X.w (upd H s.heap.objs.size (.tup [.int (i : Nat), x])) h'' s.heap.objs.size (.tup [.int (i : Nat), x]) :=
      ⟨by show 2 ≤ sizeLine; decide, [.int i tk, x1], .cons ⟨_, rfl⟩ (.cons ru .nil), ⟨_, hT2, rfl, _, rfl⟩⟩
    have I1 : Inv X pins σ (upd H s.heap.objs.size (.tup [.int (i : Nat), x])) { s with heap := h'', toks := tk + 1 } :=
      I.turnedNew (ch := [e, it]) (fun b ob hb q => (sb.2 b (fun z => hb (by simp [z]))).trans (hk b ob (fun z => hb (by simp [z])) (fun z => hb (by simp [z])) q)) hf (Nat.le_refl _) new
    refine ⟨.ref s.heap.objs.size, _, I1, rfl, ⟨_, x, rfl, I.hok.fresh (Nat.le_refl _), rfl, fun ys hy => by rw [I.tuple_inj hy hq]; exact hx⟩, ⟨⟨x1, ?_⟩, hit'.at fun o q => (sb.2 it (Ne.symm hne)).trans q, hne⟩, fun b hb => ?_⟩
    · have e2 : ((i + 1 : Nat) : Int) = (i : Int) + 1 := by omega
      rw [e2]
      exact he'
    · have hb' : b < s.heap.objs.size := by
        have e' : b = e ∨ b = it := by simpa using hb
        rcases e' with z | z
        · rw [z]; exact hel
        · rw [z]; exact hil
      rw [upd_ne (Nat.ne_of_lt hb')]
      exact (hf b hb).1
  done := fun {X} hP hw hK hc i pins s σ H E I hf st hg => by
    subst hP hw hK
    obtain ⟨⟨old, he⟩, hit, hne⟩ := st
    obtain ⟨xs, hq, hx⟩ := hg
    obtain ⟨its, rv, p, hz⟩ := I.tuple hq
    have hl := rv.length
    have hat : a ≠ it := fun z => by
      obtain ⟨o1, q1, c1, _⟩ := hit
      obtain ⟨o2, q2, c2, _⟩ := p
      rw [z, q1] at q2
      rw [← Option.some.inj q2, c1] at c2
      exact absurd (Value.type.inj c2) (by decide)
    obtain ⟨f0, f1, f2, f3, f4, f5⟩ := hf it (by simp)
    refine enT_end (I.ok.hd hc) he hit p (by simp; omega) fun h' eb => ⟨rfl, I.turned (t' := s.toks) (fun b o hb q => eb b o hb q) f0 f1 f3 f4 f5⟩
  self := fun A i s Q E st h => let ⟨⟨_, he⟩, _⟩ := st; wpAny_pyIter_enum he h
def iEnT (K : PySem.W.Frag) (ta : TA) : TI := fun σ H R => ta σ H fun vs H1 => ∃ a xs, vs = [.ref a] ∧ SqT K H1 a xs ∧ R (IteT K a) H1
theorem pi_enumT {X : Cx} {e : Expr} {ta : TA} {p pos tpos : Pos} {elts : List Expr} {kk : Nat} (hg : Gl X "enumerate") (hm : X.mg "enumerate" = none) (ha : PA X [e] ta) (hs : starEach [e] X.env = [(false, eval e X.env)] := by rfl) :
    PI X (.Tuple elts kk tpos) (.Call (.Name "enumerate" p) [e] [] pos) (iEnT X.K ta) := ⟨fun pins s σ H R I h => by
  refine Call_ (ld_blt I hg hm boot_enumerate (PyProof.Rows.callWith_type1 (thn (ha.run pos pins s σ H _ I h) fun us s1 ⟨vs, H1, I1, r1, q1⟩ => ?_) hs rfl))
  obtain ⟨a, xs, ex, hq, q⟩ := q1
  subst ex
  rw [Vals.ref1 r1]
  obtain ⟨its, rv, p', hz⟩ := I1.tuple hq
  refine call_enT p' fun h' he hit hk => wpAny_pyIter_enum he ?_
  have I2 : Inv X pins σ H1 { s1 with heap := h' } := I1.kept (t' := s1.toks) hk
  refine ⟨s1.heap.objs.size + 1, [s1.heap.objs.size + 1, s1.heap.objs.size], _, _, H1, rfl, I2, turn_enT a (s1.heap.objs.size + 1) s1.heap.objs.size, ⟨⟨.none, he⟩, hit, Nat.succ_ne_self _⟩, fun b hb => ?_, q⟩
  have hle : s1.heap.objs.size ≤ b := by
    rcases List.mem_cons.mp hb with z | z
    · rw [z]; exact Nat.le_add_right _ _
    · rw [List.mem_singleton.mp z]; exact Nat.le_refl _
  exact I1.fpOk hle (I1.hok.fresh hle)⟩
/-- a loop over enumerate(t) -/
theorem for_enT {K : PySem.W.Frag} {a : Addr} {xs : List V} {g : TG} {tb : TS} {D : Ends} {σ : L2.St} {H : Hp} (Pv : Nat → L2.St → Hp → Prop) (h0 : Pv 0 σ H) (hq : ∀ i σ H, Pv i σ H → SqT K H a xs)
    (hs : ∀ (i : Nat) (x : V) (T : Addr) (σ : L2.St) (H : Hp), xs[i]? = some x → Pv i σ H → H T = none → g (.ref T) σ (upd H T (.tup [.int (i : Nat), x])) fun σ2 H2 => tb { D with nx := Pv (i + 1), ct := Pv (i + 1), bk := D.nx } σ2 H2) (hd : ∀ σ H, Pv xs.length σ H → D.nx σ H) :
    ∃ W : Nat → Nat → L2.St → Hp → Prop, (∃ m, W 0 m σ H) ∧ ∀ i m σ H, W i m σ H →
      ((IteT K a).stop i H ∧ D.nx σ H) ∨ ((IteT K a).go i H ∧ ∃ N : L2.St → Hp → Prop, (∀ σ' H', N σ' H' → ∃ m', m' < m ∧ W (i + 1) m' σ' H') ∧ ∀ v H', (IteT K a).yld i H v H' → g v σ H' fun σ2 H2 => tb { D with nx := N, ct := N, bk := D.nx } σ2 H2) := by
  refine ⟨fun i m σ H => m = xs.length - i ∧ i ≤ xs.length ∧ Pv i σ H, ⟨xs.length, rfl, Nat.zero_le _, h0⟩, ?_⟩
  rintro i m σ H ⟨rfl, hi, p⟩
  have q := hq i σ H p
  by_cases hlt : i < xs.length
  · refine .inr ⟨⟨xs, xs[i], q, List.getElem?_eq_getElem hlt⟩, Pv (i + 1), fun σ' H' p' => ⟨xs.length - (i + 1), by omega, rfl, hlt, p'⟩, fun v H' y => ?_⟩
    obtain ⟨T, x', rfl, hT, rfl, f1⟩ := y
    exact hs i x' T σ H (f1 xs q) p hT
  · have e : i = xs.length := by omega
    subst e
    exact .inl ⟨⟨xs, q, Nat.le_refl _⟩, hd σ H p⟩
/-- a comprehension over enumerate(t) -/
theorem lc_enT {K : PySem.W.Frag} {a : Addr} {xs : List V} {g : TG} {tt : TT} {te : TE} {vs : List Nat} {σ : L2.St} {H1 : Hp} {D : Addr} {Qd : Hp → Prop} (Pv : Nat → Hp → Prop) (h0 : Pv 0 (upd H1 D (.lst []))) (hl : ∀ i H, Pv i H → SqT K H a xs)
    (hs : ∀ (i : Nat) (x : V) (T : Addr) H, xs[i]? = some x → Pv i H → H T = none → g (.ref T) (wipe σ vs) (upd H T (.tup [.int (i : Nat), x])) fun σ2 H2 => wipe σ2 vs = wipe σ vs ∧ tt σ2 H2 fun b H3 =>
      if b = true then te σ2 H3 fun y H4 => ∃ acc, H4 D = some (.lst acc) ∧ acc.length < sizeLine ∧ Pv (i + 1) (upd H4 D (.lst (acc ++ [y]))) else Pv (i + 1) H3) (hd : ∀ H, Pv xs.length H → Qd H) :
    ∃ W : Nat → Nat → Hp → Prop, (∃ m, W 0 m (upd H1 D (.lst []))) ∧ ∀ i m H, W i m H →
      ((IteT K a).stop i H ∧ Qd H) ∨ ((IteT K a).go i H ∧ ∃ Nx : Hp → Prop, (∀ H', Nx H' → ∃ m', m' < m ∧ W (i + 1) m' H') ∧ ∀ x H', (IteT K a).yld i H x H' → g x (wipe σ vs) H' fun σ2 H2 => wipe σ2 vs = wipe σ vs ∧ tt σ2 H2 fun b H3 =>
        if b = true then te σ2 H3 fun y H4 => ∃ acc, H4 D = some (.lst acc) ∧ acc.length < sizeLine ∧ Nx (upd H4 D (.lst (acc ++ [y]))) else Nx H3) := by
  refine ⟨fun i m H => m = xs.length - i ∧ i ≤ xs.length ∧ Pv i H, ⟨xs.length, by simp, Nat.zero_le _, h0⟩, ?_⟩
  rintro i m H ⟨rfl, hi, p⟩
  have q := hl i H p
  by_cases hlt : i < xs.length
  · refine .inr ⟨⟨xs, xs[i], q, List.getElem?_eq_getElem hlt⟩, Pv (i + 1), fun H' p' => ⟨xs.length - (i + 1), by omega, rfl, hlt, p'⟩, fun x H' y => ?_⟩
    obtain ⟨T, x', rfl, hT, rfl, f1⟩ := y
    exact hs i x' T H (f1 xs q) p hT
  · have e : i = xs.length := by omega
    subst e
    exact .inl ⟨⟨xs, q, Nat.le_refl _⟩, hd H p⟩
end Mh
/-! MhMore -/
namespace Mh
open PySem PySem.Spec PyProof.Rows L2
/-- an object of one's own, new since H0, may change -/
theorem Fx.loc {M : List Addr} {H0 H : Hp} {D : Addr} {o : HO} (a : Fx M H0 H) (h : H0 D = none) (c : Chg H D) : Fx M H0 (upd H D o) :=
  ((a.mono fun x m => List.mem_cons_of_mem _ m).trans (Fx.set (M := D :: M) List.mem_cons_self c)).drop h
theorem Fx.ne {M : List Addr} {H0 H : Hp} {p q : Addr} {o : HO} (a : Fx M H0 H) (h : H0 p = some o) (h2 : H q = none) : p ≠ q := fun z => by
  have := a.free h2
  rw [← z, h] at this
  cases this
theorem execs_app (env : Env) (b : List Stmt) : ∀ a : List Stmt, execs (a ++ b) env = execs a env >>= fun f => match f with | .next => execs b env | f => pure f
  | [] => by
    show execs b env = pure Flow.next >>= _
    rw [pure_bind]
  | st :: r => by
    show (exec st env >>= fun f => match f with | .next => execs (r ++ b) env | f => pure f) = ((exec st env >>= fun f => match f with | .next => execs r env | f => pure f) >>= _)
    rw [bind_assoc]
    congr 1
    funext f
    cases f with
    | next => exact execs_app env b r
    | _ => rw [pure_bind]
/-- a block in two parts, a word between them -/
theorem pss_at {X : Cx} {st : List Stmt} {t u : TS} (n : Nat) (h1 : PSs X (st.take n) t) (h2 : PSs X (st.drop n) u) : PSs X st (Evl.tCut t u) := by
  refine ⟨fun pins s σ H D I h => ?_⟩
  obtain ⟨Mid, hm, hu⟩ := h
  rw [← List.take_append_drop n st, execs_app]
  refine wpAny_bind (thn (h1.run pins s σ H { D with nx := Mid } I hm) fun f s1 q => ?_)
  cases f with
  | next =>
    obtain ⟨σ', H', I', q⟩ := q
    exact h2.run pins s1 σ' H' D I' (hu σ' H' q)
  | ret v => exact wpAny_pure q
  | brk => exact wpAny_pure q
  | cont => exact wpAny_pure q
section
variable {X : Cx} {K : PySem.W.Frag}
theorem kix_list (h : X.K = K) : IxR X (rIxL K) := by rw [← h]; exact ix_list
theorem kix_tup (h : X.K = K) : IxR X (rIxT K) := by rw [← h]; exact ix_tup
theorem kix_seq (h : X.K = K) : IxR X (rIx K) := by rw [← h]; exact ix_seq
theorem kop_in (h : X.K = K) : OpR X (compareOp .In) (rIn K false) := by rw [← h]; exact op_in_seq
theorem kop_notIn (h : X.K = K) : OpR X (compareOp .NotIn) (rIn K true) := by rw [← h]; exact op_notIn_seq
theorem kcall_isi (h : X.K = K) : CallR X (.builtin "isinstance") (rIsD K) := by rw [← h]; exact call_isiD
theorem kcr_all (h : X.K = K) (hc : X.calm = true) : CallR X (.builtin "all") (rAll K) := by rw [← h]; exact cr_all hc
theorem kcr_sum (h : X.K = K) (hc : X.calm = true) : CallR X (.builtin "sum") (rSum K) := by rw [← h]; exact cr_sum hc
theorem kop_eqD (h : X.K = K) (hu : X.A.units + 64 < cLine) : OpR X (compareOp .Eq) (rEqD K) := by rw [← h]; exact op_eqD hu
theorem kop_neD (h : X.K = K) (hu : X.A.units + 64 < cLine) : OpR X (compareOp .NotEq) (rNeD K) := by rw [← h]; exact op_neD hu
theorem ksl_tup (h : X.K = K) : SlR X (rSlT K) := by rw [← h]; exact sl_tup
theorem ksl_list (h : X.K = K) : SlR X (rSlL K) := by rw [← h]; exact sl_list
def rLenK (K : PySem.W.Frag) : List V → Hp → VK → Prop := fun xs H Q => ∃ p ys, xs = [.ref p] ∧ (SqL K H p ys ∨ SqT K H p ys) ∧ Q (.int ys.length) H
theorem kcall_len (h : X.K = K) : CallR X (.builtin "len") (rLenK K) := by rw [← h]; exact call_len_seq
def rTupK (K : PySem.W.Frag) : List V → Hp → VK → Prop := fun xs H Q => ∃ p ys, xs = [.ref p] ∧ ((SqL K H p ys ∧ ∀ l, H l = none → Q (.ref l) (upd H l (.tup ys))) ∨ (SqT K H p ys ∧ Q (.ref p) H))
theorem kcall_tuple (h : X.K = K) : CallR X (.type "tuple") (rTupK K) := by rw [← h]; exact call_tuple_of
def rLstK (K : PySem.W.Frag) : List V → Hp → VK → Prop := fun xs H Q => ∃ p ys, xs = [.ref p] ∧ (SqL K H p ys ∨ SqT K H p ys) ∧ ∀ l, H l = none → Q (.ref l) (upd H l (.lst ys))
theorem kcall_list (h : X.K = K) : CallR X (.type "list") (rLstK K) := by rw [← h]; exact call_list_of
theorem kpi_list {tg l : Expr} {tl : TE} (h : X.K = K) (hl : PE X l tl) : PI X tg l (iList K tl) := by rw [← h]; exact pi_list hl
theorem kpi_tup {tg l : Expr} {tl : TE} (h : X.K = K) (hl : PE X l tl) : PI X tg l (iTup K tl) := by rw [← h]; exact pi_tup hl
end
section
variable {K : PySem.W.Frag} {a b : Addr} {xs ys : List V}
theorem walk_enT : Walk (IteT K a) xs.length (fun H => SqT K H a xs) (YPair (fun i => some (.int (i : Nat))) (fun i => xs[i]?)) := by
  refine ⟨fun i _ hi q => ⟨xs, xs[i], q, List.getElem?_eq_getElem hi⟩, fun _ q => ⟨xs, q, Nat.le_refl _⟩, fun i H v H' _ q y => ?_⟩
  obtain ⟨T, x, h1, h2, h3, h4⟩ := y
  exact ⟨T, .int (i : Nat), x, h1, h2, h3, rfl, h4 xs q⟩
theorem walk_zipT {n : Nat} (hn : n = min xs.length ys.length) : Walk (RZ.ItzT K a b) n (fun H => SqT K H a xs ∧ SqT K H b ys) (YPair (fun i => xs[i]?) (fun i => ys[i]?)) := by
  subst hn
  refine ⟨fun i _ hi q => ?_, fun _ q => ⟨xs, ys, q.1, q.2, by omega⟩, fun i H v H' _ q y => ?_⟩
  · have h1 : i < xs.length := by omega
    have h2 : i < ys.length := by omega
    exact ⟨xs, ys, xs[i], ys[i], q.1, q.2, List.getElem?_eq_getElem h1, List.getElem?_eq_getElem h2⟩
  · obtain ⟨T, x, z, h1, h2, h3, h4, h5⟩ := y
    exact ⟨T, x, z, h1, h2, h3, h4 xs q.1, h5 ys q.2⟩
theorem YAt.fx {M : List Addr} {i : Nat} {H H' : Hp} {x : V} (y : YAt xs i H x H') : Fx M H H' := by rw [y.1]; exact .refl
theorem YFn.fx {M : List Addr} {f : Nat → V} {i : Nat} {H H' : Hp} {x : V} (y : YFn f i H x H') : Fx M H H' := by rw [y.1]; exact .refl
theorem YPair.fx {M : List Addr} {p q : Nat → Option V} {i : Nat} {H H' : Hp} {x : V} (y : YPair p q i H x H') : Fx M H H' := by
  obtain ⟨T, _, _, _, h, e, _⟩ := y
  rw [e]
  exact .new h
theorem YPair.tup {p q : Nat → Option V} {i : Nat} {H H' : Hp} {x : V} (y : YPair p q i H x H') : ∃ T u v, x = .ref T ∧ H' T = some (.tup [u, v]) ∧ p i = some u ∧ q i = some v := by
  obtain ⟨T, u, v, h1, h, e, h2, h3⟩ := y
  exact ⟨T, u, v, h1, by rw [e]; exact upd_same, h2, h3⟩
end
section
variable {J : It} {n : Nat} {G : Hp → Prop} {Y : Nat → Hp → V → Hp → Prop}
/-- what stands while a comprehension runs: R by the turn, what is made so far (it stands at D), the heap -/
def Pvl (R : Nat → List V → Hp → Prop) (D : Addr) (i : Nat) (H : Hp) : Prop := ∃ acc, acc.length ≤ i ∧ H D = some (.lst acc) ∧ R i acc H
def Put (R : Nat → List V → Hp → Prop) (D : Addr) (i : Nat) : VK := fun y H => ∃ acc, H D = some (.lst acc) ∧ acc.length < sizeLine ∧ Pvl R D i (upd H D (.lst (acc ++ [y])))
theorem Put.ok {R : Nat → List V → Hp → Prop} {D : Addr} {i : Nat} {y : V} {H : Hp} {acc : List V} (hl : acc.length ≤ i) (hi : i < 1000000) (hD : H D = some (.lst acc)) (r : R (i + 1) (acc ++ [y]) (upd H D (.lst (acc ++ [y])))) : Put R D (i + 1) y H :=
  ⟨acc, hD, Nat.lt_of_lt_of_le (show acc.length < 1000000 by omega) (by decide), acc ++ [y], by rw [List.length_append]; exact Nat.succ_le_succ hl, upd_same, r⟩
theorem Pvl.skip {R : Nat → List V → Hp → Prop} {D : Addr} {i : Nat} {H : Hp} {acc : List V} (hl : acc.length ≤ i) (hD : H D = some (.lst acc)) (r : R (i + 1) acc H) : Pvl R D (i + 1) H := ⟨acc, Nat.le_succ_of_le hl, hD, r⟩
theorem lc_rel (w : Walk J n G Y) {g : TG} {tt : TT} {te : TE} {vs : List Nat} {σ : L2.St} {H1 : Hp} {D : Addr} {Qd : Hp → Prop} (R : Nat → List V → Hp → Prop) (h0 : R 0 [] (upd H1 D (.lst []))) (hG : ∀ i acc H, R i acc H → G H)
    (hs : ∀ i acc x H H', i < n → acc.length ≤ i → H D = some (.lst acc) → R i acc H → Y i H x H' → g x (wipe σ vs) H' fun σ2 H2 => wipe σ2 vs = wipe σ vs ∧ tt σ2 H2 fun b H3 =>
      if b = true then te σ2 H3 (Put R D (i + 1)) else Pvl R D (i + 1) H3)
    (hd : ∀ acc H, acc.length ≤ n → H D = some (.lst acc) → R n acc H → Qd H) :
    ∃ W : Nat → Nat → Hp → Prop, (∃ m, W 0 m (upd H1 D (.lst []))) ∧ ∀ i m H, W i m H →
      (J.stop i H ∧ Qd H) ∨ (J.go i H ∧ ∃ Nx : Hp → Prop, (∀ H', Nx H' → ∃ m', m' < m ∧ W (i + 1) m' H') ∧ ∀ x H', J.yld i H x H' → g x (wipe σ vs) H' fun σ2 H2 => wipe σ2 vs = wipe σ vs ∧ tt σ2 H2 fun b H3 =>
        if b = true then te σ2 H3 fun y H4 => ∃ acc, H4 D = some (.lst acc) ∧ acc.length < sizeLine ∧ Nx (upd H4 D (.lst (acc ++ [y]))) else Nx H3) :=
  lc_it w (Pvl R D) ⟨[], Nat.le_refl _, upd_same, h0⟩ (fun i H _ ⟨acc, _, _, r⟩ => hG i acc H r) (fun i x H H' hi ⟨acc, hl, hD, r⟩ y => hs i acc x H H' hi hl hD r y) (fun H ⟨acc, hl, hD, r⟩ => hd acc H hl hD r)
/-- a comprehension without a test whose i-th item is f i, that leaves what stood -/
theorem lc_map (w : Walk J n G Y) {g : TG} {te : TE} {vs : List Nat} {σ : L2.St} {H1 : Hp} {D : Addr} {Qd : Hp → Prop} (f : Nat → V) (hn : n < 1000000) (hD : H1 D = none) (hG : ∀ H, Fx [] H1 H → G H) (hY : ∀ i H x H', Y i H x H' → Fx [] H H')
    (hs : ∀ i x H H' (Qe : VK) (Z : Hp → Prop), i < n → Fx [] H1 H → Y i H x H' → (∀ H4, Fx [] H' H4 → Qe (f i) H4) → g x (wipe σ vs) H' fun σ2 H2 => wipe σ2 vs = wipe σ vs ∧ (if true = true then te σ2 H2 Qe else Z H2))
    (hd : ∀ H, Fx [] H1 H → H D = some (.lst ((List.range n).map f)) → Qd H) :
    ∃ W : Nat → Nat → Hp → Prop, (∃ m, W 0 m (upd H1 D (.lst []))) ∧ ∀ i m H, W i m H →
      (J.stop i H ∧ Qd H) ∨ (J.go i H ∧ ∃ Nx : Hp → Prop, (∀ H', Nx H' → ∃ m', m' < m ∧ W (i + 1) m' H') ∧ ∀ x H', J.yld i H x H' → g x (wipe σ vs) H' fun σ2 H2 => wipe σ2 vs = wipe σ vs ∧ tYes σ2 H2 fun b H3 =>
        if b = true then te σ2 H3 fun y H4 => ∃ acc, H4 D = some (.lst acc) ∧ acc.length < sizeLine ∧ Nx (upd H4 D (.lst (acc ++ [y]))) else Nx H3) :=
  lc_rel w (fun i acc H => Fx [] H1 H ∧ acc = (List.range i).map f) ⟨Fx.new hD, rfl⟩ (fun i acc H r => hG H r.1) (fun i acc x H H' hi hl hDa r y =>
    hs i x H H' _ (Pvl (fun i acc H => Fx [] H1 H ∧ acc = (List.range i).map f) D (i + 1)) hi r.1 y fun H4 k => by
      have k2 := (r.1.trans (hY i H x H' y)).trans k
      have hD4 : H4 D = some (.lst acc) := k.to ((hY i H x H' y).to hDa fun m => nomatch m) fun m => nomatch m
      exact Put.ok hl (by omega) hD4 ⟨k2.loc hD (Chg.lst hD4), by rw [r.2, List.range_succ, List.map_append]; rfl⟩)
    (fun acc H _ hDa r => hd H r.1 (by rw [hDa, r.2]))
end
end Mh
/-! MhOrd -/
namespace Mh
open PySem PySem.Spec PyProof.Rows L2
/-! ### orders: just one sorted arrangement -/
theorem perm_uniq {α : Type} {R : α → α → Prop} (anti : ∀ x y, R x y → R y x → x = y) : ∀ {l m : List α}, l.Pairwise R → m.Pairwise R → l.Perm m → l = m
  | [], m, _, _, h => (List.Perm.eq_nil h.symm).symm
  | x :: l, [], _, _, h => absurd h.length_eq (by simp)
  | x :: l, y :: m, hl, hm, h => by
    have e : x = y := by
      rcases List.mem_cons.mp (h.mem_iff.mp (List.mem_cons_self (a := x) (l := l))) with e | hx
      · exact e
      · rcases List.mem_cons.mp (h.mem_iff.mpr (List.mem_cons_self (a := y) (l := m))) with e | hy
        · exact e.symm
        · exact anti x y ((List.pairwise_cons.mp hl).1 y hy) ((List.pairwise_cons.mp hm).1 x hx)
    subst e
    rw [perm_uniq anti (List.pairwise_cons.mp hl).2 (List.pairwise_cons.mp hm).2 h.cons_inv]
def leS (x y : Str) : Bool := !ltCps y.cps.toList x.cps.toList
theorem leS_iff {x y : Str} : leS x y = true ↔ x.cps.toList ≤ y.cps.toList := by
  unfold leS
  rw [ltCps_eq]
  simp only [Bool.not_eq_true', decide_eq_false_iff_not, List.not_lt]
theorem leS_trans (x y z : Str) (h1 : leS x y = true) (h2 : leS y z = true) : leS x z = true := leS_iff.mpr (List.le_trans (leS_iff.mp h1) (leS_iff.mp h2))
theorem leS_total (x y : Str) : (leS x y || leS y x) = true := by
  rw [Bool.or_eq_true, leS_iff, leS_iff]
  exact List.le_total _ _
theorem leS_anti (x y : Str) (h1 : leS x y = true) (h2 : leS y x = true) : x = y := by
  have e := List.le_antisymm (leS_iff.mp h1) (leS_iff.mp h2)
  cases x
  cases y
  simp only at e
  rw [Array.toList_inj.mp e]
def sortS (xs : List Str) : List Str := xs.mergeSort leS
theorem sortS_perm (xs : List Str) : (sortS xs).Perm xs := List.mergeSort_perm _ _
theorem sortS_pw (xs : List Str) : (sortS xs).Pairwise (fun x y => leS x y = true) := List.pairwise_mergeSort leS_trans leS_total xs
theorem risingS_pw : ∀ {r : List Str} {p : Str}, risingS p r = true → (p :: r).Pairwise fun x y => leS x y = true
  | [], p, _ => List.pairwise_singleton _ _
  | x :: r, p, h => by
    obtain ⟨h1, h2⟩ := Bool.and_eq_true_iff.mp (show (leS p x && risingS x r) = true from h)
    have ih := risingS_pw h2
    refine List.pairwise_cons.mpr ⟨fun y hy => ?_, ih⟩
    rcases List.mem_cons.mp hy with e | hy
    · rw [e]; exact h1
    · exact leS_trans p x y h1 ((List.pairwise_cons.mp ih).1 y hy)
theorem sortedS_pw {xs : List Str} (h : sortedS xs = true) : xs.Pairwise fun x y => leS x y = true := by
  cases xs with
  | nil => exact List.Pairwise.nil
  | cons x r => exact risingS_pw h
theorem sortS_uniq {ys xs : List Str} (h1 : ys.Perm xs) (h2 : sortedS ys = true) : ys = sortS xs :=
  perm_uniq leS_anti (sortedS_pw h2) (sortS_pw xs) (h1.trans (sortS_perm xs).symm)
theorem sortS_mem {xs : List Str} {x : Str} : x ∈ sortS xs ↔ x ∈ xs := (sortS_perm xs).mem_iff
theorem sortS_len (xs : List Str) : (sortS xs).length = xs.length := (sortS_perm xs).length_eq
theorem sortS_nodup {xs : List Str} (h : xs.Nodup) : (sortS xs).Nodup := (sortS_perm xs).nodup_iff.mpr h
theorem sortS_congr {xs ys : List Str} (h : xs.Perm ys) : sortS xs = sortS ys :=
  perm_uniq leS_anti (sortS_pw xs) (sortS_pw ys) ((sortS_perm xs).trans (h.trans (sortS_perm ys).symm))

/-! ### rows by a number, then a text -/
def leK (p q : Int × Str) : Bool := if p.1 = q.1 then leS p.2 q.2 else decide (p.1 < q.1)
theorem leK_trans (x y z : Int × Str) (h1 : leK x y = true) (h2 : leK y z = true) : leK x z = true := by
  unfold leK at *
  split at h1
  · rename_i e1
    split at h2
    · rename_i e2
      rw [if_pos (e1.trans e2)]
      exact leS_trans _ _ _ h1 h2
    · rename_i e2
      have h3 := of_decide_eq_true h2
      rw [if_neg (by omega)]
      exact decide_eq_true (by omega)
  · rename_i e1
    have h4 := of_decide_eq_true h1
    split at h2
    · rename_i e2
      rw [if_neg (by omega)]
      exact decide_eq_true (by omega)
    · have h3 := of_decide_eq_true h2
      rw [if_neg (by omega)]
      exact decide_eq_true (by omega)
theorem leK_total (x y : Int × Str) : (leK x y || leK y x) = true := by
  unfold leK
  by_cases e : x.1 = y.1
  · rw [if_pos e, if_pos e.symm]
    exact leS_total _ _
  · rw [if_neg e, if_neg fun z => e z.symm, Bool.or_eq_true, decide_eq_true_iff, decide_eq_true_iff]
    omega
theorem leK_anti (x y : Int × Str) (h1 : leK x y = true) (h2 : leK y x = true) : x = y := by
  unfold leK at *
  by_cases e : x.1 = y.1
  · rw [if_pos e] at h1
    rw [if_pos e.symm] at h2
    exact Prod.ext e (leS_anti _ _ h1 h2)
  · rw [if_neg e] at h1
    rw [if_neg fun z => e z.symm] at h2
    have := of_decide_eq_true h1
    have := of_decide_eq_true h2
    omega
end Mh
/-! MhPin -/
namespace Mh
open PySem PySem.Spec PyProof.Rows L2
/-! ### objects pinned: known to the object, whatever is called -/
def pinO (o : Obj) : HO := .frz o (.ext fun _ => True)
abbrev Pins := List (Addr × Obj)
def addP (ps : Pins) (H : Hp) : Hp := fun a => match ps.lookup a with
  | some o => some (pinO o)
  | none => H a
def delP (ps : Pins) (H : Hp) : Hp := fun a => match ps.lookup a with
  | some _ => none
  | none => H a
section
variable {P : Program} {w : World} {K : PySem.W.Frag} {mg : Str → Option Value} {base : Heap} {A : Around} {outer : List Env} {s s' : Shared} {H H' H0 : Hp} {ps : Pins} {h : Heap} {a : Addr} {o : Obj}
theorem addP_in (e : ps.lookup a = some o) : addP ps H a = some (pinO o) := by unfold addP; rw [e]
theorem addP_out (e : ps.lookup a = none) : addP ps H a = H a := by unfold addP; rw [e]
theorem delP_in (e : ps.lookup a = some o) : delP ps H a = none := by unfold delP; rw [e]
theorem delP_out (e : ps.lookup a = none) : delP ps H a = H a := by unfold delP; rw [e]
theorem pin_ok (e : h.get? a = some o) : ObjOk P w H h a (pinO o) := ⟨e, trivial, ⟨_, e⟩, fun _ _ _ _ => trivial⟩
theorem pin_at (hok : HOk P w H h) (e : H a = some (pinO o)) : h.get? a = some o := (hok a _ e).1
theorem pinO_inj {o o' : Obj} (e : some (pinO o) = some (pinO o')) : o = o' := by
  have := Option.some.inj e
  unfold pinO at this
  injection this
/-- pins that may be laid on: nothing else is told of them -/
def Free (H : Hp) (ps : Pins) : Prop := ∀ a o, ps.lookup a = some o → H a = none
/-- pins that lie -/
def Lie (H : Hp) (ps : Pins) : Prop := ∀ a o, ps.lookup a = some o → H a = some (pinO o)
theorem Lie.add : Lie (addP ps H) ps := fun _ _ e => addP_in e
theorem Lie.fx {M : List Addr} (l : Lie H ps) (f : Fx M H H') : Lie H' ps := fun a o e => f.z _ _ _ (l a o e)
theorem Fx.add {M : List Addr} (n : Free H ps) : Fx M H (addP ps H) := by
  have key : ∀ {a : Addr} {u : HO}, H a = some u → ps.lookup a = none := fun {a u} e => by
    cases q : ps.lookup a with
    | none => rfl
    | some o => rw [n a o q] at e; cases e
  refine ⟨fun a u e _ => by rw [addP_out (key e)]; exact e, fun a u e => by rw [addP_out (key e)]; exact e, fun a u v e => by rw [addP_out (key e)]; exact e, fun a e => ?_⟩
  cases q : ps.lookup a with
  | none => rwa [addP_out q] at e
  | some o => rw [addP_in q] at e; cases e
/-- taken off again -/
theorem Fx.off {M : List Addr} (n : Free H ps) (f : Fx M (addP ps H) H') : Fx M H (delP ps H') := by
  have key : ∀ {a : Addr} {u : HO}, H a = some u → ps.lookup a = none := fun {a u} e => by
    cases q : ps.lookup a with
    | none => rfl
    | some o => rw [n a o q] at e; cases e
  refine ⟨fun a u e m => by rw [delP_out (key e)]; exact f.k _ _ (by rw [addP_out (key e)]; exact e) m, fun a u e => by rw [delP_out (key e)]; exact f.t _ _ (by rw [addP_out (key e)]; exact e), fun a u v e => by rw [delP_out (key e)]; exact f.z _ _ _ (by rw [addP_out (key e)]; exact e), fun a e => ?_⟩
  cases q : ps.lookup a with
  | none =>
    rw [delP_out q] at e
    have := f.d _ e
    rwa [addP_out q] at this
  | some o => exact n a o q
/-- hidden for a while, then laid on again -/
theorem Fx.back {M : List Addr} (l : Lie H ps) (f : Fx M (delP ps H) H') : Fx M H (addP ps H') := by
  refine ⟨fun a u e m => ?_, fun a u e => ?_, fun a u v e => ?_, fun a e => ?_⟩
  · cases q : ps.lookup a with
    | none => rw [addP_out q]; exact f.k _ _ (by rw [delP_out q]; exact e) m
    | some o => rw [addP_in q, ← l a o q]; exact e
  · cases q : ps.lookup a with
    | none => rw [addP_out q]; exact f.t _ _ (by rw [delP_out q]; exact e)
    | some o => rw [addP_in q, ← l a o q]; exact e
  · cases q : ps.lookup a with
    | none => rw [addP_out q]; exact f.z _ _ _ (by rw [delP_out q]; exact e)
    | some o => rw [addP_in q, ← l a o q]; exact e
  · cases q : ps.lookup a with
    | none =>
      rw [addP_out q] at e
      have := f.d _ e
      rwa [delP_out q] at this
    | some o => rw [addP_in q] at e; cases e
theorem off_on (n : Free H ps) : delP ps (addP ps H) = H := by
  funext a
  cases q : ps.lookup a with
  | none => rw [delP_out q, addP_out q]
  | some o => rw [delP_in q, n a o q]
theorem Free.del : Free (delP ps H) ps := fun _ _ e => delP_in e
/-! ### calls with pins laid on, hidden -/
theorem hok_add (n : Free H ps) (hok : HOk P w H h) (hg : ∀ a o, ps.lookup a = some o → h.get? a = some o) : HOk P w (addP ps H) h := fun b u e => by
  cases q : ps.lookup b with
  | some o =>
    rw [addP_in q] at e
    cases e
    exact pin_ok (hg b o q)
  | none =>
    rw [addP_out q] at e
    have key : ∀ {c : Addr} {u : HO}, H c = some u → addP ps H c = some u := fun {c u} e => by
      cases q : ps.lookup c with
      | none => rw [addP_out q]; exact e
      | some o => rw [n c o q] at e; cases e
    exact (hok b u e).stay (fun _ _ _ z => z) (fun _ z => key z) fun _ _ z => key z
theorem hok_del (l : Lie H ps) (hok : HOk P w H h) : HOk P w (delP ps H) h := fun b u e => by
  cases q : ps.lookup b with
  | some o => rw [delP_in q] at e; cases e
  | none =>
    rw [delP_out q] at e
    have key : ∀ {c : Addr} {u : HO}, H c = some u → (∀ o, u ≠ pinO o) → delP ps H c = some u := fun {c u} e ne => by
      cases q : ps.lookup c with
      | none => rw [delP_out q]; exact e
      | some o =>
        rw [l c o q] at e
        exact absurd (Option.some.inj e).symm (ne o)
    exact (hok b u e).stay (fun _ _ _ z => z) (fun _ z => key z fun o x => by unfold pinO at x; cases x) fun _ _ z => key z fun o x => by unfold pinO at x; cases x
/-- pins over a state of a call -/
structure PinsAt (base : Heap) (outer : List Env) (h : Heap) (ps : Pins) : Prop where
  g : ∀ a o, ps.lookup a = some o → h.get? a = some o
  f : ∀ a o, ps.lookup a = some o → a ∉ frs outer
  b : ∀ a o, ps.lookup a = some o → base.get? a = none
theorem Env0.addP (e0 : Env0 P w K mg base A outer s H) (n : Free H ps) (p : PinsAt base outer s.heap ps) : Env0 P w K mg base A outer s (addP ps H) := by
  refine ⟨e0.frames, e0.mod, fun b o e => ⟨(e0.bs b o e).1, ?_⟩, e0.bsz, e0.funs, fun b hb => ?_, hok_add n e0.hok p.g, e0.bare⟩
  · cases q : ps.lookup b with
    | none => rw [addP_out q]; exact (e0.bs b o e).2
    | some u => rw [p.b b u q] at e; cases e
  · cases q : ps.lookup b with
    | none => rw [addP_out q]; exact e0.frf b hb
    | some u => exact absurd hb (p.f b u q)
theorem Env0.delP (e0 : Env0 P w K mg base A outer s H) (l : Lie H ps) : Env0 P w K mg base A outer s (delP ps H) := by
  have key : ∀ {b : Addr}, H b = none → Mh.delP ps H b = none := fun {b} e => by
    cases q : ps.lookup b with
    | none => rw [delP_out q]; exact e
    | some u => exact delP_in q
  exact ⟨e0.frames, e0.mod, fun b o e => ⟨(e0.bs b o e).1, key (e0.bs b o e).2⟩, e0.bsz, e0.funs, fun b hb => key (e0.frf b hb), hok_del l e0.hok, e0.bare⟩
theorem ce_off {Q : VK} {u : Value} (n : Free H ps) (hg : ∀ a o, ps.lookup a = some o → s.heap.get? a = some o ∧ a ∉ frs outer) (h : CE outer P w (Mh.addP ps H) s (fun v H' => Q v (Mh.delP ps H')) u s') : CE outer P w H s Q u s' := by
  obtain ⟨v, H', os, bare, un, hok, rv, q⟩ := h
  have l : Lie H' ps := fun a o e => un.frzs _ _ _ (Lie.add a o e)
  have ou : ∀ {b : Addr} {u : HO}, H b = some u → ps.lookup b = none := fun {b u} e => by
    cases q : ps.lookup b with
    | none => rfl
    | some o => rw [n b o q] at e; cases e
  refine ⟨v, _, os, bare, ⟨fun b o e z hf hx => ?_, fun b o e z hf hx => ?_, fun b o e z hx => ?_, un.there, fun b xs e => ?_, fun b o u e => ?_, fun b p e => ?_⟩, hok_del l hok, rv, q⟩
  · cases k : ps.lookup b with
    | none => exact un.keep b o e (by rw [addP_out k]; exact z) hf hx
    | some oo =>
      have e1 := (hg b oo k).1
      rw [e] at e1
      cases e1
      exact pin_at hok (l b _ k)
  · cases k : ps.lookup b with
    | none => exact un.slot b o e (by rw [addP_out k]; exact z) hf hx
    | some oo => exact absurd hf (hg b oo k).2
  · cases k : ps.lookup b with
    | none => rw [delP_out k]; exact un.free b o e (by rw [addP_out k]; exact z) hx
    | some oo => exact delP_in k
  · rw [delP_out (ou e)]; exact un.tups b xs (by rw [addP_out (ou e)]; exact e)
  · rw [delP_out (ou e)]; exact un.frzs b o u (by rw [addP_out (ou e)]; exact e)
  · obtain ⟨more, z⟩ := un.tbls b p (by rw [addP_out (ou e)]; exact e)
    exact ⟨more, by rw [delP_out (ou e)]; exact z⟩
theorem ce_on {Q : VK} {u : Value} (l : Lie H ps) (hok0 : HOk P w H s.heap) (hf : ∀ a o, ps.lookup a = some o → a ∉ frs outer) (h : CE outer P w (Mh.delP ps H) s (fun v H' => Free H' ps → Q v (Mh.addP ps H')) u s') : CE outer P w H s Q u s' := by
  obtain ⟨v, H', os, bare, un, hok, rv, q⟩ := h
  have hg : ∀ a o, ps.lookup a = some o → s.heap.get? a = some o := fun a o e => pin_at hok0 (l a o e)
  have ou : ∀ {b : Addr}, H b = none → ps.lookup b = none := fun {b} e => by
    cases q : ps.lookup b with
    | none => rfl
    | some o => rw [l b o q] at e; cases e
  have n' : Free H' ps := fun a o e => un.free a o (hg a o e) (delP_in e) (fun z => nomatch z)
  have g' : ∀ a o, ps.lookup a = some o → s'.heap.get? a = some o := fun a o e => un.keep a o (hg a o e) (delP_in e) (hf a o e) (fun z => nomatch z)
  have np : ∀ {b : Addr} {u : HO}, H b = some u → (∀ o, u ≠ pinO o) → ps.lookup b = none := fun {b u} e ne => by
    cases q : ps.lookup b with
    | none => rfl
    | some o => rw [l b o q] at e; exact absurd (Option.some.inj e).symm (ne o)
  refine ⟨v, _, os, bare, ⟨fun b o e z hf hx => un.keep b o e (by rw [delP_out (ou z)]; exact z) hf hx, fun b o e z hf hx => un.slot b o e (by rw [delP_out (ou z)]; exact z) hf hx, fun b o e z hx => ?_, un.there, fun b xs e => ?_, fun b o u e => ?_, fun b p e => ?_⟩, hok_add n' hok g', rv, q n'⟩
  · rw [addP_out (ou z)]; exact un.free b o e (by rw [delP_out (ou z)]; exact z) hx
  · have k := np e fun o x => by unfold pinO at x; cases x
    rw [addP_out k]; exact un.tups b xs (by rw [delP_out k]; exact e)
  · cases k : ps.lookup b with
    | none => rw [addP_out k]; exact un.frzs b o u (by rw [delP_out k]; exact e)
    | some oo => rw [addP_in k, ← l b oo k]; exact e
  · have k := np e fun o x => by unfold pinO at x; cases x
    obtain ⟨more, z⟩ := un.tbls b p (by rw [delP_out k]; exact e)
    exact ⟨more, by rw [addP_out k]; exact z⟩
theorem cx_off {E : XK} {u : Value} (n : Free H ps) (hg : ∀ a o, ps.lookup a = some o → s.heap.get? a = some o ∧ a ∉ frs outer) (h : L2.CX P w outer (Mh.addP ps H) s (fun c d H' => E c d (Mh.delP ps H')) u s') : L2.CX P w outer H s E u s' := by
  obtain ⟨a, B, H', cls, d, eu, fly, hok, ub, na, os, ag, q⟩ := h
  have l : Lie H' ps := fun a o e => ub.frzs _ _ _ (Lie.add a o e)
  have ou : ∀ {b : Addr} {u : HO}, H b = some u → ps.lookup b = none := fun {b u} e => by
    cases q : ps.lookup b with
    | none => rfl
    | some o => rw [n b o q] at e; cases e
  refine ⟨a, B, _, cls, d, eu, fly, hok_del l hok, ⟨fun b o e z hf => ?_, ub.slot, fun b o e z => ?_, ub.there, fun b xs e => ?_, fun b o u e => ?_, fun b p e => ?_⟩, ?_, os, ag, q⟩
  · cases k : ps.lookup b with
    | none => exact ub.keep b o e (by rw [addP_out k]; exact z) hf
    | some oo =>
      have e1 := (hg b oo k).1
      rw [e] at e1
      cases e1
      exact pin_at hok (l b _ k)
  · cases k : ps.lookup b with
    | none => rw [delP_out k]; exact ub.free b o e (by rw [addP_out k]; exact z)
    | some oo => exact delP_in k
  · rw [delP_out (ou e)]; exact ub.tups b xs (by rw [addP_out (ou e)]; exact e)
  · rw [delP_out (ou e)]; exact ub.frzs b o u (by rw [addP_out (ou e)]; exact e)
  · obtain ⟨more, z⟩ := ub.tbls b p (by rw [addP_out (ou e)]; exact e)
    exact ⟨more, by rw [delP_out (ou e)]; exact z⟩
  · cases k : ps.lookup a with
    | none => rw [delP_out k]; exact na
    | some oo => exact delP_in k
theorem cx_on {E : XK} {u : Value} (l : Lie H ps) (hok0 : HOk P w H s.heap) (hf : ∀ a o, ps.lookup a = some o → a ∉ frs outer) (h : L2.CX P w outer (Mh.delP ps H) s (fun c d H' => Free H' ps → E c d (Mh.addP ps H')) u s') : L2.CX P w outer H s E u s' := by
  obtain ⟨a, B, H', cls, d, eu, fly, hok, ub, na, os, ag, q⟩ := h
  have hg : ∀ a o, ps.lookup a = some o → s.heap.get? a = some o := fun a o e => pin_at hok0 (l a o e)
  have ou : ∀ {b : Addr}, H b = none → ps.lookup b = none := fun {b} e => by
    cases q : ps.lookup b with
    | none => rfl
    | some o => rw [l b o q] at e; cases e
  have n' : Free H' ps := fun a o e => ub.free a o (hg a o e) (delP_in e)
  have g' : ∀ a o, ps.lookup a = some o → B.get? a = some o := fun a o e => ub.keep a o (hg a o e) (delP_in e) (hf a o e)
  have np : ∀ {b : Addr} {u : HO}, H b = some u → (∀ o, u ≠ pinO o) → ps.lookup b = none := fun {b u} e ne => by
    cases q : ps.lookup b with
    | none => rfl
    | some o => rw [l b o q] at e; exact absurd (Option.some.inj e).symm (ne o)
  have ha : ps.lookup a = none := by
    cases k : ps.lookup a with
    | none => rfl
    | some oo =>
      have e1 := g' a oo k
      rw [fly.2.1] at e1
      cases e1
  refine ⟨a, B, _, cls, d, eu, fly, hok_add n' hok g', ⟨fun b o e z hf => ub.keep b o e (by rw [delP_out (ou z)]; exact z) hf, ub.slot, fun b o e z => ?_, ub.there, fun b xs e => ?_, fun b o u e => ?_, fun b p e => ?_⟩, by rw [addP_out ha]; exact na, os, ag, q n'⟩
  · rw [addP_out (ou z)]; exact ub.free b o e (by rw [delP_out (ou z)]; exact z)
  · have k := np e fun o x => by unfold pinO at x; cases x
    rw [addP_out k]; exact ub.tups b xs (by rw [delP_out k]; exact e)
  · cases k : ps.lookup b with
    | none => rw [addP_out k]; exact ub.frzs b o u (by rw [delP_out k]; exact e)
    | some oo => rw [addP_in k, ← l b oo k]; exact e
  · have k := np e fun o x => by unfold pinO at x; cases x
    obtain ⟨more, z⟩ := ub.tbls b p (by rw [delP_out k]; exact e)
    exact ⟨more, by rw [addP_out k]; exact z⟩
end
end Mh
/-! MhExc -/
namespace Mh
open PySem PySem.Spec PyProof.Rows L2 PySem.HandSPX
/-! ### the program's own refusals, as the top leaves them -/
def EXS : List Str := ["BadQuestion", "BadSeed", "BadName", "TooMany", "Taken", "NoMachine", "NoTask", "BadScore", "NoRun", "NotRanked", "BadShare", "NotAhead", "NoPage", "BadMachine", "BadText", "BadTask", "BadDeed"]
abbrev xC (K : PySem.W.Frag) (x : Str) : Value := .ref (He.ga K x)
structure ExK (K : PySem.W.Frag) (mg : Str → Option Value) (x : Str) : Prop where
  g : mg x = some (xC K x)
  c : ExcC K (He.ga K x)
  kp : PySem.W.keepIn K (xC K x) = true
  ty : PySem.W.typeIn K (xC K x) = some (.type "type")
  he : PySem.W.exmOne K (xC K x) (xC K "HallError") = some true
  ve : PySem.W.kitOne K (xC K x) (.type "ValueError") = some true
  ki : ∀ y ∈ EXS, PySem.W.kitOne K (xC K x) (xC K y) = some (decide (x = y))
def exB (K : PySem.W.Frag) (x : Str) : Bool :=
  decide (PySem.W.findIn K (xC K x) "__getattribute__" = some (some (.builtin "BaseException.__getattribute__"))) && (decide (PySem.W.findIn K (xC K x) "__getattr__" = some none) && (decide (PySem.W.subIn K (xC K x) (.type "BaseException") = some true) && (PySem.W.hasDictIn K (He.ga K x) &&
  (decide (PySem.W.findIn K (xC K x) "__class__" = some (some (.builtin "object.__class__"))) && (decide (PySem.W.specialIn K (.builtin "object.__class__") "__get__" = some (some (.builtin "getset_descriptor.__get__"))) && (decide (PySem.W.takesIn K (.builtin "object.__class__") = some true) && (decide (PySem.W.mroIn K (He.ga K x) (.type "object") = some true) &&
  (PySem.W.keepIn K (xC K x) && (decide (PySem.W.typeIn K (xC K x) = some (.type "type")) && (decide (PySem.W.exmOne K (xC K x) (xC K "HallError") = some true) && (decide (PySem.W.kitOne K (xC K x) (.type "ValueError") = some true) &&
  EXS.all fun y => decide (PySem.W.kitOne K (xC K x) (xC K y) = some (decide (x = y))))))))))))))
theorem exB_ok {K : PySem.W.Frag} {mg : Str → Option Value} {x : Str} (g : mg x = some (xC K x)) (h : exB K x = true) : ExK K mg x := by
  unfold exB at h
  simp only [Bool.and_eq_true, decide_eq_true_eq, List.all_eq_true] at h
  obtain ⟨h1, h2, h3, h4, h5, h6, h7, h8, h9, h10, h11, h12, h13⟩ := h
  exact ⟨g, ⟨h1, h2, h3, h4, h5, h6, h7, h8⟩, h9, h10, h11, h12, h13⟩
/-- .. made with a text -/
structure ExT (K : PySem.W.Frag) (mg : Str → Option Value) (x : Str) : Prop extends ExK K mg x where
  i : PySem.W.excIn K (He.ga K x) veTail "ValueError.__new__" = true
def exTB (K : PySem.W.Frag) (x : Str) : Bool := exB K x && PySem.W.excIn K (He.ga K x) veTail "ValueError.__new__"
theorem exTB_ok {K : PySem.W.Frag} {mg : Str → Option Value} {x : Str} (g : mg x = some (xC K x)) (h : exTB K x = true) : ExT K mg x := by
  obtain ⟨h1, h2⟩ := Bool.and_eq_true_iff.mp h
  exact ⟨exB_ok g h1, h2⟩
/-- .. made with a number, kept as f -/
structure ExN (K : PySem.W.Frag) (mg : Str → Option Value) (x f : Str) : Prop extends ExK K mg x where
  o : OexC K (He.ga K x)
  n : PySem.W.findIn K (xC K x) f = some none
  iC : PySem.W.findIn K (xC K x) "__init__" = some (some (.ref (He.ma K (He.ga K x) "__init__")))
  tI : PySem.W.typeIn K (.ref (He.ma K (He.ga K x) "__init__")) = some (.type "function")
def oexB (K : PySem.W.Frag) (C : Addr) : Bool := match K.lookup C with
  | some ⟨.type t, _, .cls cd, sl⟩ => (match cd.mro, sl.toList with
    | .ref C' :: bm, [_, _, _, _, some (.builtin n), _] => decide (t = "type") && (decide (C' = C) && (decide (n = "ValueError.__new__") && (!cd.hasDel && (cd.hasDict && refsVE bm))))
    | _, _ => false)
  | _ => false
theorem oexB_ok {K : PySem.W.Frag} {C : Addr} (q : oexB K C = true) : ∃ nm q N bs bm sn sub ab col dd k0 k1 k2 k3 k5, K.lookup C = some (excClassObj nm q C N bs bm true sn sub ab col dd k0 k1 k2 k3 k5 "ValueError.__new__") ∧ refsVE bm = true := by
  unfold oexB at q
  split at q
  · rename_i t dd cd sl ho
    split at q
    · rename_i C' bm k0 k1 k2 k3 n k5 hm hs
      simp only [Bool.and_eq_true, decide_eq_true_eq, Bool.not_eq_true'] at q
      obtain ⟨rfl, rfl, rfl, hdel, hd, hb⟩ := q
      obtain ⟨nm, bs, mro, ns, qn, hdct, sn, sub, ab, col, del⟩ := cd
      dsimp only at hm hdel hd
      subst hm hdel hd
      have hsl : sl = #[k0, k1, k2, k3, some (.builtin "ValueError.__new__"), k5] := by
        obtain ⟨l⟩ := sl
        simp only at hs
        rw [hs]
      subst hsl
      exact ⟨nm, qn, ns, bs, bm, sn, sub, ab, col, dd, k0, k1, k2, k3, k5, ho, hb⟩
    · cases q
  · cases q
def exNB (K : PySem.W.Frag) (x f : Str) : Bool := exB K x && (oexB K (He.ga K x) && (decide (PySem.W.findIn K (xC K x) "__setattr__" = some (some (.builtin "object.__setattr__"))) && (decide (PySem.W.findIn K (xC K x) f = some none) &&
  (decide (PySem.W.findIn K (xC K x) "__init__" = some (some (.ref (He.ma K (He.ga K x) "__init__")))) && decide (PySem.W.typeIn K (.ref (He.ma K (He.ga K x) "__init__")) = some (.type "function"))))))
theorem exNB_ok {K : PySem.W.Frag} {mg : Str → Option Value} {x f : Str} (g : mg x = some (xC K x)) (h : exNB K x f = true) : ExN K mg x f := by
  unfold exNB at h
  simp only [Bool.and_eq_true, decide_eq_true_eq] at h
  obtain ⟨h1, h2, h3, h4, h5, h6⟩ := h
  have k := exB_ok g h1
  exact ⟨k, ⟨oexB_ok h2, h3, k.c.hs, k.ty, k.kp⟩, h4, h5, h6⟩
/-- the parent, whose __init__ is asked by name -/
structure ExH (K : PySem.W.Frag) (mg : Str → Option Value) : Prop where
  g : mg "HallError" = some (xC K "HallError")
  s : PySem.W.specialIn K (xC K "HallError") "__getattribute__" = some (some (.builtin "type.__getattribute__"))
  r : PySem.W.readsIn K (He.ga K "HallError") (.type "type") = true
  t : PySem.W.typeIn K (xC K "HallError") = some (.type "type")
  f : PySem.W.findCls K (xC K "HallError") (.type "type") "__init__" = some (.val (.builtin "ValueError.__init__"))
def isValB : Option PySem.W.CFound → Bool
  | some (.val (.builtin z)) => decide (z = "ValueError.__init__")
  | _ => false
theorem isValB_ok : ∀ {o : Option PySem.W.CFound}, isValB o = true → o = some (.val (.builtin "ValueError.__init__")) := fun {o} h => by
  unfold isValB at h
  split at h
  · rw [of_decide_eq_true h]
  · cases h
def exHB (K : PySem.W.Frag) : Bool := decide (PySem.W.specialIn K (xC K "HallError") "__getattribute__" = some (some (.builtin "type.__getattribute__"))) && (PySem.W.readsIn K (He.ga K "HallError") (.type "type") && (decide (PySem.W.typeIn K (xC K "HallError") = some (.type "type")) &&
  isValB (PySem.W.findCls K (xC K "HallError") (.type "type") "__init__")))
theorem exHB_ok {K : PySem.W.Frag} {mg : Str → Option Value} (g : mg "HallError" = some (xC K "HallError")) (h : exHB K = true) : ExH K mg := by
  unfold exHB at h
  simp only [Bool.and_eq_true, decide_eq_true_eq] at h
  obtain ⟨h1, h2, h3, h4⟩ := h
  exact ⟨g, h1, h2, h3, isValB_ok h4⟩
section
variable {X : Cx} {x f : Str} {p p1 p2 pos : Pos} {e : Expr} {es : List Expr} {ta : TA}
/-- raise X("..") -/
theorem pmk_txt {m : Str} {j : Nat} (F : ExT X.K X.mg x) (hg : Gl X x := by rfl) (hdb : (x == ("__debug__" : Str)) = false := by decide) : PMk X (.Call (.Name x p) [.Constant (.str m) j p2] [] pos) (fun _ H Q => Q (xC X.K x) none H) :=
  pmk_own PySem.F.excBase_ValueError F.i F.g F.kp (raises_own F.c.hs F.ty) hg hdb
/-- HallError.__init__(self, ..) -/
theorem pe_hinit {pl : Sem Bool} (F : ExH X.K X.mg) (ha : PA X (e :: es) ta) (hg : Gl X "HallError" := by rfl)
    (hc : eval (.Call (.Attribute (.Name "HallError" p1) "__init__" p2) (e :: es) [] pos) X.env = (do
      let ov ← eval (.Name "HallError" p1) X.env
      standAt p2.atName
      let (f, first) ← holding [ov] (getMethod ov "__init__" pl)
      callWith pos f first (backTo pos (starEach (e :: es) X.env)) (backToKw pos (keywordEach [] X.env))) := by rfl)
    (he : starEach (e :: es) X.env = (false, eval e X.env) :: starEach es X.env := by rfl) (hpl : (backTo pos (starEach es X.env)).any (·.1) = false := by rfl) :
    PE X (.Call (.Attribute (.Name "HallError" p1) "__init__" p2) (e :: es) [] pos) (tVeI X.K ta) := by
  refine ⟨fun pins s σ H Q I h => ?_⟩
  refine PySem.W.methodCall_KW (ld_glob I hg F.g ?_ (by decide)) hc
  obtain ⟨m, fr⟩ := I.fr
  refine PySem.W.method_of_cls fr I.ok.mod.kin F.s (PySem.W.cls_val fr I.ok.mod.kin F.t F.r F.f (by decide +kernel) ?_)
  show wpAny _ _ (callWith pos (Value.builtin "ValueError.__init__") [] (backTo pos (starEach (e :: es) X.env)) []) _ _ _
  refine PyProof.Rows.callWith_method1 (thn (ha.run pos pins _ σ H _ (I.tok _) h) fun us s1 ⟨vs, H1, I1, r1, a, C, ws, ev, hl, T, ea, q⟩ => ?_) he hpl
  subst ev
  cases r1 with
  | @cons _ u0 _ ur ra rw' =>
    obtain rfl : u0 = Value.ref a := ra
    exact oinit_ok T I1 ea (by rw [← Paired.length rw', sizeLine_eq]; omega) fun s' J => ⟨.non, H1, J, rfl, q⟩
/-- the promise of __init__(self, row): self.row = row -/
def spXInit (K : PySem.W.Frag) (x f : Str) : Sp := fun vs H Q _ => ∃ (a : Addr) (v : V), vs = [.ref a, v] ∧ H a = some (exo a (He.ga K x) none) ∧ ∀ d, H d = none → d ≠ a → Q .non (upd (upd H d (exd d [(f, v)])) a (exo a (He.ga K x) (some d)))
theorem pmk_num {k : Nat} {fd : FuncData} (F : ExN X.K X.mg x f) (F1 : FnOk X.prog X.w X.K X.mg X.base CX0 k (He.ma X.K (He.ga X.K x) "__init__") fd ["self", f] (spXInit X.K x f)) (hb : Binds X.K fd ["self", f] []) (hr : Room (k + 1) X.A) (ha : PA X (e :: es) ta) (hg : Gl X x := by rfl)
    (hdb : (x == ("__debug__" : Str)) = false := by decide) (he : starEach (e :: es) X.env = (false, eval e X.env) :: starEach es X.env := by rfl) (hpl : (backTo pos (starEach es X.env)).any (·.1) = false := by rfl) :
    PMk X (.Call (.Name x p) (e :: es) [] pos) (tMkO (He.ga X.K x) (spXInit X.K x f) [] ta) :=
  pmk_oex (CX := CX0) (dvs := []) (ds := []) F.o F.iC F.tI F1 hr hb .nil (fun _ _ _ _ _ _ _ z => z.elim) hg F.g ha hdb he hpl (p := p) (pos := pos)
/-- its reading's end -/
theorem num_end {K : PySem.W.Frag} {H1 : Hp} {v : V} {Q : XK} (q : ∀ d, H1 d = none → Q (xC K x) (some d) (upd H1 d (.xd [(f, v)]))) : [v].length ≤ 1000 ∧ ∀ a, H1 a = none → spXInit K x f (.ref a :: ([v] ++ [])) (upd H1 a (exo a (He.ga K x) none))
    (fun u H2 => u = .non ∧ ∃ (d : Addr) (fs : List (Str × V)), H2 a = some (exo a (He.ga K x) (some d)) ∧ H2 d = some (exd d fs) ∧ H1 d = none ∧ Q (.ref (He.ga K x)) (some d) (upd (del H2 a) d (.xd fs))) (fun _ _ _ => False) := by
  refine ⟨by show 1 ≤ 1000; decide, fun a ha => ⟨a, v, rfl, upd_same, fun d hd ne => ⟨rfl, d, [(f, v)], upd_same, by rw [upd_ne ne]; exact upd_same, ?_, ?_⟩⟩⟩
  · rwa [upd_ne ne] at hd
  · have hd1 : H1 d = none := by rwa [upd_ne ne] at hd
    have e : upd (del (upd (upd (upd H1 a (exo a (He.ga K x) none)) d (exd d [(f, v)])) a (exo a (He.ga K x) (some d))) a) d (.xd [(f, v)]) = upd H1 d (.xd [(f, v)]) := by
      funext b
      by_cases hb : b = d
      · rw [hb, upd_same, upd_same]
      · rw [upd_ne hb, upd_ne hb]
        by_cases ha2 : b = a
        · rw [ha2, del_same, ha]
        · rw [del_ne ha2, upd_ne ha2, upd_ne hb, upd_ne ha2]
    rw [e]
    exact q d hd1
end
end Mh
/-! MhHead -/
namespace Mh
open PySem PySem.Spec PyProof.Rows L2
def top (i : Nat) : Stmt := PySem.Challenge.pw_measurehall_k05_texts_refused.main.body.getD i (.Pass ⟨0, 0, 0, 0⟩)
abbrev s_is_number : Stmt := top 24
abbrev s_is_tagged : Stmt := top 25
abbrev s_is_rest : Stmt := top 26
abbrev s_are_known : Stmt := top 27
abbrev s_is_test : Stmt := top 28
abbrev s_is_answer : Stmt := top 29
abbrev s_need_machine : Stmt := top 30
abbrev s_part_words : Stmt := top 36
abbrev s_written : Stmt := top 37
abbrev s_number_of : Stmt := top 38
abbrev s_thing_of : Stmt := top 39
abbrev s_part_of : Stmt := top 40
abbrev s_row_of : Stmt := top 41
abbrev s_read : Stmt := top 42
abbrev s_l_dice : Stmt := top 44
abbrev s_l_off : Stmt := top 45
abbrev s_l_alike : Stmt := top 46
abbrev s_l_word_of : Stmt := top 47
abbrev s_l_test : Stmt := top 48
abbrev s_l_answer : Stmt := top 49
abbrev s_l_machine : Stmt := top 50
abbrev s_l_changed : Stmt := top 51
abbrev s_l_number : Stmt := top 52
abbrev s_l_row : Stmt := top 53
abbrev s_law : Stmt := top 54
abbrev s_BadMachine_init : Stmt := inClass (top 15) 0
abbrev s_BadText_init : Stmt := inClass (top 16) 0
abbrev s_BadTask_init : Stmt := inClass (top 17) 0
abbrev s_BadDeed_init : Stmt := inClass (top 18) 0
def fa : List He.Fa := [(.free "int"), (.free "str"), (.free "bool"), (.free "tuple"), (.free "list"), (.free "set"), (.free "len"), (.free "isinstance"), (.free "all"), (.free "sorted"), (.free "abs"), (.free "zip"), (.free "enumerate"), (.free "range"), (.free "ValueError"), (.int "MOST_ROWS" 12), (.int "MOST_KNOWN" 8), (.int "MOST_BY" 99), (.int "GREAT" 9999), (.str "FIGURES" "0123456789"), (.int "MOST_FIGURES" 4), (.glo "TESTS"), (.glo "ANSWERS"), (.glo "is_number"), (.glo "is_tagged"), (.glo "is_rest"), (.glo "are_known"), (.glo "is_test"), (.glo "is_answer"), (.glo "need_machine"), (.glo "part_words"), (.glo "written"), (.glo "number_of"), (.glo "thing_of"), (.glo "part_of"), (.glo "row_of"), (.glo "read"), (.glo "_law_dice"), (.glo "_law_off"), (.glo "_law_alike"), (.glo "_law_word_of"), (.glo "_law_test"), (.glo "_law_answer"), (.glo "_law_machine"), (.glo "_law_changed"), (.glo "_law_number"), (.glo "_law_row"), (.glo "law"), (.glo "HallError"), (.glo "BadQuestion"), (.glo "BadSeed"), (.glo "BadName"), (.glo "TooMany"), (.glo "Taken"), (.glo "NoMachine"), (.glo "NoTask"), (.glo "BadScore"), (.glo "NoRun"), (.glo "NotRanked"), (.glo "BadShare"), (.glo "NotAhead"), (.glo "NoPage"), (.glo "BadMachine"), (.glo "BadText"), (.glo "BadTask"), (.glo "BadDeed")]
def dd_is_number : He.DefD := ⟨("is_number", none), "is_number", "is_number", defArgs s_is_number, defBody s_is_number, defScope s_is_number, [], []⟩
def dd_is_tagged : He.DefD := ⟨("is_tagged", none), "is_tagged", "is_tagged", defArgs s_is_tagged, defBody s_is_tagged, defScope s_is_tagged, [], []⟩
def dd_is_rest : He.DefD := ⟨("is_rest", none), "is_rest", "is_rest", defArgs s_is_rest, defBody s_is_rest, defScope s_is_rest, [], []⟩
def dd_are_known : He.DefD := ⟨("are_known", none), "are_known", "are_known", defArgs s_are_known, defBody s_are_known, defScope s_are_known, [], []⟩
def dd_is_test : He.DefD := ⟨("is_test", none), "is_test", "is_test", defArgs s_is_test, defBody s_is_test, defScope s_is_test, [], []⟩
def dd_is_answer : He.DefD := ⟨("is_answer", none), "is_answer", "is_answer", defArgs s_is_answer, defBody s_is_answer, defScope s_is_answer, [], []⟩
def dd_need_machine : He.DefD := ⟨("need_machine", none), "need_machine", "need_machine", defArgs s_need_machine, defBody s_need_machine, defScope s_need_machine, [], []⟩
def dd_part_words : He.DefD := ⟨("part_words", none), "part_words", "part_words", defArgs s_part_words, defBody s_part_words, defScope s_part_words, [], []⟩
def dd_written : He.DefD := ⟨("written", none), "written", "written", defArgs s_written, defBody s_written, defScope s_written, [], []⟩
def dd_number_of : He.DefD := ⟨("number_of", none), "number_of", "number_of", defArgs s_number_of, defBody s_number_of, defScope s_number_of, [], []⟩
def dd_thing_of : He.DefD := ⟨("thing_of", none), "thing_of", "thing_of", defArgs s_thing_of, defBody s_thing_of, defScope s_thing_of, [], []⟩
def dd_part_of : He.DefD := ⟨("part_of", none), "part_of", "part_of", defArgs s_part_of, defBody s_part_of, defScope s_part_of, [], []⟩
def dd_row_of : He.DefD := ⟨("row_of", none), "row_of", "row_of", defArgs s_row_of, defBody s_row_of, defScope s_row_of, [], []⟩
def dd_read : He.DefD := ⟨("read", none), "read", "read", defArgs s_read, defBody s_read, defScope s_read, [], []⟩
def dd_l_dice : He.DefD := ⟨("_law_dice", none), "_law_dice", "_law_dice", defArgs s_l_dice, defBody s_l_dice, defScope s_l_dice, [], []⟩
def dd_l_off : He.DefD := ⟨("_law_off", none), "_law_off", "_law_off", defArgs s_l_off, defBody s_l_off, defScope s_l_off, [], []⟩
def dd_l_alike : He.DefD := ⟨("_law_alike", none), "_law_alike", "_law_alike", defArgs s_l_alike, defBody s_l_alike, defScope s_l_alike, [], []⟩
def dd_l_word_of : He.DefD := ⟨("_law_word_of", none), "_law_word_of", "_law_word_of", defArgs s_l_word_of, defBody s_l_word_of, defScope s_l_word_of, [], []⟩
def dd_l_test : He.DefD := ⟨("_law_test", none), "_law_test", "_law_test", defArgs s_l_test, defBody s_l_test, defScope s_l_test, [], []⟩
def dd_l_answer : He.DefD := ⟨("_law_answer", none), "_law_answer", "_law_answer", defArgs s_l_answer, defBody s_l_answer, defScope s_l_answer, [], []⟩
def dd_l_machine : He.DefD := ⟨("_law_machine", none), "_law_machine", "_law_machine", defArgs s_l_machine, defBody s_l_machine, defScope s_l_machine, [], []⟩
def dd_l_changed : He.DefD := ⟨("_law_changed", none), "_law_changed", "_law_changed", defArgs s_l_changed, defBody s_l_changed, defScope s_l_changed, [], []⟩
def dd_l_number : He.DefD := ⟨("_law_number", none), "_law_number", "_law_number", defArgs s_l_number, defBody s_l_number, defScope s_l_number, [], []⟩
def dd_l_row : He.DefD := ⟨("_law_row", none), "_law_row", "_law_row", defArgs s_l_row, defBody s_l_row, defScope s_l_row, [], []⟩
def dd_law : He.DefD := ⟨("law", none), "law", "law", defArgs s_law, defBody s_law, defScope s_law, [], []⟩
def dd_BadMachine_init : He.DefD := ⟨("BadMachine", some "__init__"), "__init__", "BadMachine.__init__", defArgs s_BadMachine_init, defBody s_BadMachine_init, defScope s_BadMachine_init, [], []⟩
def dd_BadText_init : He.DefD := ⟨("BadText", some "__init__"), "__init__", "BadText.__init__", defArgs s_BadText_init, defBody s_BadText_init, defScope s_BadText_init, [], []⟩
def fn : List He.DefD := [dd_is_number, dd_is_tagged, dd_is_rest, dd_are_known, dd_is_test, dd_is_answer, dd_need_machine, dd_part_words, dd_written, dd_number_of, dd_thing_of, dd_part_of, dd_row_of, dd_read, dd_l_dice, dd_l_off, dd_l_alike, dd_l_word_of, dd_l_test, dd_l_answer, dd_l_machine, dd_l_changed, dd_l_number, dd_l_row, dd_law, dd_BadMachine_init, dd_BadText_init]
/-- what the walk leans on of what the top has left -/
structure Tx (K : PySem.W.Frag) (mg : Str → Option Value) : Prop where
  c : He.SaysD fa fn K
  x : ∃ h : Heap, K.In h ∧ h.Ns mainGlobals mg
section
variable {K : PySem.W.Frag} {mg : Str → Option Value}
theorem Tx.f_int (T : Tx K mg) : mg "int" = none := let ⟨_, X, G⟩ := T.x; He.free_ok X G (T.c.fact 0 rfl)
theorem Tx.f_str (T : Tx K mg) : mg "str" = none := let ⟨_, X, G⟩ := T.x; He.free_ok X G (T.c.fact 1 rfl)
theorem Tx.f_bool (T : Tx K mg) : mg "bool" = none := let ⟨_, X, G⟩ := T.x; He.free_ok X G (T.c.fact 2 rfl)
theorem Tx.f_tuple (T : Tx K mg) : mg "tuple" = none := let ⟨_, X, G⟩ := T.x; He.free_ok X G (T.c.fact 3 rfl)
theorem Tx.f_list (T : Tx K mg) : mg "list" = none := let ⟨_, X, G⟩ := T.x; He.free_ok X G (T.c.fact 4 rfl)
theorem Tx.f_set (T : Tx K mg) : mg "set" = none := let ⟨_, X, G⟩ := T.x; He.free_ok X G (T.c.fact 5 rfl)
theorem Tx.f_len (T : Tx K mg) : mg "len" = none := let ⟨_, X, G⟩ := T.x; He.free_ok X G (T.c.fact 6 rfl)
theorem Tx.f_isinstance (T : Tx K mg) : mg "isinstance" = none := let ⟨_, X, G⟩ := T.x; He.free_ok X G (T.c.fact 7 rfl)
theorem Tx.f_all (T : Tx K mg) : mg "all" = none := let ⟨_, X, G⟩ := T.x; He.free_ok X G (T.c.fact 8 rfl)
theorem Tx.f_sorted (T : Tx K mg) : mg "sorted" = none := let ⟨_, X, G⟩ := T.x; He.free_ok X G (T.c.fact 9 rfl)
theorem Tx.f_abs (T : Tx K mg) : mg "abs" = none := let ⟨_, X, G⟩ := T.x; He.free_ok X G (T.c.fact 10 rfl)
theorem Tx.f_zip (T : Tx K mg) : mg "zip" = none := let ⟨_, X, G⟩ := T.x; He.free_ok X G (T.c.fact 11 rfl)
theorem Tx.f_enumerate (T : Tx K mg) : mg "enumerate" = none := let ⟨_, X, G⟩ := T.x; He.free_ok X G (T.c.fact 12 rfl)
theorem Tx.f_range (T : Tx K mg) : mg "range" = none := let ⟨_, X, G⟩ := T.x; He.free_ok X G (T.c.fact 13 rfl)
theorem Tx.f_ValueError (T : Tx K mg) : mg "ValueError" = none := let ⟨_, X, G⟩ := T.x; He.free_ok X G (T.c.fact 14 rfl)
theorem Tx.c_MOST_ROWS (T : Tx K mg) : ∃ t, mg "MOST_ROWS" = some (.int 12 t) := let ⟨_, X, G⟩ := T.x; He.int_ok X G (T.c.fact 15 rfl)
theorem Tx.c_MOST_KNOWN (T : Tx K mg) : ∃ t, mg "MOST_KNOWN" = some (.int 8 t) := let ⟨_, X, G⟩ := T.x; He.int_ok X G (T.c.fact 16 rfl)
theorem Tx.c_MOST_BY (T : Tx K mg) : ∃ t, mg "MOST_BY" = some (.int 99 t) := let ⟨_, X, G⟩ := T.x; He.int_ok X G (T.c.fact 17 rfl)
theorem Tx.c_GREAT (T : Tx K mg) : ∃ t, mg "GREAT" = some (.int 9999 t) := let ⟨_, X, G⟩ := T.x; He.int_ok X G (T.c.fact 18 rfl)
theorem Tx.s_FIGURES (T : Tx K mg) : ∃ t, mg "FIGURES" = some (.str "0123456789" t) := let ⟨_, X, G⟩ := T.x; He.str_ok X G (T.c.fact 19 rfl)
theorem Tx.c_MOST_FIGURES (T : Tx K mg) : ∃ t, mg "MOST_FIGURES" = some (.int 4 t) := let ⟨_, X, G⟩ := T.x; He.int_ok X G (T.c.fact 20 rfl)
theorem Tx.g_TESTS (T : Tx K mg) : mg "TESTS" = some (.ref (He.ga K "TESTS")) := let ⟨_, X, G⟩ := T.x; He.glo_ok X G (T.c.fact 21 rfl)
theorem Tx.g_ANSWERS (T : Tx K mg) : mg "ANSWERS" = some (.ref (He.ga K "ANSWERS")) := let ⟨_, X, G⟩ := T.x; He.glo_ok X G (T.c.fact 22 rfl)
theorem Tx.g_is_number (T : Tx K mg) : mg "is_number" = some (.ref (He.ga K "is_number")) := let ⟨_, X, G⟩ := T.x; He.glo_ok X G (T.c.fact 23 rfl)
theorem Tx.g_is_tagged (T : Tx K mg) : mg "is_tagged" = some (.ref (He.ga K "is_tagged")) := let ⟨_, X, G⟩ := T.x; He.glo_ok X G (T.c.fact 24 rfl)
theorem Tx.g_is_rest (T : Tx K mg) : mg "is_rest" = some (.ref (He.ga K "is_rest")) := let ⟨_, X, G⟩ := T.x; He.glo_ok X G (T.c.fact 25 rfl)
theorem Tx.g_are_known (T : Tx K mg) : mg "are_known" = some (.ref (He.ga K "are_known")) := let ⟨_, X, G⟩ := T.x; He.glo_ok X G (T.c.fact 26 rfl)
theorem Tx.g_is_test (T : Tx K mg) : mg "is_test" = some (.ref (He.ga K "is_test")) := let ⟨_, X, G⟩ := T.x; He.glo_ok X G (T.c.fact 27 rfl)
theorem Tx.g_is_answer (T : Tx K mg) : mg "is_answer" = some (.ref (He.ga K "is_answer")) := let ⟨_, X, G⟩ := T.x; He.glo_ok X G (T.c.fact 28 rfl)
theorem Tx.g_need_machine (T : Tx K mg) : mg "need_machine" = some (.ref (He.ga K "need_machine")) := let ⟨_, X, G⟩ := T.x; He.glo_ok X G (T.c.fact 29 rfl)
theorem Tx.g_part_words (T : Tx K mg) : mg "part_words" = some (.ref (He.ga K "part_words")) := let ⟨_, X, G⟩ := T.x; He.glo_ok X G (T.c.fact 30 rfl)
theorem Tx.g_written (T : Tx K mg) : mg "written" = some (.ref (He.ga K "written")) := let ⟨_, X, G⟩ := T.x; He.glo_ok X G (T.c.fact 31 rfl)
theorem Tx.g_number_of (T : Tx K mg) : mg "number_of" = some (.ref (He.ga K "number_of")) := let ⟨_, X, G⟩ := T.x; He.glo_ok X G (T.c.fact 32 rfl)
theorem Tx.g_thing_of (T : Tx K mg) : mg "thing_of" = some (.ref (He.ga K "thing_of")) := let ⟨_, X, G⟩ := T.x; He.glo_ok X G (T.c.fact 33 rfl)
theorem Tx.g_part_of (T : Tx K mg) : mg "part_of" = some (.ref (He.ga K "part_of")) := let ⟨_, X, G⟩ := T.x; He.glo_ok X G (T.c.fact 34 rfl)
theorem Tx.g_row_of (T : Tx K mg) : mg "row_of" = some (.ref (He.ga K "row_of")) := let ⟨_, X, G⟩ := T.x; He.glo_ok X G (T.c.fact 35 rfl)
theorem Tx.g_read (T : Tx K mg) : mg "read" = some (.ref (He.ga K "read")) := let ⟨_, X, G⟩ := T.x; He.glo_ok X G (T.c.fact 36 rfl)
theorem Tx.g_l_dice (T : Tx K mg) : mg "_law_dice" = some (.ref (He.ga K "_law_dice")) := let ⟨_, X, G⟩ := T.x; He.glo_ok X G (T.c.fact 37 rfl)
theorem Tx.g_l_off (T : Tx K mg) : mg "_law_off" = some (.ref (He.ga K "_law_off")) := let ⟨_, X, G⟩ := T.x; He.glo_ok X G (T.c.fact 38 rfl)
theorem Tx.g_l_alike (T : Tx K mg) : mg "_law_alike" = some (.ref (He.ga K "_law_alike")) := let ⟨_, X, G⟩ := T.x; He.glo_ok X G (T.c.fact 39 rfl)
theorem Tx.g_l_word_of (T : Tx K mg) : mg "_law_word_of" = some (.ref (He.ga K "_law_word_of")) := let ⟨_, X, G⟩ := T.x; He.glo_ok X G (T.c.fact 40 rfl)
theorem Tx.g_l_test (T : Tx K mg) : mg "_law_test" = some (.ref (He.ga K "_law_test")) := let ⟨_, X, G⟩ := T.x; He.glo_ok X G (T.c.fact 41 rfl)
theorem Tx.g_l_answer (T : Tx K mg) : mg "_law_answer" = some (.ref (He.ga K "_law_answer")) := let ⟨_, X, G⟩ := T.x; He.glo_ok X G (T.c.fact 42 rfl)
theorem Tx.g_l_machine (T : Tx K mg) : mg "_law_machine" = some (.ref (He.ga K "_law_machine")) := let ⟨_, X, G⟩ := T.x; He.glo_ok X G (T.c.fact 43 rfl)
theorem Tx.g_l_changed (T : Tx K mg) : mg "_law_changed" = some (.ref (He.ga K "_law_changed")) := let ⟨_, X, G⟩ := T.x; He.glo_ok X G (T.c.fact 44 rfl)
theorem Tx.g_l_number (T : Tx K mg) : mg "_law_number" = some (.ref (He.ga K "_law_number")) := let ⟨_, X, G⟩ := T.x; He.glo_ok X G (T.c.fact 45 rfl)
theorem Tx.g_l_row (T : Tx K mg) : mg "_law_row" = some (.ref (He.ga K "_law_row")) := let ⟨_, X, G⟩ := T.x; He.glo_ok X G (T.c.fact 46 rfl)
theorem Tx.g_law (T : Tx K mg) : mg "law" = some (.ref (He.ga K "law")) := let ⟨_, X, G⟩ := T.x; He.glo_ok X G (T.c.fact 47 rfl)
theorem Tx.g_HallError (T : Tx K mg) : mg "HallError" = some (.ref (He.ga K "HallError")) := let ⟨_, X, G⟩ := T.x; He.glo_ok X G (T.c.fact 48 rfl)
theorem Tx.g_BadQuestion (T : Tx K mg) : mg "BadQuestion" = some (.ref (He.ga K "BadQuestion")) := let ⟨_, X, G⟩ := T.x; He.glo_ok X G (T.c.fact 49 rfl)
theorem Tx.g_BadSeed (T : Tx K mg) : mg "BadSeed" = some (.ref (He.ga K "BadSeed")) := let ⟨_, X, G⟩ := T.x; He.glo_ok X G (T.c.fact 50 rfl)
theorem Tx.g_BadName (T : Tx K mg) : mg "BadName" = some (.ref (He.ga K "BadName")) := let ⟨_, X, G⟩ := T.x; He.glo_ok X G (T.c.fact 51 rfl)
theorem Tx.g_TooMany (T : Tx K mg) : mg "TooMany" = some (.ref (He.ga K "TooMany")) := let ⟨_, X, G⟩ := T.x; He.glo_ok X G (T.c.fact 52 rfl)
theorem Tx.g_Taken (T : Tx K mg) : mg "Taken" = some (.ref (He.ga K "Taken")) := let ⟨_, X, G⟩ := T.x; He.glo_ok X G (T.c.fact 53 rfl)
theorem Tx.g_NoMachine (T : Tx K mg) : mg "NoMachine" = some (.ref (He.ga K "NoMachine")) := let ⟨_, X, G⟩ := T.x; He.glo_ok X G (T.c.fact 54 rfl)
theorem Tx.g_NoTask (T : Tx K mg) : mg "NoTask" = some (.ref (He.ga K "NoTask")) := let ⟨_, X, G⟩ := T.x; He.glo_ok X G (T.c.fact 55 rfl)
theorem Tx.g_BadScore (T : Tx K mg) : mg "BadScore" = some (.ref (He.ga K "BadScore")) := let ⟨_, X, G⟩ := T.x; He.glo_ok X G (T.c.fact 56 rfl)
theorem Tx.g_NoRun (T : Tx K mg) : mg "NoRun" = some (.ref (He.ga K "NoRun")) := let ⟨_, X, G⟩ := T.x; He.glo_ok X G (T.c.fact 57 rfl)
theorem Tx.g_NotRanked (T : Tx K mg) : mg "NotRanked" = some (.ref (He.ga K "NotRanked")) := let ⟨_, X, G⟩ := T.x; He.glo_ok X G (T.c.fact 58 rfl)
theorem Tx.g_BadShare (T : Tx K mg) : mg "BadShare" = some (.ref (He.ga K "BadShare")) := let ⟨_, X, G⟩ := T.x; He.glo_ok X G (T.c.fact 59 rfl)
theorem Tx.g_NotAhead (T : Tx K mg) : mg "NotAhead" = some (.ref (He.ga K "NotAhead")) := let ⟨_, X, G⟩ := T.x; He.glo_ok X G (T.c.fact 60 rfl)
theorem Tx.g_NoPage (T : Tx K mg) : mg "NoPage" = some (.ref (He.ga K "NoPage")) := let ⟨_, X, G⟩ := T.x; He.glo_ok X G (T.c.fact 61 rfl)
theorem Tx.g_BadMachine (T : Tx K mg) : mg "BadMachine" = some (.ref (He.ga K "BadMachine")) := let ⟨_, X, G⟩ := T.x; He.glo_ok X G (T.c.fact 62 rfl)
theorem Tx.g_BadText (T : Tx K mg) : mg "BadText" = some (.ref (He.ga K "BadText")) := let ⟨_, X, G⟩ := T.x; He.glo_ok X G (T.c.fact 63 rfl)
theorem Tx.g_BadTask (T : Tx K mg) : mg "BadTask" = some (.ref (He.ga K "BadTask")) := let ⟨_, X, G⟩ := T.x; He.glo_ok X G (T.c.fact 64 rfl)
theorem Tx.g_BadDeed (T : Tx K mg) : mg "BadDeed" = some (.ref (He.ga K "BadDeed")) := let ⟨_, X, G⟩ := T.x; He.glo_ok X G (T.c.fact 65 rfl)
theorem Tx.d_is_number (T : Tx K mg) : ∃ fd, FunD K "is_number" "is_number" (defArgs s_is_number) (defBody s_is_number) (defScope s_is_number) [] [] (He.fAd K ("is_number", none)) fd := T.c.def_ 0 (d := dd_is_number) rfl
theorem Tx.d_is_tagged (T : Tx K mg) : ∃ fd, FunD K "is_tagged" "is_tagged" (defArgs s_is_tagged) (defBody s_is_tagged) (defScope s_is_tagged) [] [] (He.fAd K ("is_tagged", none)) fd := T.c.def_ 1 (d := dd_is_tagged) rfl
theorem Tx.d_is_rest (T : Tx K mg) : ∃ fd, FunD K "is_rest" "is_rest" (defArgs s_is_rest) (defBody s_is_rest) (defScope s_is_rest) [] [] (He.fAd K ("is_rest", none)) fd := T.c.def_ 2 (d := dd_is_rest) rfl
theorem Tx.d_are_known (T : Tx K mg) : ∃ fd, FunD K "are_known" "are_known" (defArgs s_are_known) (defBody s_are_known) (defScope s_are_known) [] [] (He.fAd K ("are_known", none)) fd := T.c.def_ 3 (d := dd_are_known) rfl
theorem Tx.d_is_test (T : Tx K mg) : ∃ fd, FunD K "is_test" "is_test" (defArgs s_is_test) (defBody s_is_test) (defScope s_is_test) [] [] (He.fAd K ("is_test", none)) fd := T.c.def_ 4 (d := dd_is_test) rfl
theorem Tx.d_is_answer (T : Tx K mg) : ∃ fd, FunD K "is_answer" "is_answer" (defArgs s_is_answer) (defBody s_is_answer) (defScope s_is_answer) [] [] (He.fAd K ("is_answer", none)) fd := T.c.def_ 5 (d := dd_is_answer) rfl
theorem Tx.d_need_machine (T : Tx K mg) : ∃ fd, FunD K "need_machine" "need_machine" (defArgs s_need_machine) (defBody s_need_machine) (defScope s_need_machine) [] [] (He.fAd K ("need_machine", none)) fd := T.c.def_ 6 (d := dd_need_machine) rfl
theorem Tx.d_part_words (T : Tx K mg) : ∃ fd, FunD K "part_words" "part_words" (defArgs s_part_words) (defBody s_part_words) (defScope s_part_words) [] [] (He.fAd K ("part_words", none)) fd := T.c.def_ 7 (d := dd_part_words) rfl
theorem Tx.d_written (T : Tx K mg) : ∃ fd, FunD K "written" "written" (defArgs s_written) (defBody s_written) (defScope s_written) [] [] (He.fAd K ("written", none)) fd := T.c.def_ 8 (d := dd_written) rfl
theorem Tx.d_number_of (T : Tx K mg) : ∃ fd, FunD K "number_of" "number_of" (defArgs s_number_of) (defBody s_number_of) (defScope s_number_of) [] [] (He.fAd K ("number_of", none)) fd := T.c.def_ 9 (d := dd_number_of) rfl
theorem Tx.d_thing_of (T : Tx K mg) : ∃ fd, FunD K "thing_of" "thing_of" (defArgs s_thing_of) (defBody s_thing_of) (defScope s_thing_of) [] [] (He.fAd K ("thing_of", none)) fd := T.c.def_ 10 (d := dd_thing_of) rfl
theorem Tx.d_part_of (T : Tx K mg) : ∃ fd, FunD K "part_of" "part_of" (defArgs s_part_of) (defBody s_part_of) (defScope s_part_of) [] [] (He.fAd K ("part_of", none)) fd := T.c.def_ 11 (d := dd_part_of) rfl
theorem Tx.d_row_of (T : Tx K mg) : ∃ fd, FunD K "row_of" "row_of" (defArgs s_row_of) (defBody s_row_of) (defScope s_row_of) [] [] (He.fAd K ("row_of", none)) fd := T.c.def_ 12 (d := dd_row_of) rfl
theorem Tx.d_read (T : Tx K mg) : ∃ fd, FunD K "read" "read" (defArgs s_read) (defBody s_read) (defScope s_read) [] [] (He.fAd K ("read", none)) fd := T.c.def_ 13 (d := dd_read) rfl
theorem Tx.d_l_dice (T : Tx K mg) : ∃ fd, FunD K "_law_dice" "_law_dice" (defArgs s_l_dice) (defBody s_l_dice) (defScope s_l_dice) [] [] (He.fAd K ("_law_dice", none)) fd := T.c.def_ 14 (d := dd_l_dice) rfl
theorem Tx.d_l_off (T : Tx K mg) : ∃ fd, FunD K "_law_off" "_law_off" (defArgs s_l_off) (defBody s_l_off) (defScope s_l_off) [] [] (He.fAd K ("_law_off", none)) fd := T.c.def_ 15 (d := dd_l_off) rfl
theorem Tx.d_l_alike (T : Tx K mg) : ∃ fd, FunD K "_law_alike" "_law_alike" (defArgs s_l_alike) (defBody s_l_alike) (defScope s_l_alike) [] [] (He.fAd K ("_law_alike", none)) fd := T.c.def_ 16 (d := dd_l_alike) rfl
theorem Tx.d_l_word_of (T : Tx K mg) : ∃ fd, FunD K "_law_word_of" "_law_word_of" (defArgs s_l_word_of) (defBody s_l_word_of) (defScope s_l_word_of) [] [] (He.fAd K ("_law_word_of", none)) fd := T.c.def_ 17 (d := dd_l_word_of) rfl
theorem Tx.d_l_test (T : Tx K mg) : ∃ fd, FunD K "_law_test" "_law_test" (defArgs s_l_test) (defBody s_l_test) (defScope s_l_test) [] [] (He.fAd K ("_law_test", none)) fd := T.c.def_ 18 (d := dd_l_test) rfl
theorem Tx.d_l_answer (T : Tx K mg) : ∃ fd, FunD K "_law_answer" "_law_answer" (defArgs s_l_answer) (defBody s_l_answer) (defScope s_l_answer) [] [] (He.fAd K ("_law_answer", none)) fd := T.c.def_ 19 (d := dd_l_answer) rfl
theorem Tx.d_l_machine (T : Tx K mg) : ∃ fd, FunD K "_law_machine" "_law_machine" (defArgs s_l_machine) (defBody s_l_machine) (defScope s_l_machine) [] [] (He.fAd K ("_law_machine", none)) fd := T.c.def_ 20 (d := dd_l_machine) rfl
theorem Tx.d_l_changed (T : Tx K mg) : ∃ fd, FunD K "_law_changed" "_law_changed" (defArgs s_l_changed) (defBody s_l_changed) (defScope s_l_changed) [] [] (He.fAd K ("_law_changed", none)) fd := T.c.def_ 21 (d := dd_l_changed) rfl
theorem Tx.d_l_number (T : Tx K mg) : ∃ fd, FunD K "_law_number" "_law_number" (defArgs s_l_number) (defBody s_l_number) (defScope s_l_number) [] [] (He.fAd K ("_law_number", none)) fd := T.c.def_ 22 (d := dd_l_number) rfl
theorem Tx.d_l_row (T : Tx K mg) : ∃ fd, FunD K "_law_row" "_law_row" (defArgs s_l_row) (defBody s_l_row) (defScope s_l_row) [] [] (He.fAd K ("_law_row", none)) fd := T.c.def_ 23 (d := dd_l_row) rfl
theorem Tx.d_law (T : Tx K mg) : ∃ fd, FunD K "law" "law" (defArgs s_law) (defBody s_law) (defScope s_law) [] [] (He.fAd K ("law", none)) fd := T.c.def_ 24 (d := dd_law) rfl
theorem Tx.d_BadMachine_init (T : Tx K mg) : ∃ fd, FunD K "__init__" "BadMachine.__init__" (defArgs s_BadMachine_init) (defBody s_BadMachine_init) (defScope s_BadMachine_init) [] [] (He.fAd K ("BadMachine", some "__init__")) fd := T.c.def_ 25 (d := dd_BadMachine_init) rfl
theorem Tx.d_BadText_init (T : Tx K mg) : ∃ fd, FunD K "__init__" "BadText.__init__" (defArgs s_BadText_init) (defBody s_BadText_init) (defScope s_BadText_init) [] [] (He.fAd K ("BadText", some "__init__")) fd := T.c.def_ 26 (d := dd_BadText_init) rfl
end
/-! ### dicts of the written part -/
def tabsW : List (PySem.Str × List PySem.Str) := [("TESTS", ["any", "below", "rest", "chance", "known"]), ("ANSWERS", ["num", "plus", "times", "rest", "none"])]
def tabQ : List (PySem.Str × PySem.Str × Option V) := [("TESTS", "any", some (.str "")), ("TESTS", "below", some (.str "n")), ("TESTS", "rest", some (.str "nn")), ("TESTS", "chance", some (.str "nn")), ("TESTS", "known", some (.str "k")), ("ANSWERS", "num", some (.str "n")), ("ANSWERS", "plus", some (.str "n")), ("ANSWERS", "times", some (.str "n")), ("ANSWERS", "rest", some (.str "n")), ("ANSWERS", "none", some (.str ""))]
def valB : V → Value → Bool
  | .int i, .int j _ => decide (i = j)
  | .str x, .str y _ => decide (x = y)
  | _, _ => false
theorem valB_ok {v : V} {u : Value} (h : valB v u = true) : RelV v u := by
  cases v <;> cases u <;> first | exact ⟨_, by rw [of_decide_eq_true h]⟩ | cases h
def tabOk (K : PySem.W.Frag) (t : PySem.Str × PySem.Str × Option V) : Bool := match PySem.W.nsIn K (He.ga K t.1) t.2.1, t.2.2 with
  | some none, none => true
  | some (some u), some v => valB v u
  | _, _ => false
def TabV (K : PySem.W.Frag) (d : Addr) (z : PySem.Str) : Option V → Prop
  | none => PySem.W.nsIn K d z = some none
  | some v => ∃ u, PySem.W.nsIn K d z = some (some u) ∧ RelV v u
structure TabD (K : PySem.W.Frag) (w : World) : Prop where
  t : tabsW.map (fun t => He.dicW K (He.ga K t.1)) = tabsW.map (fun t => some (He.keysIn w.params t.2))
  q : tabQ.all (tabOk K) = true
theorem TabD.dic {K : PySem.W.Frag} {w : World} (c : TabD K w) (i : Nat) {x : PySem.Str} {ks : List PySem.Str} (h : tabsW[i]? = some (x, ks)) : ∃ es n, KDict K w (He.ga K x) es n := by
  have e := c.t
  have e2 : (tabsW.map fun t => He.dicW K (He.ga K t.1))[i]? = (tabsW.map fun t => some (He.keysIn w.params t.2))[i]? := by rw [e]
  rw [List.getElem?_map, List.getElem?_map, h] at e2
  exact He.dicW_ok (Option.some.inj e2)
theorem TabD.val {K : PySem.W.Frag} {w : World} (c : TabD K w) (i : Nat) {x z : PySem.Str} {o : Option V} (h : tabQ[i]? = some (x, z, o)) : TabV K (He.ga K x) z o := by
  have e := List.all_eq_true.mp c.q _ (List.mem_of_getElem? h)
  unfold tabOk at e
  cases hn : PySem.W.nsIn K (He.ga K x) z with
  | none => simp only [hn] at e; cases e
  | some r =>
    cases r with
    | none => cases o with
      | none => exact hn
      | some v => simp only [hn] at e; cases e
    | some u => cases o with
      | none => simp only [hn] at e; cases e
      | some v => simp only [hn] at e; exact ⟨u, hn, valB_ok e⟩
theorem TabD.d_TESTS {K : PySem.W.Frag} {w : World} (c : TabD K w) : ∃ es n, KDict K w (He.ga K "TESTS") es n := c.dic 0 rfl
theorem TabD.d_ANSWERS {K : PySem.W.Frag} {w : World} (c : TabD K w) : ∃ es n, KDict K w (He.ga K "ANSWERS") es n := c.dic 1 rfl
theorem TabD.v_TESTS_any {K : PySem.W.Frag} {w : World} (c : TabD K w) : TabV K (He.ga K "TESTS") "any" (some (.str "")) := c.val 0 rfl
theorem TabD.v_TESTS_below {K : PySem.W.Frag} {w : World} (c : TabD K w) : TabV K (He.ga K "TESTS") "below" (some (.str "n")) := c.val 1 rfl
theorem TabD.v_TESTS_rest {K : PySem.W.Frag} {w : World} (c : TabD K w) : TabV K (He.ga K "TESTS") "rest" (some (.str "nn")) := c.val 2 rfl
theorem TabD.v_TESTS_chance {K : PySem.W.Frag} {w : World} (c : TabD K w) : TabV K (He.ga K "TESTS") "chance" (some (.str "nn")) := c.val 3 rfl
theorem TabD.v_TESTS_known {K : PySem.W.Frag} {w : World} (c : TabD K w) : TabV K (He.ga K "TESTS") "known" (some (.str "k")) := c.val 4 rfl
theorem TabD.v_ANSWERS_num {K : PySem.W.Frag} {w : World} (c : TabD K w) : TabV K (He.ga K "ANSWERS") "num" (some (.str "n")) := c.val 5 rfl
theorem TabD.v_ANSWERS_plus {K : PySem.W.Frag} {w : World} (c : TabD K w) : TabV K (He.ga K "ANSWERS") "plus" (some (.str "n")) := c.val 6 rfl
theorem TabD.v_ANSWERS_times {K : PySem.W.Frag} {w : World} (c : TabD K w) : TabV K (He.ga K "ANSWERS") "times" (some (.str "n")) := c.val 7 rfl
theorem TabD.v_ANSWERS_rest {K : PySem.W.Frag} {w : World} (c : TabD K w) : TabV K (He.ga K "ANSWERS") "rest" (some (.str "n")) := c.val 8 rfl
theorem TabD.v_ANSWERS_none {K : PySem.W.Frag} {w : World} (c : TabD K w) : TabV K (He.ga K "ANSWERS") "none" (some (.str "")) := c.val 9 rfl
/-! ### refusals -/
def txL : List PySem.Str := ["BadQuestion", "BadSeed", "BadName", "TooMany", "Taken", "NoMachine", "NoTask", "BadScore", "NoRun", "NotRanked", "BadShare", "NotAhead", "NoPage"]
def nxL : List (PySem.Str × PySem.Str) := [("BadMachine", "row"), ("BadText", "row"), ("BadTask", "number"), ("BadDeed", "number")]
def exAll (K : PySem.W.Frag) : Bool := exHB K && (txL.all (exTB K) && nxL.all fun q => exNB K q.1 q.2)
structure ExD (K : PySem.W.Frag) : Prop where
  b : exAll K = true
theorem ExD.h {K : PySem.W.Frag} (x : ExD K) : exHB K = true := (Bool.and_eq_true_iff.mp x.b).1
theorem ExD.t {K : PySem.W.Frag} (x : ExD K) {z : PySem.Str} (h : z ∈ txL) : exTB K z = true := List.all_eq_true.mp (Bool.and_eq_true_iff.mp (Bool.and_eq_true_iff.mp x.b).2).1 z h
theorem ExD.n {K : PySem.W.Frag} (x : ExD K) {z : PySem.Str × PySem.Str} (h : z ∈ nxL) : exNB K z.1 z.2 = true := List.all_eq_true.mp (Bool.and_eq_true_iff.mp (Bool.and_eq_true_iff.mp x.b).2).2 z h
theorem xh {K : PySem.W.Frag} {mg : Str → Option Value} (T : Tx K mg) (XD : ExD K) : ExH K mg := exHB_ok T.g_HallError XD.h
theorem xt_BadQuestion {K : PySem.W.Frag} {mg : Str → Option Value} (T : Tx K mg) (XD : ExD K) : ExT K mg "BadQuestion" := exTB_ok T.g_BadQuestion (XD.t (by decide +kernel))
theorem xt_BadSeed {K : PySem.W.Frag} {mg : Str → Option Value} (T : Tx K mg) (XD : ExD K) : ExT K mg "BadSeed" := exTB_ok T.g_BadSeed (XD.t (by decide +kernel))
theorem xt_BadName {K : PySem.W.Frag} {mg : Str → Option Value} (T : Tx K mg) (XD : ExD K) : ExT K mg "BadName" := exTB_ok T.g_BadName (XD.t (by decide +kernel))
theorem xt_TooMany {K : PySem.W.Frag} {mg : Str → Option Value} (T : Tx K mg) (XD : ExD K) : ExT K mg "TooMany" := exTB_ok T.g_TooMany (XD.t (by decide +kernel))
theorem xt_Taken {K : PySem.W.Frag} {mg : Str → Option Value} (T : Tx K mg) (XD : ExD K) : ExT K mg "Taken" := exTB_ok T.g_Taken (XD.t (by decide +kernel))
theorem xt_NoMachine {K : PySem.W.Frag} {mg : Str → Option Value} (T : Tx K mg) (XD : ExD K) : ExT K mg "NoMachine" := exTB_ok T.g_NoMachine (XD.t (by decide +kernel))
theorem xt_NoTask {K : PySem.W.Frag} {mg : Str → Option Value} (T : Tx K mg) (XD : ExD K) : ExT K mg "NoTask" := exTB_ok T.g_NoTask (XD.t (by decide +kernel))
theorem xt_BadScore {K : PySem.W.Frag} {mg : Str → Option Value} (T : Tx K mg) (XD : ExD K) : ExT K mg "BadScore" := exTB_ok T.g_BadScore (XD.t (by decide +kernel))
theorem xt_NoRun {K : PySem.W.Frag} {mg : Str → Option Value} (T : Tx K mg) (XD : ExD K) : ExT K mg "NoRun" := exTB_ok T.g_NoRun (XD.t (by decide +kernel))
theorem xt_NotRanked {K : PySem.W.Frag} {mg : Str → Option Value} (T : Tx K mg) (XD : ExD K) : ExT K mg "NotRanked" := exTB_ok T.g_NotRanked (XD.t (by decide +kernel))
theorem xt_BadShare {K : PySem.W.Frag} {mg : Str → Option Value} (T : Tx K mg) (XD : ExD K) : ExT K mg "BadShare" := exTB_ok T.g_BadShare (XD.t (by decide +kernel))
theorem xt_NotAhead {K : PySem.W.Frag} {mg : Str → Option Value} (T : Tx K mg) (XD : ExD K) : ExT K mg "NotAhead" := exTB_ok T.g_NotAhead (XD.t (by decide +kernel))
theorem xt_NoPage {K : PySem.W.Frag} {mg : Str → Option Value} (T : Tx K mg) (XD : ExD K) : ExT K mg "NoPage" := exTB_ok T.g_NoPage (XD.t (by decide +kernel))
theorem xn_BadMachine {K : PySem.W.Frag} {mg : Str → Option Value} (T : Tx K mg) (XD : ExD K) : ExN K mg "BadMachine" "row" := exNB_ok T.g_BadMachine (XD.n (z := ("BadMachine", "row")) (by decide +kernel))
theorem xn_BadText {K : PySem.W.Frag} {mg : Str → Option Value} (T : Tx K mg) (XD : ExD K) : ExN K mg "BadText" "row" := exNB_ok T.g_BadText (XD.n (z := ("BadText", "row")) (by decide +kernel))
theorem xn_BadTask {K : PySem.W.Frag} {mg : Str → Option Value} (T : Tx K mg) (XD : ExD K) : ExN K mg "BadTask" "number" := exNB_ok T.g_BadTask (XD.n (z := ("BadTask", "number")) (by decide +kernel))
theorem xn_BadDeed {K : PySem.W.Frag} {mg : Str → Option Value} (T : Tx K mg) (XD : ExD K) : ExN K mg "BadDeed" "number" := exNB_ok T.g_BadDeed (XD.n (z := ("BadDeed", "number")) (by decide +kernel))
/-! ### tables of code objects -/
def tdL : List (PySem.Str × Option PySem.Str) := [("law", none)]
def tdT (K : PySem.W.Frag) : List (Addr × PySem.Str) := [((He.cT K ("law", none)).2, ("law" : PySem.Str) ++ ".<locals>." ++ "<lambda>")]
theorem tdT_nil {K : PySem.W.Frag} {H : Hp} (h : ∀ p ∈ tdL, H (He.cT K p).2 = some (.tbl #[])) : LamX.Tabs (tdT K) H := by
  intro p hp
  simp only [tdT, List.mem_cons, List.mem_nil_iff, or_false] at hp
  subst hp
  exact LamX.TabS.nil (h ("law", none) (by decide))
structure TabL (K : PySem.W.Frag) (mg : Str → Option Value) (base : Heap) : Prop where
  tb : ∀ p ∈ tdL, LamX.TabB base mg (He.cT K p).1 (He.cT K p).2
  nd : (tdL.map fun p => (He.cT K p).2).Nodup
end Mh
/-! MhRun -/
namespace Mh
open PySem PySem.Spec PyProof.Rows L2
abbrev R : PySem.W.OpenRow := PySem.W.OpenLaw.row PySem.Challenge.rw_measurehall_k05_texts_refused
def lvD (g : Addr → Option Obj) : Nat → List Addr → List Addr
  | 0, as => as
  | n + 1, as => as ++ lvD g n (as.flatMap fun a => match g a with
    | some o => (He.refsD o).filter fun b => !(b == a)
    | none => [])
structure SX (w : World) (h : Heap) (K : PySem.W.Frag) : Prop where
  c : He.obsD fa fn K = He.valD fn
  t : tabsW.map (fun t => He.dicW K (He.ga K t.1)) = tabsW.map (fun t => some (He.keysIn w.params t.2))
  q : tabQ.all (tabOk K) = true
  x : exAll K = true
  nd : (tdL.map fun p => (He.cT K p).2).Nodup
  hd : ∀ p ∈ tdL, PySem.W.codeHdIn K (He.cT K p).1 (He.cT K p).2 = true
  out : ∀ p ∈ tdL, K.lookup (He.cT K p).2 = none
  em : ∀ p ∈ tdL, h.get? (He.cT K p).2 = some { cls := .none, data := .fields #[] }
def obB (g : Addr → Option Obj) (K : PySem.W.Frag) : Bool := tabQ.all (tabOk K) && (exAll K && (decide ((tdL.map fun p => (He.cT K p).2).Nodup) && He.tabsB g tdL K))
def obX (g : Addr → Option Obj) (K : PySem.W.Frag) := (He.obsD fa fn K, tabsW.map (fun t => He.dicW K (He.ga K t.1)), obB g K)
theorem sx_of {w : World} {h : Heap} {as : List Addr} (e : obX h.get? (He.frT h.get? as) = (He.valD fn, tabsW.map (fun t => some (He.keysIn w.params t.2)), true)) : SX w h (He.frT h.get? as) := by
  have e1 : He.obsD fa fn (He.frT h.get? as) = He.valD fn := congrArg Prod.fst e
  have e2 : tabsW.map (fun t => He.dicW (He.frT h.get? as) (He.ga (He.frT h.get? as) t.1)) = tabsW.map (fun t => some (He.keysIn w.params t.2)) := congrArg (fun z => z.2.1) e
  have e3 : obB h.get? (He.frT h.get? as) = true := congrArg (fun z => z.2.2) e
  obtain ⟨b1, e3⟩ := Bool.and_eq_true_iff.mp e3
  obtain ⟨b2, e3⟩ := Bool.and_eq_true_iff.mp e3
  obtain ⟨b3, b4⟩ := Bool.and_eq_true_iff.mp e3
  have key : ∀ p ∈ tdL, PySem.W.codeHdIn (He.frT h.get? as) (He.cT (He.frT h.get? as) p).1 (He.cT (He.frT h.get? as) p).2 = true ∧ ∃ o, h.get? (He.cT (He.frT h.get? as) p).2 = some o ∧ He.emptyTab o = true := fun p hp => by
    obtain ⟨h3, h4⟩ := Bool.and_eq_true_iff.mp (List.all_eq_true.mp b4 p hp)
    refine ⟨h3, ?_⟩
    cases z : h.get? (He.cT (He.frT h.get? as) p).2 with
    | none => rw [z] at h4; cases h4
    | some o => rw [z] at h4; exact ⟨o, rfl, h4⟩
  exact ⟨e1, e2, b1, b2, of_decide_eq_true b3, fun p hp => (key p hp).1, fun p hp => let ⟨_, o, a, b⟩ := key p hp; He.frT_none a b, fun p hp => let ⟨_, o, a, b⟩ := key p hp; by rw [a, He.emptyTab_eq b]⟩
def asX (g : Addr → Option Obj) : List Addr := PySem.cStatics :: lvD g 5 [mainGlobals]
def hkN : PySem.W.Hook where
  α := He.AlD × List (Option (List (Option (PySem.Str × Int)))) × Bool
  obs := fun s => obX s.heap.get? (He.frT s.heap.get? (asX s.heap.get?))
  val := fun w => (He.valD fn, tabsW.map (fun t => some (He.keysIn w.params t.2)), true)
  says := fun w h => ∃ K : PySem.W.Frag, K.In h ∧ SX w h K
  of := fun _ _ e => ⟨_, He.frT_in, sx_of e⟩
  keeps := fun _ _ _ ⟨K, hK, c⟩ k => ⟨K, PySem.W.Frag.In.keeps hK k, ⟨c.c, c.t, c.q, c.x, c.nd, c.hd, c.out, fun p hp => k _ _ (c.em p hp)⟩⟩
abbrev hk : PySem.W.Hook := hkN
def ob (s : PySem.W.SharedT) : hk.α := obX (HandSHeadRun.getT s) (He.frT (HandSHeadRun.getT s) (asX (HandSHeadRun.getT s)))
theorem ob_eq (s : PySem.W.SharedT) : ob s = hk.obs s.abs := by
  have e : HandSHeadRun.getT s = s.abs.heap.get? := funext (HandSHeadRun.getT_eq s)
  unfold ob
  rw [e]
  rfl
theorem map3 {α β γ δ : Type} {x : Option α} {f : α → β} {g : α → γ} {k : α → δ} {a : β} {b : γ} {c : δ} (h1 : x.map f = some a) (h2 : x.map g = some b) (h3 : x.map k = some c) : x.map (fun s => (f s, g s, k s)) = some (a, b, c) := by
  cases x with
  | none => cases h1
  | some v => exact congrArg some (Prod.ext (Option.some.inj h1) (Prod.ext (Option.some.inj h2) (Option.some.inj h3)))
def looseN : List PySem.Str := (["MOST_ROWS", "MOST_KNOWN", "MOST_BY", "GREAT", "FIGURES", "MOST_FIGURES", "TESTS", "ANSWERS", "HallError", "BadQuestion", "BadSeed", "BadName", "TooMany", "Taken", "NoMachine", "NoTask", "BadScore", "NoRun", "NotRanked", "BadShare", "NotAhead", "NoPage", "BadMachine", "BadText", "BadTask", "BadDeed", "is_number", "is_tagged", "is_rest", "are_known"] : List PySem.Str) ++ (["is_test", "is_answer", "need_machine", "part_words", "written", "number_of", "thing_of", "part_of", "row_of", "read", "_law_dice", "_law_off", "_law_alike", "_law_word_of", "_law_test", "_law_answer", "_law_machine", "_law_changed", "_law_number", "_law_row"] : List PySem.Str)
noncomputable abbrev EndR (r : PySem.W.OpenRow) (M : Nat) (w : World) (os : OsState) : Option PySem.W.SharedT := HandSHeadRun.endF (HandSHeadRun.stepQ (HandSHeadRun.denQ HandSHeadRun.tabQ) r.prog w) M r.prog w os
def P1 (r : PySem.W.OpenRow) (M : Nat) (w : World) : Prop := ∀ os, (EndR r M w os).map (fun s => HandSHeadRun.looksF r.prog (PySem.W.boot_heap w.params) s.abs) = some true
def P2 (r : PySem.W.OpenRow) (q : Program) (M : Nat) (loose : List PySem.Str) (w : World) : Prop := ∀ os, (EndR r M w os).map (fun s => HandSHeadRun.seenQ q loose (PySem.importedModules r.prog.main.body) (fun s => PySem.W.xlAt q [] s && PySem.W.recOk r.toRowW.records s) s.abs) = some (PySem.W.openGood q loose)
def P3 (r : PySem.W.OpenRow) (H : PySem.W.Hook) (ob : PySem.W.SharedT → H.α) (M : Nat) (w : World) : Prop := ∀ os, (EndR r M w os).map (fun s => ob s) = some (H.val w)
theorem runEq3 {r : PySem.W.OpenRow} {q : Program} {H : PySem.W.Hook} {ob : PySem.W.SharedT → H.α} {M : Nat} {loose : List PySem.Str} {w : World} (h1 : P1 r M w) (h2 : P2 r q M loose w) (h3 : P3 r H ob M w) : HandSHeadRun.RunEq r q H ob M loose w := fun os => map3 (h1 os) (h2 os) (h3 os)
def ftB (b : Bool) (f : String → Bool) : String → Bool := fun s => match decide (s = "special-get-raises") with
  | true => b
  | false => f s
def wB (b : Bool) (w : World) : World := { w with params := { w.params with followText := ftB b w.params.followText } }
theorem ftB_eq {b : Bool} {f : String → Bool} (h : f "special-get-raises" = b) : ftB b f = f := by
  funext s
  unfold ftB
  by_cases e : s = "special-get-raises"
  · rw [decide_eq_true e, e, h]
  · rw [decide_eq_false e]
theorem wB_eq {b : Bool} {w : World} (h : w.params.followText "special-get-raises" = b) : wB b w = w := by
  unfold wB
  rw [ftB_eq h]
theorem run1t (w : World) : P1 R 9000 (wB true w) := by
  intro os
  kernel_rfl
theorem run1f (w : World) : P1 R 9000 (wB false w) := by
  intro os
  kernel_rfl
theorem run1 (w : World) : P1 R 9000 w := by
  cases h : w.params.followText "special-get-raises" with
  | true =>
    have e := run1t w
    rw [wB_eq h] at e
    exact e
  | false =>
    have e := run1f w
    rw [wB_eq h] at e
    exact e
theorem run2t (w : World) : P2 R (PySem.W.view R.prog [54]) 9000 looseN (wB true w) := by
  intro os
  kernel_rfl
theorem run2f (w : World) : P2 R (PySem.W.view R.prog [54]) 9000 looseN (wB false w) := by
  intro os
  kernel_rfl
theorem run2 (w : World) : P2 R (PySem.W.view R.prog [54]) 9000 looseN w := by
  cases h : w.params.followText "special-get-raises" with
  | true =>
    have e := run2t w
    rw [wB_eq h] at e
    exact e
  | false =>
    have e := run2f w
    rw [wB_eq h] at e
    exact e
theorem run3t (w : World) : P3 R hk ob 9000 (wB true w) := by
  intro os
  kernel_rfl
theorem run3f (w : World) : P3 R hk ob 9000 (wB false w) := by
  intro os
  kernel_rfl
theorem run3 (w : World) : P3 R hk ob 9000 w := by
  cases h : w.params.followText "special-get-raises" with
  | true =>
    have e := run3t w
    rw [wB_eq h] at e
    exact e
  | false =>
    have e := run3f w
    rw [wB_eq h] at e
    exact e
theorem run (w : World) : HandSHeadRun.RunEq R (PySem.W.view R.prog [54]) hk ob 9000 looseN w := runEq3 (run1 w) (run2 w) (run3 w)
end Mh
/-! MhMach -/
namespace Mh
open PySem PySem.Spec PyProof.Rows L2

/-! ### what the small looks of machines.py say of data -/
def isNum (d : PyData) (lo hi : Int) : Bool := match d with
  | .int i => decide (lo ≤ i) && decide (i ≤ hi)
  | _ => false
def isTag (n : Nat) : PyData → Bool
  | .tuple (.str _ :: xs) => xs.length + 1 == n
  | _ => false
theorem rd_isD {K : PySem.W.Frag} {σ : L2.St} {H : Hp} {Q : VK} {i : Nat} {v : V} {n : String} {d : PyData} (hv : σ[i]? = some (some v)) (hn : n ∈ sixTy) (hd : Dp K H v d) (q : Q (.bl (isTy n d)) H) :
    tCB (rIsD K) (tCons (tVar i) (tCons (tC (.ty n)) tNil)) σ H Q := ⟨v, hv, v, n, d, rfl, hn, hd, q⟩
theorem sc_is_number : FnScope ["thing", "low", "high"] ["thing", "low", "high"] (defScope s_is_number) := ⟨rfl, rfl, rfl, by decide +kernel, rfl, by decide +kernel, by decide +kernel⟩
def spIsNumber (K : PySem.W.Frag) : Sp := fun vs H Q _ => ∃ v d lo hi, vs = [v, .int lo, .int hi] ∧ Dp K H v d ∧ Q (.bl (isNum d lo hi)) H
theorem ok_is_number {P : Program} {w : World} {K : PySem.W.Frag} {mg : Str → Option Value} {base : Heap} (T : Tx K mg) : Def P w K mg base CX0 1 "is_number" ["thing", "low", "high"] (spIsNumber K) := by
  obtain ⟨fd, F⟩ := T.d_is_number
  refine ⟨_, fd, F.ok sc_is_number (fun vs H Q E h => ?_) (fun cdv A outer s H vs Q E hr h => ?_), F.bindsN fun _ _ _ _ _ _ us hl => match us, hl with | [_, _, _], _ => rfl, T.g_is_number, F.kp⟩
  · obtain ⟨v, d, lo, hi, rfl, _⟩ := h
    rfl
  · obtain ⟨v, d, lo, hi, rfl, hd, q⟩ := h
    refine ⟨_, PSs.nox (pss_one (ps_ret (pe_and (pe_callB call_isiD (by rfl) T.f_isinstance (by decide +kernel) (pa_cons (pv 0) (pa_cons (gT (n := "int") T.f_int) pa_nil))) (pe_and (pe_not (pe_callB call_isiD (by rfl) T.f_isinstance (by decide +kernel) (pa_cons (pv 0) (pa_cons (gT (n := "bool") T.f_bool) pa_nil)))) (pe_one (pe_chain op_le op_le (pv 1) (pv 0) (pv 2))))))), ?_⟩
    refine rd_isD rfl (by decide) hd ⟨_, rfl, ?_⟩
    cases hd with
    | int i =>
      refine ifT rfl (rd_isD rfl (by decide) (.int i) ⟨_, rfl, _, rfl, ifT rfl ?_⟩)
      refine ⟨_, rfl, _, rfl, _, _, rfl, rfl, _, rfl, ?_⟩
      have q2 : Q (.bl (decide (lo ≤ i) && decide (i ≤ hi))) H := q
      refine ifB (fun c => ?_) (fun c => ?_)
      · rw [c] at q2
        exact ⟨_, rfl, _, _, rfl, rfl, q2⟩
      · rw [c] at q2
        exact q2
    | bl b => exact ifT rfl (rd_isD rfl (by decide) (.bl b) ⟨_, rfl, _, rfl, ifF rfl q⟩)
    | _ => exact ifF rfl q

/-- an item of a tuple at a written place -/
theorem rd_ixT {K : PySem.W.Frag} {σ : L2.St} {H : Hp} {Q : VK} {i j : Nat} {a : Addr} {xs : List V} {v : V} (hv : σ[i]? = some (some (.ref a))) (hs : SqT K H a xs) (hj : xs[j]? = some v) (q : Q v H) : tOp (rIxT K) (tVar i) (tC (.int (j : Int))) σ H Q :=
  ⟨_, hv, a, xs, (j : Int), v, rfl, rfl, hs, atI_nat hj, q⟩
theorem isTag_inv {n : Nat} {d : PyData} (h : isTag n d = true) : ∃ z xs, d = .tuple (.str z :: xs) ∧ xs.length + 1 = n := by
  unfold isTag at h
  split at h
  · exact ⟨_, _, rfl, by simpa using h⟩
  · cases h
theorem sc_is_tagged : FnScope ["thing", "many"] ["thing", "many"] (defScope s_is_tagged) := ⟨rfl, rfl, rfl, by decide +kernel, rfl, by decide +kernel, by decide +kernel⟩
def spIsTagged (K : PySem.W.Frag) : Sp := fun vs H Q _ => ∃ v d n, vs = [v, .int ((n + 1 : Nat) : Int)] ∧ Dp K H v d ∧ Q (.bl (isTag (n + 1) d)) H
theorem ok_is_tagged {P : Program} {w : World} {K : PySem.W.Frag} {mg : Str → Option Value} {base : Heap} (T : Tx K mg) : Def P w K mg base CX0 1 "is_tagged" ["thing", "many"] (spIsTagged K) := by
  obtain ⟨fd, F⟩ := T.d_is_tagged
  refine ⟨_, fd, F.ok sc_is_tagged (fun vs H Q E h => ?_) (fun cdv A outer s H vs Q E hr h => ?_), F.bindsN fun _ _ _ _ _ _ us hl => match us, hl with | [_, _], _ => rfl, T.g_is_tagged, F.kp⟩
  · obtain ⟨v, d, n, rfl, _⟩ := h
    rfl
  · obtain ⟨v, d, n, rfl, hd, q⟩ := h
    refine ⟨_, PSs.nox (pss_one (ps_ret (pe_and (pe_callB call_isiD (by rfl) T.f_isinstance (by decide +kernel) (pa_cons (pv 0) (pa_cons (gT (n := "tuple") T.f_tuple) pa_nil))) (pe_and (pe_cmpR op_eq (pe_callB call_len_seq (by rfl) T.f_len (by decide +kernel) (pa_cons (pv 0) pa_nil)) (pv 1) (nomark _)) (pe_one (pe_callB call_isiD (by rfl) T.f_isinstance (by decide +kernel) (pa_cons (pe_ix ix_tup (pv 0) pe_int (fun _ _ => rfl)) (pa_cons (gT (n := "str") T.f_str) pa_nil)))))))), ?_⟩
    refine rd_isD rfl (by decide) hd ⟨_, rfl, ?_⟩
    cases hd with
    | @tup a xs ds hs ha =>
      refine ifT rfl ⟨_, rfl, a, xs, rfl, .inr hs, _, rfl, rfl, _, rfl, ifB (fun c => ?_) (fun c => ?_)⟩
      · have e : ((xs.length : Nat) : Int) = ((n + 1 : Nat) : Int) := V.int.inj (of_decide_eq_true c)
        cases ha with
        | nil => exact absurd e (by simp; omega)
        | @cons x0 xs d0 ds h0 ht =>
          refine rd_ixT (j := 0) rfl hs rfl ⟨x0, "str", d0, rfl, by decide, h0, ?_⟩
          have e2 : ds.length + 1 = n + 1 := by
            rw [← ht.len]
            exact Int.ofNat.inj e
          cases h0 with
          | str z =>
            have e3 : isTag (n + 1) (.tuple (.str z :: ds)) = true := by
              show (ds.length + 1 == n + 1) = true
              rw [e2]
              exact beq_self_eq_true _
            rw [e3] at q
            exact q
          | _ => exact q
      · have c2 := of_decide_eq_false c
        have e3 : isTag (n + 1) (.tuple ds) = false := by
          cases e : isTag (n + 1) (.tuple ds) with
          | false => rfl
          | true =>
            obtain ⟨z, ys, e4, e5⟩ := isTag_inv e
            refine absurd ?_ c2
            have e6 : ds = .str z :: ys := PyData.tuple.inj e4
            rw [ha.len, e6, List.length_cons, e5]
        rw [e3] at q
        exact q
    | _ => exact ifF rfl q

def intOf : PyData → Int
  | .int i => i
  | _ => 0
theorem isNum_inv {d : PyData} {lo hi : Int} (h : isNum d lo hi = true) : ∃ i, d = .int i ∧ lo ≤ i ∧ i ≤ hi := by
  unfold isNum at h
  split at h
  · obtain ⟨h1, h2⟩ := Bool.and_eq_true_iff.mp h
    exact ⟨_, rfl, of_decide_eq_true h1, of_decide_eq_true h2⟩
  · cases h
def isRest : PyData → Bool
  | .tuple [.str _, x, y] => isNum x 2 99 && isNum y 0 (intOf x - 1)
  | _ => false
theorem sc_is_rest : FnScope ["thing"] ["thing"] (defScope s_is_rest) := ⟨rfl, rfl, rfl, by decide +kernel, rfl, by decide +kernel, by decide +kernel⟩
def spIsRest (K : PySem.W.Frag) : Sp := fun vs H Q _ => ∃ v d, vs = [v] ∧ Dp K H v d ∧ Q (.bl (isRest d)) H
theorem ok_is_rest {P : Program} {w : World} {K : PySem.W.Frag} {mg : Str → Option Value} {base : Heap} (T : Tx K mg) : Def P w K mg base CX0 2 "is_rest" ["thing"] (spIsRest K) := by
  obtain ⟨fd, F⟩ := T.d_is_rest
  have G_is_tagged := ok_is_tagged (P := P) (w := w) (base := base) T
  have G_is_number := ok_is_number (P := P) (w := w) (base := base) T
  refine ⟨_, fd, F.ok sc_is_rest (fun vs H Q E h => ?_) (fun cdv A outer s H vs Q E hr h => ?_), F.bindsN fun _ _ _ _ _ _ us hl => match us, hl with | [_], _ => rfl, T.g_is_rest, F.kp⟩
  · obtain ⟨v, d, rfl, _⟩ := h
    rfl
  · obtain ⟨v, d, rfl, hd, q⟩ := h
    refine ⟨_, PSs.nox (pss_one (ps_ret (pe_and (pe_def G_is_tagged (hr.mono (by omega)) pass0 (pa_cons (pv 0) (pa_cons pe_int pa_nil))) (pe_and (pe_def G_is_number (hr.mono (by omega)) pass0 (pa_cons (pe_ix ix_tup (pv 0) pe_int (fun _ _ => rfl)) (pa_cons pe_int (pa_cons (gC T.c_MOST_BY) pa_nil)))) (pe_one (pe_def G_is_number (hr.mono (by omega)) pass0 (pa_cons (pe_ix ix_tup (pv 0) pe_int (fun _ _ => rfl)) (pa_cons pe_int (pa_cons (pe_op op_sub (pe_ix ix_tup (pv 0) pe_int (fun _ _ => rfl)) pe_int) pa_nil))))))))), ?_⟩
    refine ⟨v, rfl, v, d, 2, rfl, hd, _, rfl, ifB (fun c => ?_) (fun c => ?_)⟩
    · obtain ⟨z, xs, rfl, e⟩ := isTag_inv c
      obtain ⟨x, y, rfl⟩ : ∃ x y, xs = [x, y] := by
        match xs, e with
        | [x, y], _ => exact ⟨x, y, rfl⟩
      obtain ⟨a, v0, v1, v2, rfl, hs, h0, h1, h2⟩ := hd.tup3
      have q2 : Q (.bl (isNum x 2 99 && isNum y 0 (intOf x - 1))) H := q
      refine rd_ixT (j := 1) rfl hs rfl ⟨v1, x, 2, 99, rfl, h1, _, rfl, ifB (fun c1 => ?_) (fun c1 => ?_)⟩
      · obtain ⟨m, rfl, _⟩ := isNum_inv c1
        rw [c1, Bool.true_and] at q2
        cases h1
        refine rd_ixT (j := 2) rfl hs rfl ⟨_, rfl, ?_⟩
        exact ⟨a, _, 1, _, rfl, rfl, hs, atI_nat (j := 1) rfl, m, 1, rfl, rfl, v2, y, 0, m - 1, rfl, h2, q2⟩
      · rw [c1, Bool.false_and] at q2
        exact q2
    · have e : isRest d = false := by
        unfold isRest
        split
        · cases c
        · rfl
      rw [e] at q
      exact q
end Mh
/-! MhMach2 -/
namespace Mh
open PySem PySem.Spec PyProof.Rows L2
def rising : List Int → Bool
  | x :: y :: r => decide (x < y) && rising (y :: r)
  | _ => true
def areKnown : PyData → Bool
  | .tuple xs => (decide (1 ≤ xs.length) && decide (xs.length ≤ 8)) && ((xs.all fun x => isNum x 0 9999) && rising (xs.map intOf))
  | _ => false
theorem areKnown_tup (xs : List PyData) : areKnown (.tuple xs) = ((decide (1 ≤ xs.length) && decide (xs.length ≤ 8)) && ((xs.all fun x => isNum x 0 9999) && rising (xs.map intOf))) := rfl
theorem range_all {n : Nat} {p : Nat → Bool} {q : Bool} (h : ((List.range n).all p) = q) : (((List.range n).map fun i => p i).all id) = q := by
  rw [List.all_map]
  exact h
theorem all_range_get {α : Type} (p : α → Bool) (d : α) (xs : List α) : (List.range xs.length).all (fun i => p (xs.getD i d)) = xs.all p := by
  apply Bool.eq_iff_iff.mpr
  rw [List.all_eq_true, List.all_eq_true]
  constructor
  · intro h x hx
    obtain ⟨i, hi, e⟩ := List.getElem_of_mem hx
    have := h i (List.mem_range.mpr hi)
    rw [List.getD_eq_getElem?_getD, List.getElem?_eq_getElem hi] at this
    rw [← e]
    exact this
  · intro h i hi
    have hi := List.mem_range.mp hi
    show p (xs.getD i d) = true
    rw [List.getD_eq_getElem?_getD, List.getElem?_eq_getElem hi]
    exact h _ (List.getElem_mem hi)
theorem rising_range : ∀ xs : List Int, (List.range (xs.length - 1)).all (fun i => decide (xs.getD i 0 < xs.getD (i + 1) 0)) = rising xs
  | [] => rfl
  | [_] => rfl
  | x :: y :: r => by
    have ih := rising_range (y :: r)
    have e : (x :: y :: r).length - 1 = (r.length) + 1 := by simp
    rw [e, List.range_succ_eq_map, List.all_cons, List.all_map]
    show (decide (x < y) && ((List.range r.length).all fun i => decide ((y :: r).getD i 0 < (y :: r).getD (i + 1) 0))) = _
    have e2 : (y :: r).length - 1 = r.length := by simp
    rw [e2] at ih
    rw [ih]
    rfl
theorem getD_of {α : Type} {xs : List α} {i : Nat} {d x : α} (h : xs[i]? = some x) : xs.getD i d = x := by
  rw [List.getD_eq_getElem?_getD, h]
  rfl
theorem sc_are_known : FnScope ["thing", "one", "other"] ["thing"] (defScope s_are_known) := ⟨rfl, rfl, rfl, by decide +kernel, rfl, by decide +kernel, by decide +kernel⟩
def spAreKnown (K : PySem.W.Frag) : Sp := fun vs H Q _ => ∃ v d, vs = [v] ∧ Dp K H v d ∧ ∀ H', Fx [] H H' → Q (.bl (areKnown d)) H'
theorem ok_are_known {P : Program} {w : World} {K : PySem.W.Frag} {mg : Str → Option Value} {base : Heap} (T : Tx K mg) : Def P w K mg base CX0 2 "are_known" ["thing"] (spAreKnown K) := by
  obtain ⟨fd, F⟩ := T.d_are_known
  have G_is_number := ok_is_number (P := P) (w := w) (base := base) T
  refine ⟨_, fd, F.ok sc_are_known (fun vs H Q E h => ?_) (fun cdv A outer s H vs Q E hr h => ?_), F.bindsN fun _ _ _ _ _ _ us hl => match us, hl with | [_], _ => rfl, T.g_are_known, F.kp⟩
  · obtain ⟨v, d, rfl, _⟩ := h
    rfl
  · obtain ⟨v, d, rfl, hd, q⟩ := h
    refine ⟨_, PSs.nox (pss_cons (ps_if (PW.pt (pw_or (pt_not (pt_val (pe_callB call_isiD (by rfl) T.f_isinstance (by decide +kernel) (pa_cons (pv 0) (pa_cons (gT (n := "tuple") T.f_tuple) pa_nil))))) (pw_or1 (pt_not (pt_chain op_le op_le pe_int (pe_callB call_len_seq (by rfl) T.f_len (by decide +kernel) (pa_cons (pv 0) pa_nil)) (gC T.c_MOST_KNOWN))))))
        (pss_one (ps_ret pe_bl))
        pss_nil)
        (pss_cons (ps_if (pt_not (pt_val (pe_callB (cr_all rfl) (by rfl) T.f_all (by decide +kernel) (pa_cons (pe_lc (own := [("one", 1)]) (g := (gName 1)) (tt := tYes) rfl sc_are_known.nd (pi_tup (pv 0)) (blkOk_by (own := [("one", 1)]) (N := ["thing", "one", "other"]) (sc := defScope s_are_known) (by decide +kernel)) (fun _ _ _ _ _ => pg_name (i := 1) sc_are_known.nd rfl (by first | exact Or.inl rfl | exact Or.inr rfl)) (fun _ _ _ _ _ => pts_nil) (fun _ _ _ _ _ => (pe_def G_is_number (hr.mono (by omega)) pass0 (pa_cons (pv 1) (pa_cons pe_int (pa_cons (gC T.c_GREAT) pa_nil)))))) pa_nil))))
        (pss_one (ps_ret pe_bl))
        pss_nil)
        (pss_one (ps_ret (pe_callB (cr_all rfl) (by rfl) T.f_all (by decide +kernel) (pa_cons (pe_lc (own := [("one", 1), ("other", 2)]) (g := (gTup _ 2 (gCons (gName 1) (gCons (gName 2) gNil)))) (tt := tYes) rfl sc_are_known.nd (RZ.pi_zipA (by rfl) T.f_zip (pa_cons (pv 0) (pa_cons (pe_slice sl_tup (pv 0) (po_some pe_int) po_none) pa_nil))) (blkOk_by (own := [("one", 1), ("other", 2)]) (N := ["thing", "one", "other"]) (sc := defScope s_are_known) (by decide +kernel)) (fun _ _ _ _ _ => pg_tup rfl (pgs_cons (pg_name (i := 1) sc_are_known.nd rfl (by first | exact Or.inl rfl | exact Or.inr rfl)) (pgs_cons (pg_name (i := 2) sc_are_known.nd rfl (by first | exact Or.inl rfl | exact Or.inr rfl)) pgs_nil))) (fun _ _ _ _ _ => pts_nil) (fun _ _ _ _ _ => (pe_cmpR op_lt (pv 1) (pv 2) (nomark _)))) pa_nil)))))), ?_⟩
    refine rd_isD rfl (by decide) hd ⟨_, rfl, ?_⟩
    cases hd with
    | @tup a xs ds hs ha =>
      have hl := ha.len
      have qf : areKnown (.tuple ds) = false → Q (.bl false) H := fun e => by
        have := q H Fx.refl
        rw [e] at this
        exact this
      refine ifF rfl ⟨_, rfl, a, xs, rfl, .inr hs, _, _, rfl, rfl, _, rfl, ?_⟩
      refine ifB (fun c1 => ⟨_, _, rfl, rfl, _, rfl, ?_⟩) (fun c1 => ⟨_, rfl, ifT rfl ?_⟩)
      · have c1' : (1 : Int) ≤ (xs.length : Int) := of_decide_eq_true c1
        refine ifB (fun c2 => ?_) (fun c2 => ?_)
        · exact qf (by
            have c2' : decide ((xs.length : Int) ≤ 8) = false := by simpa using c2
            have : ¬ ds.length ≤ 8 := fun z => absurd c2' (by rw [decide_eq_true (by omega)]; decide)
            simp [areKnown_tup, this])
        · have c2' : (xs.length : Int) ≤ 8 := by simpa using c2
          -- all([is_number(one, 0, GREAT) for one in thing])
          refine ⟨_, rfl, a, rfl, ⟨xs, hs⟩, fun D hD => lc_map (walk_tup (xs := xs)) (fun i => .bl (isNum (ds.getD i .none) 0 9999)) (by omega) hD (fun H2 f => f.sqT hs) (fun _ _ _ _ y => YAt.fx y) (fun i x H2 H3 Qe Z hi f y k => ?_) (fun H2 f hL => ?_)⟩
          · refine ⟨rfl, ifT rfl ?_⟩
            obtain ⟨d, h1, h2⟩ := ha.get y.2
            refine ⟨x, rfl, x, d, 0, 9999, rfl, (h2.ext f).ext (YAt.fx y), ?_⟩
            rw [getD_of (d := .none) h1] at k
            exact k _ .refl
          · refine ⟨D, (List.range xs.length).map fun i => isNum (ds.getD i .none) 0 9999, rfl, SqL.of (by rw [hL, List.map_map]; rfl), _, rfl, ?_⟩
            have eA : (((List.range xs.length).map fun i => isNum (ds.getD i .none) 0 9999).all id) = ds.all fun x => isNum x 0 9999 := range_all (by rw [hl]; exact all_range_get (fun x => isNum x 0 9999) .none ds)
            rw [eA]
            refine ifB (fun c3 => ?_) (fun c3 => ?_)
            · have := q H2 f
              have e3 : (ds.all fun x => isNum x 0 9999) = false := by simpa using c3
              have e4 : areKnown (.tuple ds) = false := by
                rw [areKnown_tup]
                rw [e3, Bool.false_and, Bool.and_false]
              rw [e4] at this
              exact this
            · have e3 : (ds.all fun x => isNum x 0 9999) = true := by simpa using c3
              have hs2 := f.sqT hs
              -- all([one < other for one, other in zip(thing, thing[1:])])
              refine ⟨_, rfl, _, rfl, 1, rfl, a, xs, rfl, hs2, ?_, fun p hp => ?_⟩
              · rw [HT.sIx_none, show HT.sIx xs.length 0 (some 1) = min 1 xs.length from HT.sIx_nat xs.length 0 1]
                intro z
                omega
              have f2 : Fx [] H2 (upd H2 p (.tup (cutV xs (some 1) none))) := Fx.new hp
              have ecut : cutV xs (some 1) none = xs.drop 1 := by
                unfold cutV
                rw [HT.sIx_none, show HT.sIx xs.length 0 (some 1) = min 1 xs.length from HT.sIx_nat xs.length 0 1, show min 1 xs.length = 1 by omega]
                exact List.take_of_length_le (by rw [List.length_drop]; exact Nat.le_refl _)
              rw [ecut] at f2 ⊢
              have hs3 := f2.sqT hs2
              have hp3 : SqT K (upd H2 p (.tup (xs.drop 1))) p (xs.drop 1) := SqT.of upd_same
              refine ⟨a, p, xs, xs.drop 1, rfl, .inr ⟨hs3, hp3, fun D2 hD2 => ?_⟩⟩
              have hm : xs.length - 1 = min xs.length (xs.drop 1).length := by rw [List.length_drop]; omega
              refine lc_map (walk_zipT hm) (fun i => .bl (decide ((ds.map intOf).getD i 0 < (ds.map intOf).getD (i + 1) 0))) (by omega) hD2 (fun H4 f4 => ⟨f4.sqT hs3, f4.sqT hp3⟩) (fun _ _ _ _ y => YPair.fx y) (fun i x H4 H5 Qe Z hi f4 y k => ?_) (fun H4 f4 hL4 => ?_)
              · obtain ⟨T, u, v, rfl, hT, hu, hv⟩ := YPair.tup y
                obtain ⟨d1, g1, g2⟩ := ha.get hu
                have hv' : xs[i + 1]? = some v := by
                  rw [List.getElem?_drop, Nat.add_comm] at hv
                  exact hv
                obtain ⟨d2, g3, g4⟩ := ha.get hv'
                have a1 := List.all_eq_true.mp e3 d1 (List.mem_of_getElem? g1)
                have a2 := List.all_eq_true.mp e3 d2 (List.mem_of_getElem? g3)
                obtain ⟨m1, rfl, _⟩ := isNum_inv a1
                obtain ⟨m2, rfl, _⟩ := isNum_inv a2
                cases g2
                cases g4
                refine ⟨T, _, rfl, SqT.of hT, rfl, _, _, rfl, _, _, rfl, rfl, rfl, ifT rfl ⟨_, rfl, _, rfl, m1, m2, rfl, rfl, ?_⟩⟩
                rw [show (ds.map intOf).getD i 0 = m1 from getD_of (by rw [List.getElem?_map, g1]; rfl), show (ds.map intOf).getD (i + 1) 0 = m2 from getD_of (by rw [List.getElem?_map, g3]; rfl)] at k
                exact k _ .refl
              · refine ⟨D2, (List.range (xs.length - 1)).map fun i => decide ((ds.map intOf).getD i 0 < (ds.map intOf).getD (i + 1) 0), rfl, SqL.of (by rw [hL4, List.map_map]; rfl), ?_⟩
                have eB : (((List.range (xs.length - 1)).map fun i => decide ((ds.map intOf).getD i 0 < (ds.map intOf).getD (i + 1) 0)).all id) = rising (ds.map intOf) := range_all (by rw [hl, ← List.length_map (f := intOf)]; exact rising_range _)
                rw [eB]
                have := q H4 ((f.trans f2).trans f4)
                have e4 : areKnown (.tuple ds) = rising (ds.map intOf) := by
                  rw [areKnown_tup]
                  rw [e3, Bool.true_and, decide_eq_true (show 1 ≤ ds.length by omega), decide_eq_true (show ds.length ≤ 8 by omega)]
                  rfl
                rw [e4] at this
                exact this
      · exact qf (by
          have c1' : ¬ (1 : Int) ≤ (xs.length : Int) := of_decide_eq_false c1
          have : ds.length = 0 := by omega
          simp [areKnown_tup, this])
    | _ => exact ifT rfl (q H .refl)
end Mh
/-! MhMach3 -/
namespace Mh
open PySem PySem.Spec PyProof.Rows L2
def isTest : PyData → Bool
  | .tuple [.str z] => z == ("any" : Str)
  | .tuple [.str z, x] => (z == ("below" : Str) && isNum x 0 9999) || (z == ("known" : Str) && areKnown x)
  | .tuple [.str z, x, y] => isRest (.tuple [.str z, x, y]) && inV (.str z) [.str "rest", .str "chance"]
  | _ => false
theorem isTag_no {n : Nat} {d : PyData} (h : isTag n d = false) {z : Str} {xs : List PyData} (e : xs.length + 1 = n) : d ≠ .tuple (.str z :: xs) := fun q => by
  subst q
  have : (xs.length + 1 == n) = false := h
  rw [e] at this
  simp at this
theorem isRest_inv {d : PyData} (h : isRest d = true) : ∃ z x y, d = .tuple [.str z, x, y] := by
  unfold isRest at h
  split at h
  · exact ⟨_, _, _, rfl⟩
  · cases h
/-- x == a written text -/
theorem rd_eqS {σ : L2.St} {H : Hp} {Q : VK} {x : Str} {z : Str} (q : Q (.bl (x == z)) H) : tC (.str z) σ H fun y H2 => rEq (.str x) y H2 Q := ⟨rfl, by rw [dec_str]; exact q⟩
theorem sc_is_test : FnScope ["thing"] ["thing"] (defScope s_is_test) := ⟨rfl, rfl, rfl, by decide +kernel, rfl, by decide +kernel, by decide +kernel⟩
def spIsTest (K : PySem.W.Frag) : Sp := fun vs H Q _ => ∃ v d, vs = [v] ∧ Dp K H v d ∧ ∀ H', Fx [] H H' → Q (.bl (isTest d)) H'
theorem ok_is_test {P : Program} {w : World} {K : PySem.W.Frag} {mg : Str → Option Value} {base : Heap} (T : Tx K mg) : Def P w K mg base CX0 3 "is_test" ["thing"] (spIsTest K) := by
  obtain ⟨fd, F⟩ := T.d_is_test
  have G_is_tagged := ok_is_tagged (P := P) (w := w) (base := base) T
  have G_is_rest := ok_is_rest (P := P) (w := w) (base := base) T
  have G_is_number := ok_is_number (P := P) (w := w) (base := base) T
  have G_are_known := ok_are_known (P := P) (w := w) (base := base) T
  refine ⟨_, fd, F.ok sc_is_test (fun vs H Q E h => ?_) (fun cdv A outer s H vs Q E hr h => ?_), F.bindsN fun _ _ _ _ _ _ us hl => match us, hl with | [_], _ => rfl, T.g_is_test, F.kp⟩
  · obtain ⟨v, d, rfl, _⟩ := h
    rfl
  · obtain ⟨v, d, rfl, hd, q⟩ := h
    refine ⟨_, PSs.nox (pss_cons (ps_if (pt_val (pe_def G_is_tagged (hr.mono (by omega)) pass0 (pa_cons (pv 0) (pa_cons pe_int pa_nil))))
        (pss_one (ps_ret (pe_cmpR op_eq (pe_ix ix_tup (pv 0) pe_int (fun _ _ => rfl)) pe_str (nomark _))))
        pss_nil)
        (pss_cons (ps_if (pt_val (pe_def G_is_tagged (hr.mono (by omega)) pass0 (pa_cons (pv 0) (pa_cons pe_int pa_nil))))
        (pss_one (ps_ret (pe_or (pe_and (pe_cmpR op_eq (pe_ix ix_tup (pv 0) pe_int (fun _ _ => rfl)) pe_str (nomark _)) (pe_one (pe_def G_is_number (hr.mono (by omega)) pass0 (pa_cons (pe_ix ix_tup (pv 0) pe_int (fun _ _ => rfl)) (pa_cons pe_int (pa_cons (gC T.c_GREAT) pa_nil)))))) (pe_one (pe_and (pe_cmpR op_eq (pe_ix ix_tup (pv 0) pe_int (fun _ _ => rfl)) pe_str (nomark _)) (pe_one (pe_def G_are_known (hr.mono (by omega)) pass0 (pa_cons (pe_ix ix_tup (pv 0) pe_int (fun _ _ => rfl)) pa_nil))))))))
        pss_nil)
        (pss_one (ps_ret (pe_and (pe_def G_is_rest (hr.mono (by omega)) pass0 (pa_cons (pv 0) pa_nil)) (pe_one (pe_cmpR op_in_seq (pe_ix ix_tup (pv 0) pe_int (fun _ _ => rfl)) (pe_tup (pa_cons pe_str (pa_cons pe_str pa_nil))) (by rfl)))))))), ?_⟩
    refine ⟨v, rfl, v, d, 0, rfl, hd, _, rfl, ifB (fun c => ?_) (fun c => ?_)⟩
    · obtain ⟨z, xs, rfl, e⟩ := isTag_inv c
      obtain rfl : xs = [] := List.length_eq_zero_iff.mp (by omega)
      obtain ⟨a, v0, rfl, hs, h0⟩ := hd.tup1
      cases h0
      exact rd_ixT (j := 0) rfl hs rfl (rd_eqS (q H .refl))
    refine ⟨v, rfl, v, d, 1, rfl, hd, _, rfl, ifB (fun c2 => ?_) (fun c2 => ?_)⟩
    · obtain ⟨z, xs, rfl, e⟩ := isTag_inv c2
      obtain ⟨x, rfl⟩ : ∃ x, xs = [x] := by
        match xs, e with
        | [x], _ => exact ⟨x, rfl⟩
      obtain ⟨a, v0, v1, rfl, hs, h0, h1⟩ := hd.tup2
      cases h0
      have q2 : ∀ H', Fx [] H H' → Q (.bl ((z == ("below" : Str) && isNum x 0 9999) || (z == ("known" : Str) && areKnown x))) H' := q
      have fin : (z == ("below" : Str) && isNum x 0 9999) = false → tAndV (tOp rEq (tOp (rIxT K) (tVar 0) (tC (.int 0))) (tC (.str "known"))) (tCall (spAreKnown K) [] E0 (tCons (tOp (rIxT K) (tVar 0) (tC (.int 1))) tNil)) [some (.ref a)] H Q := fun e0 => by
        refine rd_ixT (j := 0) rfl hs rfl (rd_eqS ⟨_, rfl, ifB (fun c4 => ?_) (fun c4 => ?_)⟩)
        · refine rd_ixT (j := 1) rfl hs rfl ⟨v1, x, rfl, h1, fun H' f => ?_⟩
          have := q2 H' f
          rw [e0, c4, Bool.false_or, Bool.true_and] at this
          exact this
        · have := q2 H .refl
          rw [e0, c4] at this
          exact this
      refine rd_ixT (j := 0) rfl hs rfl (rd_eqS ⟨_, rfl, ifB (fun c3 => ?_) (fun c3 => ?_)⟩)
      · refine rd_ixT (j := 1) rfl hs rfl ⟨v1, x, 0, 9999, rfl, h1, _, rfl, ifB (fun c4 => ?_) (fun c4 => ?_)⟩
        · have := q2 H .refl
          rw [c3, c4] at this
          exact this
        · exact fin (by rw [c3, c4]; rfl)
      · exact ⟨_, rfl, ifF rfl (fin (by rw [c3]; rfl))⟩
    · refine ⟨v, rfl, v, d, rfl, hd, _, rfl, ifB (fun c3 => ?_) (fun c3 => ?_)⟩
      · obtain ⟨z, x, y, rfl⟩ := isRest_inv c3
        obtain ⟨a, v0, v1, v2, rfl, hs, h0, h1, h2⟩ := hd.tup3
        cases h0
        have q2 : ∀ H', Fx [] H H' → Q (.bl (isRest (.tuple [.str z, x, y]) && inV (.str z) [.str "rest", .str "chance"])) H' := q
        refine rd_ixT (j := 0) rfl hs rfl ⟨by show 2 ≤ sizeLine; decide, fun p hp => ?_⟩
        have := q2 _ (Fx.new (o := .tup [.str "rest", .str "chance"]) hp)
        rw [c3] at this
        exact ⟨p, _, rfl, .inr (SqT.of upd_same), rfl, rfl, this⟩
      · have e : isTest d = false := by
          unfold isTest
          split
          · exact absurd rfl (isTag_no c rfl)
          · exact absurd rfl (isTag_no c2 rfl)
          · rw [c3]; rfl
          · rfl
        have := q H .refl
        rw [e] at this
        exact this

def isAns : PyData → Bool
  | .tuple [.str z] => z == ("none" : Str)
  | .tuple [.str z, x] => if z == ("rest" : Str) then isNum x 2 99 else inV (.str z) [.str "num", .str "plus", .str "times"] && isNum x (-9999) 9999
  | _ => false
theorem sc_is_answer : FnScope ["thing"] ["thing"] (defScope s_is_answer) := ⟨rfl, rfl, rfl, by decide +kernel, rfl, by decide +kernel, by decide +kernel⟩
def spIsAnswer (K : PySem.W.Frag) : Sp := fun vs H Q _ => ∃ v d, vs = [v] ∧ Dp K H v d ∧ ∀ H', Fx [] H H' → Q (.bl (isAns d)) H'
theorem ok_is_answer {P : Program} {w : World} {K : PySem.W.Frag} {mg : Str → Option Value} {base : Heap} (T : Tx K mg) : Def P w K mg base CX0 2 "is_answer" ["thing"] (spIsAnswer K) := by
  obtain ⟨fd, F⟩ := T.d_is_answer
  have G_is_tagged := ok_is_tagged (P := P) (w := w) (base := base) T
  have G_is_number := ok_is_number (P := P) (w := w) (base := base) T
  refine ⟨_, fd, F.ok sc_is_answer (fun vs H Q E h => ?_) (fun cdv A outer s H vs Q E hr h => ?_), F.bindsN fun _ _ _ _ _ _ us hl => match us, hl with | [_], _ => rfl, T.g_is_answer, F.kp⟩
  · obtain ⟨v, d, rfl, _⟩ := h
    rfl
  · obtain ⟨v, d, rfl, hd, q⟩ := h
    refine ⟨_, PSs.nox (pss_cons (ps_if (pt_val (pe_def G_is_tagged (hr.mono (by omega)) pass0 (pa_cons (pv 0) (pa_cons pe_int pa_nil))))
        (pss_one (ps_ret (pe_cmpR op_eq (pe_ix ix_tup (pv 0) pe_int (fun _ _ => rfl)) pe_str (nomark _))))
        pss_nil)
        (pss_cons (ps_if (pt_not (pt_val (pe_def G_is_tagged (hr.mono (by omega)) pass0 (pa_cons (pv 0) (pa_cons pe_int pa_nil)))))
        (pss_one (ps_ret pe_bl))
        pss_nil)
        (pss_cons (ps_if (pt_cmpR op_eq (pe_ix ix_tup (pv 0) pe_int (fun _ _ => rfl)) pe_str (nomark _))
        (pss_one (ps_ret (pe_def G_is_number (hr.mono (by omega)) pass0 (pa_cons (pe_ix ix_tup (pv 0) pe_int (fun _ _ => rfl)) (pa_cons pe_int (pa_cons (gC T.c_MOST_BY) pa_nil))))))
        pss_nil)
        (pss_one (ps_ret (pe_and (pe_cmpR op_in_seq (pe_ix ix_tup (pv 0) pe_int (fun _ _ => rfl)) (pe_tup (pa_cons pe_str (pa_cons pe_str (pa_cons pe_str pa_nil)))) (by rfl)) (pe_one (pe_def G_is_number (hr.mono (by omega)) pass0 (pa_cons (pe_ix ix_tup (pv 0) pe_int (fun _ _ => rfl)) (pa_cons (pe_op op_sub pe_int (gC T.c_GREAT)) (pa_cons (gC T.c_GREAT) pa_nil))))))))))), ?_⟩
    refine ⟨v, rfl, v, d, 0, rfl, hd, _, rfl, ifB (fun c => ?_) (fun c => ?_)⟩
    · obtain ⟨z, xs, rfl, e⟩ := isTag_inv c
      obtain rfl : xs = [] := List.length_eq_zero_iff.mp (by omega)
      obtain ⟨a, v0, rfl, hs, h0⟩ := hd.tup1
      cases h0
      exact rd_ixT (j := 0) rfl hs rfl (rd_eqS (q H .refl))
    refine ⟨v, rfl, v, d, 1, rfl, hd, _, rfl, ifB (fun c2 => ?_) (fun c2 => ?_)⟩
    · have e : isAns d = false := by
        have c2' : isTag 2 d = false := by simpa using c2
        unfold isAns
        split
        · exact absurd rfl (isTag_no c rfl)
        · exact absurd rfl (isTag_no c2' rfl)
        · rfl
      have := q H .refl
      rw [e] at this
      exact this
    · have c2' : isTag 2 d = true := by simpa using c2
      obtain ⟨z, xs, rfl, e⟩ := isTag_inv c2'
      obtain ⟨x, rfl⟩ : ∃ x, xs = [x] := by
        match xs, e with
        | [x], _ => exact ⟨x, rfl⟩
      obtain ⟨a, v0, v1, rfl, hs, h0, h1⟩ := hd.tup2
      cases h0
      have q2 : ∀ H', Fx [] H H' → Q (.bl (if z == ("rest" : Str) then isNum x 2 99 else inV (.str z) [.str "num", .str "plus", .str "times"] && isNum x (-9999) 9999)) H' := q
      refine rd_ixT (j := 0) rfl hs rfl (rd_eqS ⟨_, rfl, ifB (fun c3 => ?_) (fun c3 => ?_)⟩)
      · rw [c3] at q2
        exact rd_ixT (j := 1) rfl hs rfl ⟨v1, x, 2, 99, rfl, h1, q2 H .refl⟩
      · rw [c3] at q2
        refine rd_ixT (j := 0) rfl hs rfl ⟨by show 3 ≤ sizeLine; decide, fun p hp => ?_⟩
        have fp : Fx [] H (upd H p (.tup [.str "num", .str "plus", .str "times"])) := Fx.new hp
        have q3 : Q (.bl (inV (.str z) [.str "num", .str "plus", .str "times"] && isNum x (-9999) 9999)) _ := q2 _ fp
        refine ⟨p, _, rfl, .inr (SqT.of upd_same), rfl, rfl, _, rfl, ifB (fun c4 => ?_) (fun c4 => ?_)⟩
        · have c4' : inV (.str z) [.str "num", .str "plus", .str "times"] = true := c4
          rw [c4', Bool.true_and] at q3
          exact rd_ixT (j := 1) rfl (fp.sqT hs) rfl ⟨0, 9999, rfl, rfl, v1, x, -9999, 9999, rfl, h1.ext fp, q3⟩
        · have c4' : inV (.str z) [.str "num", .str "plus", .str "times"] = false := c4
          rw [c4', Bool.false_and] at q3
          exact q3
end Mh
/-! MhMach4 -/
namespace Mh
open PySem PySem.Spec PyProof.Rows L2
def rowOk : PyData → Bool
  | .tuple [t, a] => isTest t && isAns a
  | _ => false
theorem rowOk_inv {d : PyData} (h : rowOk d = true) : ∃ t a, d = .tuple [t, a] ∧ isTest t = true ∧ isAns a = true := by
  unfold rowOk at h
  split at h
  · obtain ⟨h1, h2⟩ := Bool.and_eq_true_iff.mp h
    exact ⟨_, _, rfl, h1, h2⟩
  · cases h
/-- x == n, n a written number -/
theorem rd_eqI {σ : L2.St} {H : Hp} {Q : VK} {x : Int} {z : Int} (q : Q (.bl (x == z)) H) : tC (.int z) σ H fun y H2 => rEq (.int x) y H2 Q := ⟨rfl, by rw [dec_int]; exact q⟩
theorem sc_need_machine : FnScope ["machine", "row", "one"] ["machine"] (defScope s_need_machine) := ⟨rfl, rfl, rfl, by decide +kernel, rfl, by decide +kernel, by decide +kernel⟩
def spNeedMachine (K : PySem.W.Frag) : Sp := fun vs H Q _ => ∃ v ds, vs = [v] ∧ Dp K H v (.tuple ds) ∧ ds ≠ [] ∧ ds.length ≤ 12 ∧ (∀ d ∈ ds, rowOk d = true) ∧ SeqAt.shaped (.tuple ds) = true ∧ ∀ H', Fx [] H H' → Q .non H'
theorem ok_need_machine {P : Program} {w : World} {K : PySem.W.Frag} {mg : Str → Option Value} {base : Heap} (T : Tx K mg) : Def P w K mg base CX0 4 "need_machine" ["machine"] (spNeedMachine K) := by
  obtain ⟨fd, F⟩ := T.d_need_machine
  have G_is_test := ok_is_test (P := P) (w := w) (base := base) T
  have G_is_answer := ok_is_answer (P := P) (w := w) (base := base) T
  refine ⟨_, fd, F.ok sc_need_machine (fun vs H Q E h => ?_) (fun cdv A outer s H vs Q E hr h => ?_), F.bindsN fun _ _ _ _ _ _ us hl => match us, hl with | [_], _ => rfl, T.g_need_machine, F.kp⟩
  · obtain ⟨v, ds, rfl, _⟩ := h
    rfl
  · obtain ⟨v, ds, rfl, hd, hne, hlen, hrows, hsh, q⟩ := h
    refine ⟨_, PSs.nox (pss_cons (ps_if (PW.pt (pw_or (pt_not (pt_val (pe_callB call_isiD (by rfl) T.f_isinstance (by decide +kernel) (pa_cons (pv 0) (pa_cons (gT (n := "tuple") T.f_tuple) pa_nil))))) (pw_or1 (pt_cmpR (op_eqD hr.units) (pv 0) (pe_tup pa_nil) (nomark _)))))
        (pss_one ps_never)
        pss_nil)
        (pss_one (ps_for PassesOwn.never rfl (pi_enumT (by rfl) T.f_enumerate (pa_cons (pv 0) pa_nil)) (pg_tup rfl (pgs_cons (pg_name (i := 1) sc_need_machine.nd rfl (by first | exact Or.inl rfl | exact Or.inr rfl)) (pgs_cons (pg_name (i := 2) sc_need_machine.nd rfl (by first | exact Or.inl rfl | exact Or.inr rfl)) pgs_nil)))
        (pss_cons (ps_if (PW.pt (pw_or (pt_cmpR op_eq (pv 1) (gC T.c_MOST_ROWS) (nomark _)) (pw_or (pt_not (pt_val (pe_callB call_isiD (by rfl) T.f_isinstance (by decide +kernel) (pa_cons (pv 2) (pa_cons (gT (n := "tuple") T.f_tuple) pa_nil))))) (pw_or1 (pt_cmpR op_ne (pe_callB call_len_seq (by rfl) T.f_len (by decide +kernel) (pa_cons (pv 2) pa_nil)) pe_int (nomark _))))))
        (pss_one ps_never)
        pss_nil)
        (pss_one (ps_if (PW.pt (pw_or (pt_not (pt_val (pe_def G_is_test (hr.mono (by omega)) pass0 (pa_cons (pe_ix ix_tup (pv 2) pe_int (fun _ _ => rfl)) pa_nil)))) (pw_or1 (pt_not (pt_val (pe_def G_is_answer (hr.mono (by omega)) pass0 (pa_cons (pe_ix ix_tup (pv 2) pe_int (fun _ _ => rfl)) pa_nil)))))))
        (pss_one ps_never)
        pss_nil)))))), ?_⟩
    obtain ⟨a, xs, rfl, hs, ha⟩ := hd.tupI
    have hl := ha.len
    refine rd_isD rfl (by decide) hd ⟨_, rfl, ifF rfl ⟨_, rfl, by show 0 ≤ sizeLine; decide, fun p hp => ?_⟩⟩
    have f1 : Fx [] H (upd H p (.tup [])) := Fx.new hp
    refine ⟨.tuple ds, .tuple [], hd.ext f1, .tup (SqT.of upd_same) .nil, hsh, by decide +kernel, _, rfl, ifF ?_ ?_⟩
    · cases ds with
      | nil => exact absurd rfl hne
      | cons d ds => simp [PyData.eqv, PyData.eqvAll]
    refine ⟨_, rfl, a, xs, rfl, f1.sqT hs, for_it walk_enT (fun i σ' H' => ∃ y1 y2, σ' = [some (.ref a), y1, y2] ∧ Fx [] H H') ⟨none, none, rfl, f1⟩ (fun i σ' H' _ ⟨_, _, _, f⟩ => f.sqT hs) (fun i x σ' H2 H3 hi hP y => ?_) (fun σ' H' hP => ?_)⟩
    · obtain ⟨y1, y2, rfl, f⟩ := hP
      obtain ⟨T, u, v, rfl, hT, hu, hv⟩ := YPair.tup y
      cases hu
      have f3 := f.trans (YPair.fx y)
      obtain ⟨d, g1, g2⟩ := ha.get hv
      obtain ⟨t, an, rfl, ht, han⟩ := rowOk_inv (hrows d (List.mem_of_getElem? g1))
      have g3 := g2.ext f3
      obtain ⟨b, w1, w2, rfl, hb, k1, k2⟩ := g3.tup2
      refine ⟨T, _, rfl, SqT.of hT, rfl, _, _, rfl, _, _, rfl, rfl, ?_⟩
      refine ⟨_, rfl, rd_eqI ⟨_, rfl, ifF ?_ ?_⟩⟩
      · have : (i : Int) ≠ 12 := by omega
        simpa using this
      refine rd_isD rfl (by decide) g3 ⟨_, rfl, ifF rfl ⟨_, rfl, b, _, rfl, .inr hb, rfl, _, rfl, ifF rfl ?_⟩⟩
      refine rd_ixT (j := 0) rfl hb rfl ⟨w1, t, rfl, k1, fun H4 f4 => ⟨_, rfl, ifF (by rw [ht]; rfl) ?_⟩⟩
      refine rd_ixT (j := 1) rfl (f4.sqT hb) rfl ⟨w2, an, rfl, k2.ext f4, fun H5 f5 => ⟨_, rfl, ifF (by rw [han]; rfl) ?_⟩⟩
      exact ⟨_, _, rfl, (f3.trans f4).trans f5⟩
    · obtain ⟨y1, y2, rfl, f⟩ := hP
      exact q H' f

/-! ### good tests, answers, machines as data of Lean -/
inductive Tst where
  | any | below (n : Int) | rest (m r : Int) | chance (m r : Int) | known (ns : List Int)
inductive Ans where
  | num (n : Int) | plus (n : Int) | times (n : Int) | rest (m : Int) | none
def Tst.d : Tst → PyData
  | .any => .tuple [.str "any"]
  | .below n => .tuple [.str "below", .int n]
  | .rest m r => .tuple [.str "rest", .int m, .int r]
  | .chance m r => .tuple [.str "chance", .int m, .int r]
  | .known ns => .tuple [.str "known", .tuple (ns.map .int)]
def Ans.d : Ans → PyData
  | .num n => .tuple [.str "num", .int n]
  | .plus n => .tuple [.str "plus", .int n]
  | .times n => .tuple [.str "times", .int n]
  | .rest m => .tuple [.str "rest", .int m]
  | .none => .tuple [.str "none"]
def Tst.ok : Tst → Prop
  | .any => True
  | .below n => 0 ≤ n ∧ n ≤ 9999
  | .rest m r => 2 ≤ m ∧ m ≤ 99 ∧ 0 ≤ r ∧ r < m
  | .chance m r => 2 ≤ m ∧ m ≤ 99 ∧ 0 ≤ r ∧ r < m
  | .known ns => 1 ≤ ns.length ∧ ns.length ≤ 8 ∧ (∀ n ∈ ns, 0 ≤ n ∧ n ≤ 9999) ∧ rising ns = true
def Ans.ok : Ans → Prop
  | .num n => -9999 ≤ n ∧ n ≤ 9999
  | .plus n => -9999 ≤ n ∧ n ≤ 9999
  | .times n => -9999 ≤ n ∧ n ≤ 9999
  | .rest m => 2 ≤ m ∧ m ≤ 99
  | .none => True
abbrev Mch := List (Tst × Ans)
def rowD (r : Tst × Ans) : PyData := .tuple [r.1.d, r.2.d]
def machD (m : Mch) : PyData := .tuple (m.map rowD)
structure Mch.ok (m : Mch) : Prop where
  ne : m ≠ []
  len : m.length ≤ 12
  rows : ∀ r ∈ m, r.1.ok ∧ r.2.ok
theorem intOf_map (ns : List Int) : (ns.map PyData.int).map intOf = ns := by
  rw [List.map_map]
  exact List.map_id ns
theorem Tst.ok_test {t : Tst} (h : t.ok) : isTest t.d = true := by
  cases t with
  | any => decide +kernel
  | below n =>
    have e : isNum (.int n) 0 9999 = true := by simp [isNum, h.1, h.2]
    have e1 : (("below" : Str) == ("below" : Str)) = true := beq_self_eq_true _
    simp only [Tst.d, isTest, e1, e, Bool.and_self, Bool.true_or]
  | rest m r =>
    obtain ⟨h1, h2, h3, h4⟩ := h
    have e : isRest (.tuple [.str "rest", .int m, .int r]) = true := by
      have h5 : r ≤ m - 1 := by omega
      simp [isRest, isNum, intOf, h1, h2, h3, h5]
    show (isRest (.tuple [.str "rest", .int m, .int r]) && inV (.str "rest") [.str "rest", .str "chance"]) = true
    rw [e, Bool.true_and]
    decide +kernel
  | chance m r =>
    obtain ⟨h1, h2, h3, h4⟩ := h
    have e : isRest (.tuple [.str "chance", .int m, .int r]) = true := by
      have h5 : r ≤ m - 1 := by omega
      simp [isRest, isNum, intOf, h1, h2, h3, h5]
    show (isRest (.tuple [.str "chance", .int m, .int r]) && inV (.str "chance") [.str "rest", .str "chance"]) = true
    rw [e, Bool.true_and]
    decide +kernel
  | known ns =>
    obtain ⟨h1, h2, h3, h4⟩ := h
    have e : areKnown (.tuple (ns.map .int)) = true := by
      rw [areKnown_tup, intOf_map, h4, List.length_map, decide_eq_true h1, decide_eq_true h2, Bool.and_true, Bool.and_true, Bool.true_and]
      refine List.all_eq_true.mpr fun d hd => ?_
      obtain ⟨n, hn, rfl⟩ := List.mem_map.mp hd
      obtain ⟨h5, h6⟩ := h3 n hn
      simp [isNum, h5, h6]
    have e1 : (("known" : Str) == ("known" : Str)) = true := beq_self_eq_true _
    simp only [Tst.d, isTest, e1, e, Bool.and_self, Bool.or_true]
theorem Ans.ok_ans {a : Ans} (h : a.ok) : isAns a.d = true := by
  have key : ∀ (z : Str) (n : Int), -9999 ≤ n ∧ n ≤ 9999 → (z == ("rest" : Str)) = false → inV (.str z) [.str "num", .str "plus", .str "times"] = true → isAns (.tuple [.str z, .int n]) = true := fun z n h e1 e2 => by
    show (if z == ("rest" : Str) then isNum (.int n) 2 99 else inV (.str z) [.str "num", .str "plus", .str "times"] && isNum (.int n) (-9999) 9999) = true
    rw [e1, e2]
    simp [isNum, h.1, h.2]
  cases a with
  | num n => exact key _ n h (by decide +kernel) (by decide +kernel)
  | plus n => exact key _ n h (by decide +kernel) (by decide +kernel)
  | times n => exact key _ n h (by decide +kernel) (by decide +kernel)
  | rest m =>
    show (if ("rest" : Str) == ("rest" : Str) then isNum (.int m) 2 99 else inV (.str ("rest" : Str)) [.str "num", .str "plus", .str "times"] && isNum (.int m) (-9999) 9999) = true
    rw [beq_self_eq_true]
    simp [isNum, h.1, h.2]
  | none => decide +kernel
theorem lay_ints : ∀ ns : List Int, PyData.canLayAll0 (ns.map .int) = true ∧ PyData.depthAll (ns.map .int) = 0
  | [] => ⟨by simp [PyData.canLayAll0], by simp [PyData.depthAll]⟩
  | n :: ns => by
    obtain ⟨h1, h2⟩ := lay_ints ns
    exact ⟨by simp [PyData.canLayAll0, PyData.canLay0, h1], by simp [PyData.depthAll, PyData.depth, h2]⟩
theorem strOkA : (["any", "below", "rest", "chance", "known", "num", "plus", "times", "none"] : List Str).all (fun z => PyData.canLay0 (.str z)) = true := by decide +kernel
theorem strOk1 {z : Str} (h : z ∈ (["any", "below", "rest", "chance", "known", "num", "plus", "times", "none"] : List Str)) : PyData.canLay0 (.str z) = true := List.all_eq_true.mp strOkA z h
theorem Tst.lay (t : Tst) : t.d.canLay0 = true ∧ t.d.depth ≤ 2 := by
  cases t with
  | known ns =>
    obtain ⟨h1, h2⟩ := lay_ints ns
    have e := strOk1 (z := "known") (by decide +kernel)
    exact ⟨by simp [Tst.d, PyData.canLay0, PyData.canLayAll0, h1] at e ⊢; exact e, by simp [Tst.d, PyData.depth, PyData.depthAll, h2]⟩
  | any => exact ⟨by decide +kernel, by decide +kernel⟩
  | below n =>
    have e := strOk1 (z := "below") (by decide +kernel)
    exact ⟨by simp [Tst.d, PyData.canLay0, PyData.canLayAll0] at e ⊢; exact e, by simp [Tst.d, PyData.depth, PyData.depthAll]⟩
  | rest m r =>
    have e := strOk1 (z := "rest") (by decide +kernel)
    exact ⟨by simp [Tst.d, PyData.canLay0, PyData.canLayAll0] at e ⊢; exact e, by simp [Tst.d, PyData.depth, PyData.depthAll]⟩
  | chance m r =>
    have e := strOk1 (z := "chance") (by decide +kernel)
    exact ⟨by simp [Tst.d, PyData.canLay0, PyData.canLayAll0] at e ⊢; exact e, by simp [Tst.d, PyData.depth, PyData.depthAll]⟩
theorem Ans.lay (a : Ans) : a.d.canLay0 = true ∧ a.d.depth ≤ 2 := by
  have key : ∀ (z : Str) (n : Int), PyData.canLay0 (.str z) = true → (PyData.tuple [.str z, .int n]).canLay0 = true ∧ (PyData.tuple [.str z, .int n]).depth ≤ 2 := fun z n e =>
    ⟨by simp [PyData.canLay0, PyData.canLayAll0] at e ⊢; exact e, by simp [PyData.depth, PyData.depthAll]⟩
  cases a with
  | num n => exact key _ _ (strOk1 (by decide +kernel))
  | plus n => exact key _ _ (strOk1 (by decide +kernel))
  | times n => exact key _ _ (strOk1 (by decide +kernel))
  | rest n => exact key _ _ (strOk1 (by decide +kernel))
  | none => exact ⟨by decide +kernel, by decide +kernel⟩
theorem mach_lay : ∀ m : Mch, PyData.canLayAll0 (m.map rowD) = true ∧ PyData.depthAll (m.map rowD) ≤ 3
  | [] => ⟨by simp [PyData.canLayAll0], by simp [PyData.depthAll]⟩
  | r :: m => by
    obtain ⟨h1, h2⟩ := mach_lay m
    obtain ⟨a1, a2⟩ := r.1.lay
    obtain ⟨b1, b2⟩ := r.2.lay
    refine ⟨by simp [PyData.canLayAll0, PyData.canLay0, rowD, h1, a1, b1], ?_⟩
    simp only [List.map_cons, PyData.depthAll, rowD, PyData.depth]
    omega
theorem mach_shaped (m : Mch) : SeqAt.shaped (machD m) = true := by
  obtain ⟨h1, h2⟩ := mach_lay m
  show (PyData.canLay0 (.tuple (m.map rowD)) && decide (PyData.depth (.tuple (m.map rowD)) ≤ 64)) = true
  rw [Bool.and_eq_true_iff]
  refine ⟨by simp only [PyData.canLay0]; exact h1, decide_eq_true ?_⟩
  simp only [PyData.depth]
  omega
theorem nol_ints : ∀ ns : List Int, nolA (ns.map .int) = true
  | [] => rfl
  | n :: ns => by
    show (nol (.int n) && nolA (ns.map .int)) = true
    rw [nol_ints ns]
    rfl
theorem Tst.nol (t : Tst) : nol t.d = true := by
  cases t with
  | known ns =>
    show (true && ((nolA (ns.map .int)) && true)) = true
    rw [nol_ints]
    rfl
  | _ => rfl
theorem Ans.nol (a : Ans) : Mh.nol a.d = true := by cases a <;> rfl
theorem row_nol (r : Tst × Ans) : nol (rowD r) = true := by
  show (nol r.1.d && (nol r.2.d && true)) = true
  rw [r.1.nol, r.2.nol]
  rfl
theorem rows_nol : ∀ m : Mch, nolA (m.map rowD) = true
  | [] => rfl
  | r :: m => by
    show (nol (rowD r) && nolA (m.map rowD)) = true
    rw [row_nol, rows_nol m]
    rfl
theorem mach_nol (m : Mch) : nol (machD m) = true := rows_nol m
theorem mach_rows {m : Mch} (h : m.ok) : ∀ d ∈ m.map rowD, rowOk d = true := fun d hd => by
  obtain ⟨r, hr, rfl⟩ := List.mem_map.mp hd
  obtain ⟨h1, h2⟩ := h.rows r hr
  show (isTest r.1.d && isAns r.2.d) = true
  rw [Tst.ok_test h1, Ans.ok_ans h2]
  rfl
/-- need_machine of a good machine -/
theorem need_mach {K : PySem.W.Frag} {H : Hp} {Q : VK} {E : XK} {v : V} {m : Mch} (h : m.ok) (hd : Dp K H v (machD m)) (q : ∀ H', Fx [] H H' → Q .non H') : spNeedMachine K [v] H Q E :=
  ⟨v, m.map rowD, rfl, hd, fun z => h.ne (List.map_eq_nil_iff.mp z), by rw [List.length_map]; exact h.len, mach_rows h, mach_shaped m, q⟩
end Mh
/-! MhMach5a -/
namespace Mh
open PySem PySem.Spec PyProof.Rows L2
def holdsFor : Tst → Int → Int → Bool
  | .any, _, _ => true
  | .below n, q, _ => decide (q < n)
  | .rest m r, q, _ => q % m == r
  | .chance m r, q, s => (7 * q + 13 * s) % m == r
  | .known ns, q, _ => inV (.int q) (ns.map V.int)
def answerBy : Ans → Int → Option Int
  | .num n, _ => some n
  | .plus n, q => some (q + n)
  | .times n, q => some (q * n)
  | .rest m, q => some (q % m)
  | .none, _ => none
def askedM : Mch → Int → Int → Option Int
  | [], _, _ => none
  | r :: m, q, s => if holdsFor r.1 q s then answerBy r.2 q else askedM m q s
def oV : Option Int → V
  | some i => .int i
  | none => .non
def oD : Option Int → PyData
  | some i => .int i
  | none => .none
theorem dp_oV {K : PySem.W.Frag} {H : Hp} (o : Option Int) : Dp K H (oV o) (oD o) := by
  cases o with
  | none => exact .non
  | some i => exact .int i
theorem DpAll.intsI {K : PySem.W.Frag} {H : Hp} : ∀ {ns : List Int} {xs : List V}, DpAll K H xs (ns.map .int) → xs = ns.map V.int
  | [], _, h => by cases h; rfl
  | n :: ns, _, h => by
    cases h with
    | cons h1 h2 =>
      cases h1
      rw [DpAll.intsI h2]
      rfl
theorem all_flat (ns : List Int) : (ns.map V.int).all flatV = true := by
  rw [List.all_map]
  exact List.all_eq_true.mpr fun _ _ => rfl
/-- word = test[0], word == z -/
theorem rd_vS {σ : L2.St} {H : Hp} {Q : VK} {i : Nat} {x z : Str} (hv : σ[i]? = some (some (.str x))) (q : Q (.bl (x == z)) H) : tOp rEq (tVar i) (tC (.str z)) σ H Q := ⟨_, hv, rd_eqS (σ := σ) q⟩
theorem sTT {x z : Str} (h : x = z) : (x == z) = true := by rw [h]; exact beq_self_eq_true _
theorem DpAll.drop {K : PySem.W.Frag} {H : Hp} : ∀ {vs : List V} {ds : List PyData} (n : Nat), DpAll K H vs ds → DpAll K H (vs.drop n) (ds.drop n)
  | _, _, 0, h => h
  | _, _, _ + 1, .nil => .nil
  | _, _, n + 1, .cons _ t => DpAll.drop n t
end Mh
/-! MhDice -/
namespace Mh
open PySem PySem.Spec PyProof.Rows L2
/-! ### dice: what the law draws from -/
structure Dice where
  a : Int
  b : Int
  r : List Int
def Dice.l (s : Dice) : List V := .int s.a :: .int s.b :: s.r.map V.int
def Dice.pre (s : Dice) : Dice := match s.r with
  | x :: r => if s.b = 0 then ⟨s.a, x, r⟩ else s
  | [] => s
def Dice.nxt (s : Dice) : Int := (s.a * 48271 + 11) % 2147483647
def off (s : Dice) (n : Int) : Int × Dice := if 0 < s.pre.b then (s.pre.b % n, ⟨s.pre.a, s.pre.b / n, s.pre.r⟩) else (s.pre.nxt / 64 % n, ⟨s.pre.nxt, s.pre.b, s.pre.r⟩)
structure Dice.ok (s : Dice) : Prop where
  a0 : 0 ≤ s.a
  a1 : s.a < 2147483647
  len : s.r.length ≤ 63
theorem Dice.pre_ok {s : Dice} (h : s.ok) : s.pre.ok := by
  obtain ⟨a, b, r⟩ := s
  cases r with
  | nil => exact h
  | cons x r =>
    show (if b = 0 then (⟨a, x, r⟩ : Dice) else ⟨a, b, x :: r⟩).ok
    split
    · exact ⟨h.a0, h.a1, by have := h.len; simp at this; show r.length ≤ 63; omega⟩
    · exact h
theorem off_ok {s : Dice} (h : s.ok) (n : Int) : (off s n).2.ok := by
  have p := Dice.pre_ok h
  unfold off
  split
  · exact ⟨p.a0, p.a1, p.len⟩
  · exact ⟨Int.emod_nonneg _ (by decide), Int.emod_lt_of_pos _ (by decide), p.len⟩
theorem off_range (s : Dice) {n : Int} (hn : 0 < n) : 0 ≤ (off s n).1 ∧ (off s n).1 < n := by
  unfold off
  split
  · exact ⟨Int.emod_nonneg _ (by omega), Int.emod_lt_of_pos _ hn⟩
  · exact ⟨Int.emod_nonneg _ (by omega), Int.emod_lt_of_pos _ hn⟩
theorem upd_self {H : Hp} {a : Addr} {o : HO} (h : H a = some o) : upd H a o = H := by
  funext b
  unfold upd
  split
  · rename_i e
    rw [e, h]
  · rfl
/-- an item of a list of one's own at a written place -/
theorem rd_ixL {K : PySem.W.Frag} {σ : L2.St} {H : Hp} {Q : VK} {i j : Nat} {a : Addr} {xs : List V} {v : V} (hv : σ[i]? = some (some (.ref a))) (hs : SqL K H a xs) (hj : xs[j]? = some v) (q : Q v H) : tOp (rIxL K) (tVar i) (tC (.int (j : Int))) σ H Q :=
  ⟨_, hv, a, xs, (j : Int), v, rfl, rfl, hs, atI_nat hj, q⟩
/-- xs[j] = v -/
theorem rd_setL {σ : L2.St} {H : Hp} {Q : L2.St → Hp → Prop} {i j : Nat} {a : Addr} {xs : List V} {v : V} (hv : σ[i]? = some (some (.ref a))) (hs : H a = some (.lst xs)) (hj : j < xs.length) (q : Q σ (upd H a (.lst (xs.set j v)))) : gSub (tVar i) (tC (.int (j : Int))) L2.rSetL v σ H Q :=
  ⟨_, hv, a, xs, (j : Int), j, rfl, rfl, hs, (by
    have h2 : (j : Int) < (xs.length : Int) := by omega
    have h1 : (0 : Int) ≤ (j : Int) := by omega
    show (if 0 ≤ (j : Int) then (if (j : Int) < (xs.length : Int) then some (j : Int).toNat else none) else _) = some j
    rw [if_pos h1, if_pos h2]
    rfl), q⟩
theorem sc_l_off : FnScope ["_law_d", "_law_upto", "_law_found"] ["_law_d", "_law_upto"] (defScope s_l_off) := ⟨rfl, rfl, rfl, by decide +kernel, rfl, by decide +kernel, by decide +kernel⟩
def spOff (_K : PySem.W.Frag) : Sp := fun vs H Q _ => ∃ dd s n, vs = [.ref dd, .int n] ∧ H dd = some (.lst (Dice.l s)) ∧ s.ok ∧ 0 < n ∧ n < 1073741824 ∧ Q (.int (off s n).1) (upd H dd (.lst (off s n).2.l))
theorem dice_len (s : Dice) : s.l.length = s.r.length + 2 := by simp [Dice.l]
theorem ok_l_off {P : Program} {w : World} {K : PySem.W.Frag} {mg : Str → Option Value} {base : Heap} (T : Tx K mg) : Def P w K mg base CX0 1 "_law_off" ["_law_d", "_law_upto"] (spOff K) := by
  obtain ⟨fd, F⟩ := T.d_l_off
  refine ⟨_, fd, F.ok sc_l_off (fun vs H Q E h => ?_) (fun cdv A outer s H vs Q E hr h => ?_), F.bindsN fun _ _ _ _ _ _ us hl => match us, hl with | [_, _], _ => rfl, T.g_l_off, F.kp⟩
  · obtain ⟨d, s, n, rfl, _⟩ := h
    rfl
  · obtain ⟨dd, s, n, rfl, hd, hs, hn, hn2, q⟩ := h
    refine ⟨_, PSs.nox (Evl.pss_cut (ps_if (PW.pt (pw_and (pt_cmpR op_eq (pe_ix ix_list (pv 0) pe_int (fun _ _ => rfl)) pe_int (nomark _)) (pw_and1 (pt_cmpR op_gt (pe_callB call_len_seq (by rfl) T.f_len (by decide +kernel) (pa_cons (pv 0) pa_nil)) pe_int (nomark _)))))
        (pss_one (ps_asg (pe_bm PySem.F.plainAttrs_list PySem.F.slot_list_pop PySem.F.type_list_pop mt_popAt (pv 0) (pa_cons pe_int pa_nil)) (pg_sub (pv 0) pe_int set_list)))
        pss_nil)
        (pss_cons (ps_if (pt_cmpR op_gt (pe_ix ix_list (pv 0) pe_int (fun _ _ => rfl)) pe_int (nomark _))
        (pss_cons (ps_set (i := 2) sc_l_off.nd rfl (by first | exact Or.inl rfl | exact Or.inr rfl) (pe_op op_mod (pe_ix ix_list (pv 0) pe_int (fun _ _ => rfl)) (pv 1)))
        (pss_cons (ps_asg (pe_op op_fdiv (pe_ix ix_list (pv 0) pe_int (fun _ _ => rfl)) (pv 1)) (pg_sub (pv 0) pe_int set_list))
        (pss_one (ps_ret (pv 2)))))
        pss_nil)
        (pss_cons (ps_asg (pe_op op_mod (pe_op op_add (pe_op op_mul (pe_ix ix_list (pv 0) pe_int (fun _ _ => rfl)) pe_int) pe_int) pe_int) (pg_sub (pv 0) pe_int set_list))
        (pss_one (ps_ret (pe_op op_mod (pe_op op_fdiv (pe_ix ix_list (pv 0) pe_int (fun _ _ => rfl)) pe_int) (pv 1))))))), ?_⟩
    refine ⟨fun σ' H' => σ' = [some (.ref dd), some (.int n), none] ∧ H' = upd H dd (.lst s.pre.l), ?_, fun σ' H' hM => ?_⟩
    · refine rd_ixL (j := 1) rfl (SqL.of hd) rfl (rd_eqI ⟨_, rfl, ifB (fun c => ?_) (fun c => ?_)⟩)
      · have c' : s.b = 0 := by simpa using c
        refine ⟨_, rfl, dd, _, rfl, .inl (SqL.of hd), _, _, rfl, rfl, _, rfl, ifB (fun c2 => ?_) (fun c2 => ?_)⟩
        · have c2' : (2 : Int) < (s.l.length : Int) := of_decide_eq_true c2
          rw [dice_len] at c2'
          obtain ⟨a, b, r⟩ := s
          cases r with
          | nil => simp at c2'
          | cons x r =>
            have c' : b = 0 := c'
            subst c'
            refine ⟨_, rfl, .inl ⟨rfl, _, SqL.of hd⟩, dd, _, 2, 2, .int x, rfl, rfl, hd, by decide, by decide, ?_, rfl, ?_⟩
            · show seqIndex? 2 (List.length _) = some 2
              rw [show (Dice.l ⟨a, 0, x :: r⟩).length = r.length + 3 by simp [Dice.l]]
              obtain ⟨e, _⟩ := ixN_seq (n := r.length + 3) (i := 2) (j := 2) (by
                unfold ixN
                rw [if_pos (by decide), if_pos (by omega)]
                rfl)
              exact e
            · refine rd_setL (j := 1) rfl upd_same (by simp [Dice.l]) ⟨rfl, ?_⟩
              rw [upd_upd]
              rfl
        · have c2' : ¬ (2 : Int) < (s.l.length : Int) := of_decide_eq_false c2
          rw [dice_len] at c2'
          obtain ⟨a, b, r⟩ := s
          cases r with
          | nil => exact ⟨rfl, (upd_self hd).symm⟩
          | cons x r => exact absurd (show (2 : Int) < ((x :: r).length + 2 : Nat) by simp; omega) c2'
      · have c' : s.b ≠ 0 := by simpa using c
        refine ⟨rfl, ?_⟩
        have e : s.pre = s := by
          obtain ⟨a, b, r⟩ := s
          cases r with
          | nil => rfl
          | cons x r => exact if_neg c'
        rw [e, upd_self hd]
    · obtain ⟨rfl, rfl⟩ := hM
      have hp : upd H dd (.lst s.pre.l) dd = some (.lst s.pre.l) := upd_same
      have hpo := Dice.pre_ok hs
      refine rd_ixL (j := 1) rfl (SqL.of hp) rfl ⟨_, _, rfl, rfl, _, rfl, ifB (fun c => ?_) (fun c => ?_)⟩
      · have c' : 0 < s.pre.b := of_decide_eq_true c
        have e : off s n = (s.pre.b % n, ⟨s.pre.a, s.pre.b / n, s.pre.r⟩) := if_pos c'
        refine rd_ixL (j := 1) rfl (SqL.of hp) rfl ⟨_, rfl, _, _, rfl, rfl, hn, ?_⟩
        refine rd_ixL (j := 1) rfl (SqL.of hp) rfl ⟨_, rfl, _, _, rfl, rfl, ⟨hn, hn2⟩, ?_⟩
        refine rd_setL (j := 1) rfl hp (by rw [dice_len]; omega) ⟨_, rfl, ?_⟩
        rw [upd_upd]
        rw [e] at q
        exact q
      · have c' : ¬ 0 < s.pre.b := of_decide_eq_false c
        have e : off s n = (s.pre.nxt / 64 % n, ⟨s.pre.nxt, s.pre.b, s.pre.r⟩) := if_neg c'
        refine rd_ixL (j := 0) rfl (SqL.of hp) rfl ⟨_, _, rfl, rfl, .inr (by decide), _, _, rfl, rfl, _, _, rfl, rfl, (show (0 : Int) < 2147483647 by decide), ?_⟩
        refine rd_setL (j := 0) rfl hp (by rw [dice_len]; omega) ?_
        refine rd_ixL (j := 0) rfl (SqL.of upd_same) rfl ⟨_, _, rfl, rfl, ⟨by decide, by decide⟩, _, rfl, _, _, rfl, rfl, hn, ?_⟩
        rw [upd_upd]
        rw [e] at q
        exact q

/-- the dice of a script -/
def diceFold (k : Int) (ns : List Int) : Int := ns.foldl (fun f c => (f * 31 + (if c < 0 then -c else c)) % 2147483647) k
def diceOf (k : Int) (ns : List Int) : Dice := ⟨diceFold k ns, 0, ns.filter fun c => decide ((10 : Int) ^ 18 ≤ c)⟩
theorem diceFold_range {k : Int} (hk : 0 ≤ k ∧ k < 2147483647) : ∀ ns : List Int, 0 ≤ diceFold k ns ∧ diceFold k ns < 2147483647 := fun ns => by
  unfold diceFold
  induction ns generalizing k with
  | nil => exact hk
  | cons c ns ih => exact ih ⟨Int.emod_nonneg _ (by decide), Int.emod_lt_of_pos _ (by decide)⟩
theorem diceOf_ok {k : Int} (hk : 0 ≤ k ∧ k < 2147483647) {ns : List Int} (hl : ns.length ≤ 63) : (diceOf k ns).ok :=
  ⟨(diceFold_range hk ns).1, (diceFold_range hk ns).2, Nat.le_trans (List.length_filter_le _ _) hl⟩
theorem diceFold_take {k : Int} {ns : List Int} {i : Nat} {x : Int} (h : ns[i]? = some x) : diceFold k (ns.take (i + 1)) = (diceFold k (ns.take i) * 31 + (if x < 0 then -x else x)) % 2147483647 := by
  unfold diceFold
  rw [List.take_add_one, h, List.foldl_append]
  rfl
theorem sc_l_dice : FnScope ["_law_script", "_law_k", "_law_found", "_law_cell"] ["_law_script", "_law_k"] (defScope s_l_dice) := ⟨rfl, rfl, rfl, by decide +kernel, rfl, by decide +kernel, by decide +kernel⟩
def spDice (K : PySem.W.Frag) : Sp := fun vs H Q _ => ∃ a ns k, vs = [.ref a, .int k] ∧ SqL K H a (ns.map V.int) ∧ ns.length ≤ 63 ∧ (0 ≤ k ∧ k < 2147483647) ∧ ∀ H' p, Fx [] H H' → H p = none → H' p = some (.lst (diceOf k ns).l) → Q (.ref p) H'
theorem ok_l_dice {P : Program} {w : World} {K : PySem.W.Frag} {mg : Str → Option Value} {base : Heap} (T : Tx K mg) : Def P w K mg base CX0 1 "_law_dice" ["_law_script", "_law_k"] (spDice K) := by
  obtain ⟨fd, F⟩ := T.d_l_dice
  refine ⟨_, fd, F.ok sc_l_dice (fun vs H Q E h => ?_) (fun cdv A outer s H vs Q E hr h => ?_), F.bindsN fun _ _ _ _ _ _ us hl => match us, hl with | [_, _], _ => rfl, T.g_l_dice, F.kp⟩
  · obtain ⟨a, ns, k, rfl, _⟩ := h
    rfl
  · obtain ⟨a, ns, k, rfl, hS, hlen, hk, q⟩ := h
    refine ⟨_, PSs.nox (pss_cons (ps_set (i := 2) sc_l_dice.nd rfl (by first | exact Or.inl rfl | exact Or.inr rfl) (pv 1))
        (pss_cons (ps_for PassesOwn.never rfl (pi_list (pv 0)) (pg_name (i := 3) sc_l_dice.nd rfl (by first | exact Or.inl rfl | exact Or.inr rfl))
        (pss_one (ps_set (i := 2) sc_l_dice.nd rfl (by first | exact Or.inl rfl | exact Or.inr rfl) (pe_op op_mod (pe_op op_add (pe_op op_mul (pv 2) pe_int) (pe_callB call_abs (by rfl) T.f_abs (by decide +kernel) (pa_cons (pv 3) pa_nil))) pe_int))))
        (pss_one (ps_ret (pe_op op_cat (pe_lst (pa_cons (pv 2) (pa_cons pe_int pa_nil))) (pe_lc (own := [("_law_cell", 3)]) (g := (gName 3)) (tt := _) rfl sc_l_dice.nd (pi_list (pv 0)) (blkOk_by (own := [("_law_cell", 3)]) (N := ["_law_script", "_law_k", "_law_found", "_law_cell"]) (sc := defScope s_l_dice) (by decide +kernel)) (fun _ _ _ _ _ => pg_name (i := 3) sc_l_dice.nd rfl (by first | exact Or.inl rfl | exact Or.inr rfl)) (fun _ _ _ _ _ => pts_one (pt_cmpR op_ge (pv 3) (pe_op op_pow pe_int pe_int) (nomark _))) (fun _ _ _ _ _ => (pv 3)))))))), ?_⟩
    refine ⟨_, rfl, _, rfl, a, rfl, ⟨_, hS⟩, for_it (walk_list (xs := ns.map V.int)) (fun i σ' H' => ∃ y3, σ' = [some (.ref a), some (.int k), some (.int (diceFold k (ns.take i))), y3] ∧ H' = H) ⟨none, rfl, rfl⟩ (fun i σ' H' _ ⟨_, _, e⟩ => by rw [e]; exact hS) (fun i x σ' H2 H3 hi hP y => ?_) (fun σ' H' hP => ?_)⟩
    · obtain ⟨y3, rfl, rfl⟩ := hP
      obtain ⟨rfl, hx⟩ := y
      rw [List.getElem?_map] at hx
      obtain ⟨c, hc, rfl⟩ := Option.map_eq_some_iff.mp hx
      have hr := diceFold_range hk (ns.take i)
      refine ⟨_, rfl, _, _, rfl, rfl, .inl ⟨by omega, by omega⟩, _, rfl, _, rfl, _, _, rfl, rfl, _, _, rfl, rfl, (show (0 : Int) < 2147483647 by decide), ?_⟩
      exact ⟨_, by rw [diceFold_take hc]; rfl, rfl⟩
    · obtain ⟨y3, rfl, rfl⟩ := hP
      rw [List.length_map, List.take_length]
      refine ⟨_, rfl, by show 2 ≤ sizeLine; decide, fun p hp => ?_⟩
      have f1 : Fx [] H' (upd H' p (.lst [.int (diceFold k ns), .int 0])) := Fx.new hp
      refine ⟨_, rfl, a, rfl, ⟨_, f1.sqL hS fun m => nomatch m⟩, fun D hD => lc_rel (walk_list (xs := ns.map V.int)) (fun i acc H2 => Fx [] (upd H' p (.lst [.int (diceFold k ns), .int 0])) H2 ∧ acc = ((ns.take i).filter fun c => decide ((10 : Int) ^ 18 ≤ c)).map V.int) ⟨Fx.new hD, rfl⟩ (fun i acc H2 r => r.1.sqL (f1.sqL hS fun m => nomatch m) fun m => nomatch m) (fun i acc x H2 H3 hi hl hDa r y => ?_) (fun acc H2 hl hDa r => ?_)⟩
      · obtain ⟨rfl, hx⟩ := y
        rw [List.getElem?_map] at hx
        obtain ⟨c, hc, rfl⟩ := Option.map_eq_some_iff.mp hx
        obtain ⟨f2, rfl⟩ := r
        refine ⟨rfl, _, rfl, _, _, rfl, rfl, ⟨by decide, by decide, by decide⟩, _, _, rfl, rfl, _, rfl, ifB (fun c2 => ?_) (fun c2 => ?_)⟩
        · refine ⟨_, rfl, Put.ok hl (by rw [List.length_map] at hi; omega) hDa ⟨f2.loc hD (Chg.lst hDa), ?_⟩⟩
          have c3 : decide ((10 : Int) ^ 18 ≤ c) = true := c2
          have e : [c].filter (fun c => decide ((10 : Int) ^ 18 ≤ c)) = [c] := List.filter_cons_of_pos (p := fun c => decide ((10 : Int) ^ 18 ≤ c)) (l := []) c3
          rw [List.take_add_one, hc, List.filter_append, List.map_append, show (some c).toList = [c] from rfl, e]
          rfl
        · refine Pvl.skip hl hDa ⟨f2, ?_⟩
          have c3 : ¬ decide ((10 : Int) ^ 18 ≤ c) = true := by
            have : decide ((10 : Int) ^ 18 ≤ c) = false := c2
            rw [this]
            decide
          have e : [c].filter (fun c => decide ((10 : Int) ^ 18 ≤ c)) = [] := List.filter_cons_of_neg (p := fun c => decide ((10 : Int) ^ 18 ≤ c)) (l := []) c3
          rw [List.take_add_one, hc, List.filter_append, show (some c).toList = [c] from rfl, e, List.append_nil]
      · obtain ⟨f2, rfl⟩ := r
        have hp2 := f2.to (upd_same (H := H') (a := p) (o := .lst [.int (diceFold k ns), .int 0])) fun m => nomatch m
        rw [List.length_map, List.take_length] at hDa
        refine ⟨p, D, _, _, rfl, rfl, hp2, hDa, ?_, fun l hl2 => ?_⟩
        · have := List.length_filter_le (fun c => decide ((10 : Int) ^ 18 ≤ c)) ns
          rw [List.length_map]
          refine sz2 ?_
          show 2 + _ ≤ 1000
          omega
        · have f3 := (f1.trans f2).trans (Fx.new (M := []) (o := HO.lst ([V.int (diceFold k ns), V.int 0] ++ ((ns.filter fun c => decide ((10 : Int) ^ 18 ≤ c)).map V.int))) hl2)
          exact q _ l f3 ((f1.trans f2).free hl2) upd_same
end Mh
/-! MhGen -/
namespace Mh
open PySem PySem.Spec PyProof.Rows L2
/-- since H0 the dice at dd alone changed; they stand at s -/
structure Dc (dd : Addr) (H0 H : Hp) (s : Dice) : Prop where
  f : Fx [dd] H0 H
  h : H dd = some (.lst s.l)
  ok : s.ok
section
variable {K : PySem.W.Frag} {dd : Addr} {H0 H H' : Hp} {s : Dice} {σ : L2.St} {Q : VK} {i : Nat}
theorem Dc.mv (D : Dc dd H0 H s) (f : Fx [] H H') : Dc dd H0 H' s := ⟨D.f.trans f.nil, f.to D.h (fun m => nomatch m), D.ok⟩
theorem Dc.new {p : Addr} {o : HO} (D : Dc dd H0 H s) (h : H p = none) : Dc dd H0 (upd H p o) s := D.mv (Fx.new h)
theorem Dc.ne {p : Addr} (D : Dc dd H0 H s) (h : H p = none) : p ≠ dd := (ne_of_none D.h h).symm
theorem Dc.go {s' : Dice} (D : Dc dd H0 H s) (E : Dc dd H H' s') : Dc dd H0 H' s' := ⟨D.f.trans E.f, E.h, E.ok⟩
/-- an object of one's own, new since H0, changed -/
theorem Dc.set {p : Addr} {o : HO} (D : Dc dd H0 H s) (h : H0 p = none) (hn : p ≠ dd) (c : Chg H p) : Dc dd H0 (upd H p o) s := ⟨D.f.loc h c, by rw [upd_ne (Ne.symm hn)]; exact D.h, D.ok⟩
theorem rd_off {n : Int} (hv : σ[i]? = some (some (.ref dd))) (D : Dc dd H0 H s) (hn : 0 < n ∧ n < 1073741824) (q : ∀ H', Dc dd H0 H' (off s n).2 → Fx [dd] H H' → Q (.int (off s n).1) H') :
    tCall (spOff K) [] E0 (tCons (tVar i) (tCons (tC (.int n)) tNil)) σ H Q := by
  refine ⟨.ref dd, hv, dd, s, n, rfl, D.h, D.ok, hn.1, hn.2, ?_⟩
  have f : Fx [dd] H (upd H dd (.lst (off s n).2.l)) := Fx.set List.mem_cons_self (Chg.lst D.h)
  exact q _ ⟨D.f.trans f, upd_same, off_ok D.ok n⟩ f
/-- of two the k-th -/
theorem rd_at2 {p : Addr} {x y : V} {k : Int} (h : H p = some (.lst [x, y])) (hk : 0 ≤ k ∧ k < 2) (q : Q (if k = 0 then x else y) H) : rIxL K (.ref p) (.int k) H Q := by
  rcases (show k = 0 ∨ k = 1 by omega) with rfl | rfl
  · exact ⟨p, _, 0, x, rfl, rfl, SqL.of h, atI_nat (j := 0) rfl, q⟩
  · exact ⟨p, _, 1, y, rfl, rfl, SqL.of h, atI_nat (j := 1) rfl, q⟩
end
/-- a turn of a state again and again -/
def drawN {α : Type} (f : Dice → α × Dice) : Nat → Dice → List α × Dice
  | 0, s => ([], s)
  | n + 1, s => ((drawN f n s).1 ++ [(f (drawN f n s).2).1], (f (drawN f n s).2).2)
theorem drawN_len {α : Type} (f : Dice → α × Dice) : ∀ (n : Nat) (s : Dice), (drawN f n s).1.length = n
  | 0, _ => rfl
  | n + 1, s => by
    show ((drawN f n s).1 ++ [_]).length = n + 1
    rw [List.length_append, drawN_len f n s]
    rfl
theorem drawN_ok {α : Type} {f : Dice → α × Dice} (h : ∀ s, s.ok → (f s).2.ok) : ∀ (n : Nat) {s : Dice}, s.ok → (drawN f n s).2.ok
  | 0, _, o => o
  | n + 1, _, o => h _ (drawN_ok h n o)
theorem drawN_all {α : Type} {f : Dice → α × Dice} {P : α → Prop} (hf : ∀ s, s.ok → (f s).2.ok) (h : ∀ s, s.ok → P (f s).1) : ∀ (n : Nat) {s : Dice}, s.ok → ∀ x ∈ (drawN f n s).1, P x
  | 0, _, _, x, m => nomatch m
  | n + 1, s, o, x, m => by
    rcases List.mem_append.mp (show x ∈ (drawN f n s).1 ++ [_] from m) with m | m
    · exact drawN_all hf h n o x m
    · rw [List.mem_singleton.mp m]
      exact h _ (drawN_ok hf n o)
/-! ### the members of a list, rising -/
def insS (x : Int) : List Int → List Int
  | [] => [x]
  | y :: r => if x < y then x :: y :: r else if x = y then y :: r else y :: insS x r
def sset (xs : List Int) : List Int := xs.foldr insS []
theorem mem_insS (x k : Int) : ∀ l : List Int, k ∈ insS x l ↔ k = x ∨ k ∈ l
  | [] => by simp [insS]
  | y :: r => by
    unfold insS
    split
    · simp
    · split
      · rename_i e
        subst e
        simp
      · rw [List.mem_cons, mem_insS x k r, List.mem_cons]
        constructor
        · rintro (h | h | h) <;> simp [h]
        · rintro (h | h | h) <;> simp [h]
theorem insS_up (x : Int) : ∀ {l : List Int}, l.Pairwise (· < ·) → (insS x l).Pairwise (· < ·)
  | [], _ => by simp [insS]
  | y :: r, h => by
    obtain ⟨h1, h2⟩ := List.pairwise_cons.mp h
    unfold insS
    split
    · rename_i c
      refine List.pairwise_cons.mpr ⟨fun z hz => ?_, h⟩
      rcases List.mem_cons.mp hz with e | e
      · omega
      · have := h1 z e
        omega
    · split
      · exact h
      · refine List.pairwise_cons.mpr ⟨fun z hz => ?_, insS_up x h2⟩
        rcases (mem_insS x z r).mp hz with e | e
        · omega
        · exact h1 z e
theorem mem_sset (k : Int) : ∀ l : List Int, k ∈ sset l ↔ k ∈ l
  | [] => by simp [sset]
  | y :: r => by
    show k ∈ insS y (sset r) ↔ _
    rw [mem_insS, mem_sset k r, List.mem_cons]
theorem sset_up : ∀ l : List Int, (sset l).Pairwise (· < ·)
  | [] => .nil
  | y :: r => insS_up y (sset_up r)
theorem up_unique : ∀ {a b : List Int}, a.Pairwise (· < ·) → b.Pairwise (· < ·) → (∀ k, k ∈ a ↔ k ∈ b) → a = b
  | [], [], _, _, _ => rfl
  | [], y :: r, _, _, h => absurd ((h y).mpr List.mem_cons_self) (by simp)
  | x :: r, [], _, _, h => absurd ((h x).mp List.mem_cons_self) (by simp)
  | x :: a, y :: b, h1, h2, h => by
    obtain ⟨p1, p2⟩ := List.pairwise_cons.mp h1
    obtain ⟨q1, q2⟩ := List.pairwise_cons.mp h2
    have e : x = y := by
      rcases List.mem_cons.mp ((h x).mp List.mem_cons_self) with e | e
      · exact e
      · rcases List.mem_cons.mp ((h y).mpr List.mem_cons_self) with e2 | e2
        · exact e2.symm
        · have := q1 x e
          have := p1 y e2
          omega
    subst e
    refine congrArg _ (up_unique p2 q2 fun k => ?_)
    constructor
    · intro m
      rcases List.mem_cons.mp ((h k).mp (List.mem_cons_of_mem _ m)) with e | e
      · have := p1 k m
        omega
      · exact e
    · intro m
      rcases List.mem_cons.mp ((h k).mpr (List.mem_cons_of_mem _ m)) with e | e
      · have := q1 k m
        omega
      · exact e
theorem rising_of : ∀ {l : List Int}, l.Pairwise (· < ·) → rising l = true
  | [], _ => rfl
  | [_], _ => rfl
  | x :: y :: r, h => by
    obtain ⟨h1, h2⟩ := List.pairwise_cons.mp h
    show (decide (x < y) && rising (y :: r)) = true
    rw [rising_of h2, decide_eq_true (h1 y List.mem_cons_self)]
    rfl
theorem insS_len (x : Int) : ∀ l : List Int, (insS x l).length ≤ l.length + 1 ∧ 1 ≤ (insS x l).length
  | [] => ⟨Nat.le_refl _, Nat.le_refl _⟩
  | y :: r => by
    unfold insS
    split
    · simp
    · split
      · simp
      · have := insS_len x r
        simp
        omega
theorem sset_len : ∀ l : List Int, (sset l).length ≤ l.length ∧ (l ≠ [] → 1 ≤ (sset l).length)
  | [] => ⟨Nat.le_refl _, fun h => absurd rfl h⟩
  | y :: r => by
    have h1 := insS_len y (sset r)
    have h2 := sset_len r
    exact ⟨by show (insS y (sset r)).length ≤ _; simp; omega, fun _ => h1.2⟩
/-! ### a drawn test, answer, machine -/
def pick2 (s : Dice) (a b : Int) : Int × Dice := (if (off (off (off s a).2 b).2 2).1 = 0 then (off s a).1 else (off (off s a).2 b).1, (off (off (off s a).2 b).2 2).2)
/-- off(d, [a, b][off(d, 2)]) -/
def offOf (s : Dice) (a b : Int) : Int × Dice := off (off s 2).2 (if (off s 2).1 = 0 then a else b)
def gTest (s : Dice) : Tst × Dice :=
  if (off s 6).1 = 0 then (.below (pick2 (off s 6).2 12 10000).1, (pick2 (off s 6).2 12 10000).2)
  else if (off s 6).1 < 3 then
    (if (off s 6).1 = 1 then .rest (2 + (offOf (off s 6).2 3 98).1) (off (offOf (off s 6).2 3 98).2 (2 + (offOf (off s 6).2 3 98).1)).1 else .chance (2 + (offOf (off s 6).2 3 98).1) (off (offOf (off s 6).2 3 98).2 (2 + (offOf (off s 6).2 3 98).1)).1,
      (off (offOf (off s 6).2 3 98).2 (2 + (offOf (off s 6).2 3 98).1)).2)
  else if (off s 6).1 = 3 then
    (.known (sset (drawN (fun s => off s 12) (1 + (off (off s 6).2 8).1).toNat (off (off s 6).2 8).2).1), (drawN (fun s => off s 12) (1 + (off (off s 6).2 8).1).toNat (off (off s 6).2 8).2).2)
  else (if (off s 6).1 = 4 then .any else .chance 2 (off (off s 6).2 2).1, (off (off s 6).2 2).2)
theorem pick2_ok {s : Dice} (h : s.ok) (a b : Int) : (pick2 s a b).2.ok := off_ok (off_ok (off_ok h a) b) 2
theorem offOf_ok {s : Dice} (h : s.ok) (a b : Int) : (offOf s a b).2.ok := off_ok (off_ok h 2) _
theorem offOf_range (s : Dice) {a b : Int} (ha : 0 < a) (hb : 0 < b) : 0 ≤ (offOf s a b).1 ∧ ((offOf s a b).1 < a ∨ (offOf s a b).1 < b) := by
  unfold offOf
  split
  · have := off_range (off s 2).2 ha
    omega
  · have := off_range (off s 2).2 hb
    omega
theorem pick2_range (s : Dice) {a b : Int} (ha : 0 < a) (hb : 0 < b) : 0 ≤ (pick2 s a b).1 ∧ ((pick2 s a b).1 < a ∨ (pick2 s a b).1 < b) := by
  have h1 := off_range s ha
  have h2 := off_range (off s a).2 hb
  show 0 ≤ (if (off (off (off s a).2 b).2 2).1 = 0 then (off s a).1 else (off (off s a).2 b).1) ∧ _
  unfold pick2
  dsimp only
  split <;> omega
theorem gTest_dice {s : Dice} (h : s.ok) : (gTest s).2.ok := by
  unfold gTest
  split
  · exact pick2_ok (off_ok h 6) _ _
  · split
    · exact off_ok (offOf_ok (off_ok h 6) _ _) _
    · split
      · exact drawN_ok (fun s o => off_ok o 12) _ (off_ok (off_ok h 6) 8)
      · exact off_ok (off_ok h 6) 2
theorem gTest_ok {s : Dice} (h : s.ok) : (gTest s).1.ok := by
  have r6 := off_range s (n := 6) (by decide)
  unfold gTest
  split
  · have := pick2_range (off s 6).2 (a := 12) (b := 10000) (by decide) (by decide)
    show _ ∧ _
    omega
  · split
    · have r := offOf_range (off s 6).2 (a := 3) (b := 98) (by decide) (by decide)
      have r2 := off_range (offOf (off s 6).2 3 98).2 (n := 2 + (offOf (off s 6).2 3 98).1) (by omega)
      dsimp only
      split
      · exact ⟨by omega, by omega, r2.1, r2.2⟩
      · exact ⟨by omega, by omega, r2.1, r2.2⟩
    · split
      · have r := off_range (off s 6).2 (n := 8) (by decide)
        have l := drawN_len (fun s => off s 12) (1 + (off (off s 6).2 8).1).toNat (off (off s 6).2 8).2
        have sl := sset_len (drawN (fun s => off s 12) (1 + (off (off s 6).2 8).1).toNat (off (off s 6).2 8).2).1
        refine ⟨sl.2 fun z => ?_, by omega, fun k hk => ?_, rising_of (sset_up _)⟩
        · rw [z] at l
          have : (0 : Nat) = (1 + (off (off s 6).2 8).1).toNat := l
          omega
        · have a := drawN_all (P := fun x => 0 ≤ x ∧ x < 12) (f := fun s => off s 12) (fun s o => off_ok o 12) (fun s _ => off_range s (by decide)) _ (off_ok (off_ok h 6) 8) k ((mem_sset k _).mp hk)
          omega
      · dsimp only
        split
        · trivial
        · have r2 := off_range (off s 6).2 (n := 2) (by decide)
          exact ⟨by decide, by decide, r2.1, r2.2⟩
end Mh
/-! MhGenB -/
namespace Mh
open PySem PySem.Spec PyProof.Rows L2
section
variable {K : PySem.W.Frag} {dd : Addr} {H0 H H' : Hp} {s : Dice} {σ : L2.St} {Q : VK} {E : XK} {i : Nat}
theorem off_sp {n : Int} (D : Dc dd H0 H s) (hn : 0 < n ∧ n < 1073741824) (q : ∀ H', Dc dd H0 H' (off s n).2 → Fx [dd] H H' → Q (.int (off s n).1) H') : spOff K [.ref dd, .int n] H Q E := by
  refine ⟨dd, s, n, rfl, D.h, D.ok, hn.1, hn.2, ?_⟩
  have f : Fx [dd] H (upd H dd (.lst (off s n).2.l)) := Fx.set List.mem_cons_self (Chg.lst D.h)
  exact q _ ⟨D.f.trans f, upd_same, off_ok D.ok n⟩ f
theorem rd_offV {n : Int} {j : Nat} (hv : σ[i]? = some (some (.ref dd))) (hw : σ[j]? = some (some (.int n))) (D : Dc dd H0 H s) (hn : 0 < n ∧ n < 1073741824) (q : ∀ H', Dc dd H0 H' (off s n).2 → Fx [dd] H H' → Q (.int (off s n).1) H') :
    tCall (spOff K) [] E0 (tCons (tVar i) (tCons (tVar j) tNil)) σ H Q := ⟨.ref dd, hv, .int n, hw, off_sp (K := K) (E := E0) D hn q⟩
theorem rd_yes {A B : Hp → Prop} (h : A H) : tYes σ H fun b H3 => if b = true then A H3 else B H3 := by
  show if true = true then A H else B H
  rw [if_pos rfl]
  exact h
theorem rd_at2I {p : Addr} {a b : Int} {k : Int} (h : H p = some (.lst [.int a, .int b])) (hk : 0 ≤ k ∧ k < 2) (q : Q (.int (if k = 0 then a else b)) H) : rIxL K (.ref p) (.int k) H Q := by
  refine rd_at2 h hk ?_
  split
  · rename_i e
    rw [if_pos e] at q
    exact q
  · rename_i e
    rw [if_neg e] at q
    exact q
/-- [off(d, a), off(d, b)][off(d, 2)] -/
theorem rd_pick2 {a b : Int} (hv : σ[i]? = some (some (.ref dd))) (D : Dc dd H0 H s) (ha : 0 < a ∧ a < 1073741824) (hb : 0 < b ∧ b < 1073741824) (q : ∀ H', Dc dd H0 H' (pick2 s a b).2 → Fx [dd] H H' → Q (.int (pick2 s a b).1) H') :
    tOp (rIxL K) (tLst (tCons (tCall (spOff K) [] E0 (tCons (tVar i) (tCons (tC (.int a)) tNil))) (tCons (tCall (spOff K) [] E0 (tCons (tVar i) (tCons (tC (.int b)) tNil))) tNil))) (tCall (spOff K) [] E0 (tCons (tVar i) (tCons (tC (.int 2)) tNil))) σ H Q := by
  refine rd_off hv D ha fun H1 D1 f1 => rd_off hv D1 hb fun H2 D2 f2 => ⟨by show 2 ≤ sizeLine; decide, fun p hp => ?_⟩
  refine rd_off hv (D2.new hp) ⟨by decide, by decide⟩ fun H3 D3 f3 => ?_
  have f : Fx [dd] H H3 := ((f1.trans f2).trans (Fx.new hp)).trans f3
  exact rd_at2I (f3.to upd_same fun m => D2.ne hp (List.mem_singleton.mp m)) (off_range _ (by decide)) (q H3 D3 f)
/-- off(d, [a, b][off(d, 2)]) -/
theorem rd_offOf {a b : Int} (hv : σ[i]? = some (some (.ref dd))) (D : Dc dd H0 H s) (ha : 0 < a ∧ a < 1073741824) (hb : 0 < b ∧ b < 1073741824) (q : ∀ H', Dc dd H0 H' (offOf s a b).2 → Fx [dd] H H' → Q (.int (offOf s a b).1) H') :
    tCall (spOff K) [] E0 (tCons (tVar i) (tCons (tOp (rIxL K) (tLst (tCons (tC (.int a)) (tCons (tC (.int b)) tNil))) (tCall (spOff K) [] E0 (tCons (tVar i) (tCons (tC (.int 2)) tNil)))) tNil)) σ H Q := by
  refine ⟨.ref dd, hv, ⟨by show 2 ≤ sizeLine; decide, fun p hp => ?_⟩⟩
  refine rd_off hv (D.new hp) ⟨by decide, by decide⟩ fun H3 D3 f3 => ?_
  refine rd_at2I (f3.to upd_same fun m => D.ne hp (List.mem_singleton.mp m)) (off_range _ (by decide)) (off_sp (K := K) (E := E0) D3 ?_ fun H4 D4 f4 => q H4 D4 (((Fx.new hp).trans f3).trans f4))
  split
  · exact ha
  · exact hb
end
theorem Dp.ints {K : PySem.W.Frag} {H : Hp} : ∀ ns : List Int, DpAll K H (ns.map V.int) (ns.map .int)
  | [] => .nil
  | n :: ns => .cons (.int n) (Dp.ints ns)
theorem rd_tup {σ : L2.St} {H : Hp} {Q : VK} {xs : List V} {n : Nat} (h : xs.length ≤ n) (hn : n ≤ 1000) (q : ∀ p, H p = none → Q (.ref p) (upd H p (.tup xs))) : xs.length ≤ sizeLine ∧ ∀ p, H p = none → Q (.ref p) (upd H p (.tup xs)) := ⟨sz2 (Nat.le_trans h hn), q⟩
theorem floor_rest (w m : Int) (hm : 0 < m) : w - w / m * m = w % m := by
  have := Int.mul_ediv_add_emod w m
  rw [Int.mul_comm] at this
  omega
theorem DpAll.two {K : PySem.W.Frag} {H : Hp} {xs : List V} {d1 d2 : PyData} (h : DpAll K H xs [d1, d2]) : ∃ v1 v2, xs = [v1, v2] ∧ Dp K H v1 d1 ∧ Dp K H v2 d2 := by
  cases h with | cons h1 t => cases t with | cons h2 t => cases t; exact ⟨_, _, rfl, h1, h2⟩
theorem ltL {n m : Nat} (h : n = m) (hm : m ≤ 1000) : n < sizeLine := Nat.lt_of_le_of_lt (h ▸ hm) (by decide)
abbrev kS (z : Str) : Key := .inr z
theorem shaped_ints (ns : List Int) : SeqAt.shaped (.list (ns.map .int)) = true := by
  obtain ⟨h1, h2⟩ := lay_ints ns
  show (PyData.canLay0 (.list (ns.map .int)) && decide (PyData.depth (.list (ns.map .int)) ≤ 64)) = true
  rw [Bool.and_eq_true_iff]
  refine ⟨by simp only [PyData.canLay0]; exact h1, decide_eq_true ?_⟩
  simp only [PyData.depth]
  omega
theorem Dp.lsti {K : PySem.W.Frag} {H : Hp} {a : Addr} {ns : List Int} (h : H a = some (.lst (ns.map V.int))) : Dp K H (.ref a) (.list (ns.map .int)) := .lst (SqL.of h) (Dp.ints ns)
theorem ne_nilL (K : PySem.W.Frag) {H : Hp} {Q : VK} {a b : Addr} {ns : List Int} (h : H a = some (.lst (ns.map V.int))) (hb : H b = some (.lst [])) (q : Q (.bl (!ns.isEmpty)) H) : rNeD K (.ref a) (.ref b) H Q := by
  refine ⟨_, .list [], Dp.lsti h, .lst (SqL.of hb) .nil, shaped_ints ns, by decide +kernel, ?_⟩
  have e : (!PyData.eqv (.list (ns.map .int)) (.list [])) = !ns.isEmpty := by
    cases ns with
    | nil => simp [PyData.eqv, PyData.eqvAll]
    | cons n ns => simp [PyData.eqv, PyData.eqvAll]
  rw [e]
  exact q
end Mh
/-! MhGen2 -/
namespace Mh
open PySem PySem.Spec PyProof.Rows L2
def spGTest (K : PySem.W.Frag) : Sp := fun vs H Q _ => ∃ dd s, vs = [.ref dd] ∧ H dd = some (.lst (Dice.l s)) ∧ s.ok ∧ ∀ H' v, Dc dd H H' (gTest s).2 → Dp K H' v (gTest s).1.d → Q v H'
theorem sc_l_test : FnScope ["_law_d", "_law_kind", "_law_m", "_law_k"] ["_law_d"] (defScope s_l_test) := ⟨rfl, rfl, rfl, by decide +kernel, rfl, by decide +kernel, by decide +kernel⟩
theorem ok_l_test {P : Program} {w : World} {K : PySem.W.Frag} {mg : Str → Option Value} {base : Heap} (T : Tx K mg) : Def P w K mg base CX0 2 "_law_test" ["_law_d"] (spGTest K) := by
  obtain ⟨fd, F⟩ := T.d_l_test
  have G__law_off := ok_l_off (P := P) (w := w) (base := base) T
  refine ⟨_, fd, F.ok sc_l_test (fun vs H Q E h => ?_) (fun cdv A outer s H vs Q E hr h => ?_), F.bindsN fun _ _ _ _ _ _ us hl => match us, hl with | [_], _ => rfl, T.g_l_test, F.kp⟩
  · obtain ⟨d, s, rfl, _⟩ := h
    rfl
  · obtain ⟨dd, s, rfl, hd, hs, q⟩ := h
    refine ⟨_, PSs.nox (pss_cons (ps_set (i := 1) sc_l_test.nd rfl (by first | exact Or.inl rfl | exact Or.inr rfl) (pe_def G__law_off (hr.mono (by omega)) pass0 (pa_cons (pv 0) (pa_cons pe_int pa_nil))))
        (pss_cons (ps_if (pt_cmpR op_eq (pv 1) pe_int (nomark _))
        (pss_one (ps_ret (pe_tup (pa_cons pe_str (pa_cons (pe_ix ix_list (pe_lst (pa_cons (pe_def G__law_off (hr.mono (by omega)) pass0 (pa_cons (pv 0) (pa_cons pe_int pa_nil))) (pa_cons (pe_def G__law_off (hr.mono (by omega)) pass0 (pa_cons (pv 0) (pa_cons pe_int pa_nil))) pa_nil))) (pe_def G__law_off (hr.mono (by omega)) pass0 (pa_cons (pv 0) (pa_cons pe_int pa_nil))) (fun _ _ => rfl)) pa_nil)))))
        pss_nil)
        (pss_cons (ps_if (pt_cmpR op_lt (pv 1) pe_int (nomark _))
        (pss_cons (ps_set (i := 2) sc_l_test.nd rfl (by first | exact Or.inl rfl | exact Or.inr rfl) (pe_op op_add pe_int (pe_def G__law_off (hr.mono (by omega)) pass0 (pa_cons (pv 0) (pa_cons (pe_ix ix_list (pe_lst (pa_cons pe_int (pa_cons pe_int pa_nil))) (pe_def G__law_off (hr.mono (by omega)) pass0 (pa_cons (pv 0) (pa_cons pe_int pa_nil))) (fun _ _ => rfl)) pa_nil)))))
        (pss_one (ps_ret (pe_tup (pa_cons (pe_ix ix_list (pe_lst (pa_cons pe_str (pa_cons pe_str pa_nil))) (pe_op op_sub (pv 1) pe_int) (fun _ _ => rfl)) (pa_cons (pv 2) (pa_cons (pe_def G__law_off (hr.mono (by omega)) pass0 (pa_cons (pv 0) (pa_cons (pv 2) pa_nil))) pa_nil)))))))
        pss_nil)
        (pss_cons (ps_if (pt_cmpR op_eq (pv 1) pe_int (nomark _))
        (pss_one (ps_ret (pe_tup (pa_cons pe_str (pa_cons (pe_callTy call_tuple_of (by rfl) T.f_tuple (by decide +kernel) (pa_cons (pe_callB (cr_sortedSet rfl) (by rfl) T.f_sorted (by decide +kernel) (pa_cons (pe_callTy (cr_setL rfl) (by rfl) T.f_set (by decide +kernel) (pa_cons (pe_lc (own := [("_law_k", 3)]) (g := (gName 3)) (tt := tYes) rfl sc_l_test.nd (pi_range1 rfl T.f_range (pa_cons (pe_op op_add pe_int (pe_def G__law_off (hr.mono (by omega)) pass0 (pa_cons (pv 0) (pa_cons pe_int pa_nil)))) pa_nil)) (blkOk_by (own := [("_law_k", 3)]) (N := ["_law_d", "_law_kind", "_law_m", "_law_k"]) (sc := defScope s_l_test) (by decide +kernel)) (fun _ _ _ _ _ => pg_name (i := 3) sc_l_test.nd rfl (by first | exact Or.inl rfl | exact Or.inr rfl)) (fun _ _ _ _ _ => pts_nil) (fun _ _ _ _ _ => (pe_def G__law_off (hr.mono (by omega)) pass0 (pa_cons (pv 0) (pa_cons pe_int pa_nil))))) pa_nil)) pa_nil)) pa_nil)) pa_nil)))))
        pss_nil)
        (pss_one (ps_ret (pe_ix ix_list (pe_lst (pa_cons (pe_tup (pa_cons pe_str pa_nil)) (pa_cons (pe_tup (pa_cons pe_str (pa_cons pe_int (pa_cons (pe_def G__law_off (hr.mono (by omega)) pass0 (pa_cons (pv 0) (pa_cons pe_int pa_nil))) pa_nil)))) pa_nil))) (pe_op op_sub (pv 1) pe_int) (fun _ _ => rfl)))))))), ?_⟩
    refine rd_off rfl (s := s) ⟨Fx.refl, hd, hs⟩ ⟨by decide, by decide⟩ fun H1 D1 _ => ?_
    have r6 := off_range s (n := 6) (by decide)
    refine ⟨_, rfl, rd_eqI ⟨_, rfl, ifB (fun c => ?_) (fun c => ?_)⟩⟩
    · have c' : (off s 6).1 = 0 := by simpa using c
      have e : gTest s = (.below (pick2 (off s 6).2 12 10000).1, (pick2 (off s 6).2 12 10000).2) := if_pos c'
      rw [e] at q
      refine rd_pick2 rfl D1 ⟨by decide, by decide⟩ ⟨by decide, by decide⟩ fun H2 D2 _ => ⟨by show 2 ≤ sizeLine; decide, fun p hp => ?_⟩
      exact q _ _ (D2.new hp) (.tup (SqT.of upd_same) (.cons (.str _) (.cons (.int _) .nil)))
    have c0 : ¬ (off s 6).1 = 0 := by simpa using c
    refine ⟨_, rfl, _, _, rfl, rfl, _, rfl, ifB (fun c => ?_) (fun c => ?_)⟩
    · have c1 : (off s 6).1 < 3 := of_decide_eq_true c
      have e : gTest s = (if (off s 6).1 = 1 then .rest (2 + (offOf (off s 6).2 3 98).1) (off (offOf (off s 6).2 3 98).2 (2 + (offOf (off s 6).2 3 98).1)).1 else .chance (2 + (offOf (off s 6).2 3 98).1) (off (offOf (off s 6).2 3 98).2 (2 + (offOf (off s 6).2 3 98).1)).1,
        (off (offOf (off s 6).2 3 98).2 (2 + (offOf (off s 6).2 3 98).1)).2) := (if_neg c0).trans (if_pos c1)
      have ro := offOf_range (off s 6).2 (a := 3) (b := 98) (by decide) (by decide)
      refine rd_offOf rfl D1 ⟨by decide, by decide⟩ ⟨by decide, by decide⟩ fun H2 D2 _ => ⟨_, _, rfl, rfl, ⟨by show 2 ≤ sizeLine; decide, fun p hp => ?_⟩⟩
      have D2' := D2.new (o := HO.lst [V.str "rest", V.str "chance"]) hp
      refine ⟨_, rfl, _, _, rfl, rfl, rd_at2 upd_same (by omega) ⟨_, rfl, ?_⟩⟩
      refine rd_offV (n := 2 + (offOf (off s 6).2 3 98).1) rfl rfl D2' (by omega) fun H3 D3 f3 => ⟨by show 3 ≤ sizeLine; decide, fun p2 hp2 => ?_⟩
      refine q _ _ (by rw [e]; exact D3.new hp2) ?_
      rw [e]
      rcases (show (off s 6).1 = 1 ∨ (off s 6).1 = 2 by omega) with k | k
      · rw [k]
        exact .tup (SqT.of upd_same) (.cons (.str _) (.cons (.int _) (.cons (.int _) .nil)))
      · rw [k]
        exact .tup (SqT.of upd_same) (.cons (.str _) (.cons (.int _) (.cons (.int _) .nil)))
    have c1 : ¬ (off s 6).1 < 3 := of_decide_eq_false c
    refine ⟨_, rfl, rd_eqI ⟨_, rfl, ifB (fun c => ?_) (fun c => ?_)⟩⟩
    · have c2 : (off s 6).1 = 3 := by simpa using c
      have e : gTest s = (.known (sset (drawN (fun s => off s 12) (1 + (off (off s 6).2 8).1).toNat (off (off s 6).2 8).2).1), (drawN (fun s => off s 12) (1 + (off (off s 6).2 8).1).toNat (off (off s 6).2 8).2).2) := (if_neg c0).trans ((if_neg c1).trans (if_pos c2))
      rw [e] at q
      have r8 := off_range (off s 6).2 (n := 8) (by decide)
      refine rd_off rfl D1 ⟨by decide, by decide⟩ fun H2 D2 _ => ⟨_, _, rfl, rfl, _, rfl, by omega, by omega, fun D hD => ?_⟩
      have nD : D ≠ dd := D2.ne hD
      refine lc_rel walk_range (fun i acc H3 => Dc dd H2 H3 (drawN (fun s => off s 12) i (off (off s 6).2 8).2).2 ∧ acc = (drawN (fun s => off s 12) i (off (off s 6).2 8).2).1.map V.int) ⟨Dc.new ⟨Fx.refl, D2.h, D2.ok⟩ hD, rfl⟩ (fun _ _ _ _ => trivial) (fun i acc x H3 H4 hi hl hDa r y => ?_) (fun acc H3 hl hDa r => ?_)
      · obtain ⟨rfl, rfl⟩ := y
        obtain ⟨D3, rfl⟩ := r
        refine ⟨rfl, rd_yes (rd_off rfl D3 ⟨by decide, by decide⟩ fun H5 D5 f5 => ?_)⟩
        have hD5 := f5.to hDa fun m => nD (List.mem_singleton.mp m)
        refine Put.ok hl (by omega) hD5 ⟨D5.set hD nD (Chg.lst hD5), ?_⟩
        show _ = List.map V.int ((drawN _ i _).1 ++ [_])
        rw [List.map_append]
        rfl
      · obtain ⟨D3, rfl⟩ := r
        have ll := drawN_len (fun s => off s 12) (1 + (off (off s 6).2 8).1).toNat (off (off s 6).2 8).2
        refine ⟨D, _, rfl, SqL.of hDa, by omega, fun a n ha hn => ⟨a, _, n, rfl, upd_same, by omega, fun ns p hup hmem hlen hp => ?_⟩⟩
        have en : ns = sset (drawN (fun s => off s 12) (1 + (off (off s 6).2 8).1).toNat (off (off s 6).2 8).2).1 := up_unique hup (sset_up _) fun k => by
          rw [hmem k, mem_sset]
          exact decide_eq_true_iff
        refine ⟨p, _, rfl, .inl ⟨SqL.of upd_same, fun l hl2 => ⟨by show 2 ≤ sizeLine; decide, fun t ht => ?_⟩⟩⟩
        have Df := (((D2.go D3).new ha).new hp).new (o := HO.tup (ns.map V.int)) hl2
        refine q _ _ (Df.new ht) ?_
        rw [en] at ht ⊢
        refine .tup (SqT.of upd_same) (.cons (.str _) (.cons (.tup (SqT.of ?_) (Dp.ints _)) .nil))
        rw [upd_ne (ne_of_none upd_same ht)]
        exact upd_same
    · have c2 : ¬ (off s 6).1 = 3 := by simpa using c
      have e : gTest s = (if (off s 6).1 = 4 then .any else .chance 2 (off (off s 6).2 2).1, (off (off s 6).2 2).2) := (if_neg c0).trans ((if_neg c1).trans (if_neg c2))
      refine ⟨by show 1 ≤ sizeLine; decide, fun p hp => ?_⟩
      refine rd_off rfl (D1.new hp) ⟨by decide, by decide⟩ fun H2 D2 f2 => ⟨by show 3 ≤ sizeLine; decide, fun p2 hp2 => ⟨by show 2 ≤ sizeLine; decide, fun l hl => ⟨_, rfl, _, _, rfl, rfl, ?_⟩⟩⟩
      have Df := (D2.new (o := HO.tup [V.str "chance", V.int 2, V.int (off (off s 6).2 2).1]) hp2).new (o := HO.lst [V.ref p, V.ref p2]) hl
      have hpp : p ≠ dd := D1.ne hp
      have hp' := f2.to upd_same fun m => hpp (List.mem_singleton.mp m)
      refine rd_at2 upd_same (by omega) ?_
      refine q _ _ (by rw [e]; exact Df) ?_
      rw [e]
      rcases (show (off s 6).1 = 4 ∨ (off s 6).1 = 5 by omega) with k | k
      · rw [k]
        refine .tup (SqT.of (xs := [.str "any"]) ?_) (.cons (.str _) .nil)
        have n1 : p ≠ p2 := ne_of_none hp' hp2
        have h1 : (upd H2 p2 (HO.tup [V.str "chance", V.int 2, V.int (off (off s 6).2 2).1])) p = some (.tup [.str "any"]) := by rw [upd_ne n1]; exact hp'
        rw [upd_ne (ne_of_none h1 hl)]
        exact h1
      · rw [k]
        refine .tup (SqT.of (xs := [.str "chance", .int 2, .int (off (off s 6).2 2).1]) ?_) (.cons (.str _) (.cons (.int _) (.cons (.int _) .nil)))
        rw [upd_ne (ne_of_none upd_same hl)]
        exact upd_same
end Mh
/-! MhGen3 -/
namespace Mh
open PySem PySem.Spec PyProof.Rows L2
def gN (s : Dice) : Int × Dice := (if (off (off (off s 7).2 19999).2 4).1 = 0 then (off (off s 7).2 19999).1 - 9999 else (off s 7).1 - 2, (off (off (off s 7).2 19999).2 4).2)
def gAns (s : Dice) : Ans × Dice :=
  if (off s 5).1 = 3 then (.rest (2 + (off (gN (off s 5).2).2 98).1), (off (gN (off s 5).2).2 98).2)
  else (if (off s 5).1 = 4 then .none else if (off s 5).1 = 0 then .num (gN (off s 5).2).1 else if (off s 5).1 = 1 then .plus (gN (off s 5).2).1 else .times (gN (off s 5).2).1, (gN (off s 5).2).2)
theorem gN_ok {s : Dice} (h : s.ok) : (gN s).2.ok := off_ok (off_ok (off_ok h _) _) _
theorem gN_range (s : Dice) : -9999 ≤ (gN s).1 ∧ (gN s).1 ≤ 9999 := by
  have h1 := off_range s (n := 7) (by decide)
  have h2 := off_range (off s 7).2 (n := 19999) (by decide)
  unfold gN
  dsimp only
  split <;> omega
theorem gAns_dice {s : Dice} (h : s.ok) : (gAns s).2.ok := by
  unfold gAns
  split
  · exact off_ok (gN_ok (off_ok h 5)) _
  · exact gN_ok (off_ok h 5)
theorem gAns_ok {s : Dice} (h : s.ok) : (gAns s).1.ok := by
  have h1 := gN_range (off s 5).2
  have h2 := off_range (gN (off s 5).2).2 (n := 98) (by decide)
  unfold gAns
  split
  · show _ ∧ _
    omega
  · dsimp only
    split
    · trivial
    · split
      · exact h1
      · split
        · exact h1
        · exact h1
def spGAns (K : PySem.W.Frag) : Sp := fun vs H Q _ => ∃ dd s, vs = [.ref dd] ∧ H dd = some (.lst (Dice.l s)) ∧ s.ok ∧ ∀ H' v, Dc dd H H' (gAns s).2 → Dp K H' v (gAns s).1.d → Q v H'
theorem rd_at3 {K : PySem.W.Frag} {H : Hp} {Q : VK} {p : Addr} {x y z : V} {k : Int} (h : H p = some (.lst [x, y, z])) (hk : 0 ≤ k ∧ k < 3) (q : Q (if k = 0 then x else if k = 1 then y else z) H) : rIxL K (.ref p) (.int k) H Q := by
  rcases (show k = 0 ∨ k = 1 ∨ k = 2 by omega) with rfl | rfl | rfl
  · exact ⟨p, _, 0, x, rfl, rfl, SqL.of h, atI_nat (j := 0) rfl, q⟩
  · exact ⟨p, _, 1, y, rfl, rfl, SqL.of h, atI_nat (j := 1) rfl, q⟩
  · exact ⟨p, _, 2, z, rfl, rfl, SqL.of h, atI_nat (j := 2) rfl, q⟩
theorem sc_l_answer : FnScope ["_law_d", "_law_kind", "_law_n"] ["_law_d"] (defScope s_l_answer) := ⟨rfl, rfl, rfl, by decide +kernel, rfl, by decide +kernel, by decide +kernel⟩
theorem ok_l_answer {P : Program} {w : World} {K : PySem.W.Frag} {mg : Str → Option Value} {base : Heap} (T : Tx K mg) : Def P w K mg base CX0 2 "_law_answer" ["_law_d"] (spGAns K) := by
  obtain ⟨fd, F⟩ := T.d_l_answer
  have G__law_off := ok_l_off (P := P) (w := w) (base := base) T
  refine ⟨_, fd, F.ok sc_l_answer (fun vs H Q E h => ?_) (fun cdv A outer s H vs Q E hr h => ?_), F.bindsN fun _ _ _ _ _ _ us hl => match us, hl with | [_], _ => rfl, T.g_l_answer, F.kp⟩
  · obtain ⟨d, s, rfl, _⟩ := h
    rfl
  · obtain ⟨dd, s, rfl, hd, hs, q⟩ := h
    refine ⟨_, PSs.nox (pss_cons (ps_set (i := 1) sc_l_answer.nd rfl (by first | exact Or.inl rfl | exact Or.inr rfl) (pe_def G__law_off (hr.mono (by omega)) pass0 (pa_cons (pv 0) (pa_cons pe_int pa_nil))))
        (pss_cons (ps_set (i := 2) sc_l_answer.nd rfl (by first | exact Or.inl rfl | exact Or.inr rfl) (pe_ix ix_list (pe_lst (pa_cons (pe_op op_sub (pe_def G__law_off (hr.mono (by omega)) pass0 (pa_cons (pv 0) (pa_cons pe_int pa_nil))) pe_int) (pa_cons (pe_op op_sub (pe_def G__law_off (hr.mono (by omega)) pass0 (pa_cons (pv 0) (pa_cons pe_int pa_nil))) pe_int) pa_nil))) (pe_callTy call_int1 (by rfl) T.f_int (by decide +kernel) (pa_cons (pe_cmpR op_eq (pe_def G__law_off (hr.mono (by omega)) pass0 (pa_cons (pv 0) (pa_cons pe_int pa_nil))) pe_int (nomark _)) pa_nil)) (fun _ _ => rfl)))
        (pss_cons (ps_if (pt_cmpR op_eq (pv 1) pe_int (nomark _))
        (pss_one (ps_ret (pe_tup (pa_cons pe_str (pa_cons (pe_op op_add pe_int (pe_def G__law_off (hr.mono (by omega)) pass0 (pa_cons (pv 0) (pa_cons pe_int pa_nil)))) pa_nil)))))
        pss_nil)
        (pss_one (ps_ret (pe_ifExp (pt_cmpR op_eq (pv 1) pe_int (nomark _)) (pe_tup (pa_cons pe_str pa_nil)) (pe_tup (pa_cons (pe_ix ix_list (pe_lst (pa_cons pe_str (pa_cons pe_str (pa_cons pe_str pa_nil)))) (pv 1) (fun _ _ => rfl)) (pa_cons (pv 2) pa_nil))))))))), ?_⟩
    refine rd_off rfl (s := s) ⟨Fx.refl, hd, hs⟩ ⟨by decide, by decide⟩ fun H1 D1 _ => ?_
    have r5 := off_range s (n := 5) (by decide)
    refine rd_off rfl D1 ⟨by decide, by decide⟩ fun H2 D2 _ => ⟨_, _, rfl, rfl, ?_⟩
    refine rd_off rfl D2 ⟨by decide, by decide⟩ fun H3 D3 _ => ⟨_, _, rfl, rfl, by show 2 ≤ sizeLine; decide, fun p hp => ?_⟩
    refine rd_off rfl (D3.new hp) ⟨by decide, by decide⟩ fun H4 D4 f4 => rd_eqI (.inr ⟨_, rfl, ?_⟩)
    refine rd_at2I (f4.to upd_same fun m => D3.ne hp (List.mem_singleton.mp m)) (by split <;> omega) ?_
    have en : (if (if ((off (off (off (off s 5).2 7).2 19999).2 4).1 == 0) = true then (1 : Int) else 0) = 0 then (off (off s 5).2 7).1 - 2 else (off (off (off s 5).2 7).2 19999).1 - 9999) = (gN (off s 5).2).1 := by
      unfold gN
      dsimp only
      by_cases c : (off (off (off (off s 5).2 7).2 19999).2 4).1 = 0
      · simp [c]
      · simp [c]
    rw [en]
    have D4 : Dc dd H H4 (gN (off s 5).2).2 := D4
    refine ⟨_, rfl, rd_eqI ⟨_, rfl, ifB (fun c => ?_) (fun c => ?_)⟩⟩
    · have c' : (off s 5).1 = 3 := by simpa using c
      have e : gAns s = (.rest (2 + (off (gN (off s 5).2).2 98).1), (off (gN (off s 5).2).2 98).2) := if_pos c'
      rw [e] at q
      refine rd_off rfl D4 ⟨by decide, by decide⟩ fun H5 D5 _ => ⟨_, _, rfl, rfl, by show 2 ≤ sizeLine; decide, fun p2 hp2 => ?_⟩
      exact q _ _ (D5.new hp2) (.tup (SqT.of upd_same) (.cons (.str _) (.cons (.int _) .nil)))
    · have c' : ¬ (off s 5).1 = 3 := by simpa using c
      have e : gAns s = (if (off s 5).1 = 4 then .none else if (off s 5).1 = 0 then .num (gN (off s 5).2).1 else if (off s 5).1 = 1 then .plus (gN (off s 5).2).1 else .times (gN (off s 5).2).1, (gN (off s 5).2).2) := if_neg c'
      refine ⟨_, rfl, rd_eqI ⟨_, rfl, ifB (fun c => ?_) (fun c => ?_)⟩⟩
      · have c2 : (off s 5).1 = 4 := by simpa using c
        rw [e, if_pos c2] at q
        refine ⟨by show 1 ≤ sizeLine; decide, fun p2 hp2 => ?_⟩
        exact q _ _ (D4.new hp2) (.tup (SqT.of upd_same) (.cons (.str _) .nil))
      · have c2 : ¬ (off s 5).1 = 4 := by simpa using c
        rw [e, if_neg c2] at q
        refine ⟨by show 3 ≤ sizeLine; decide, fun p2 hp2 => ⟨_, rfl, rd_at3 upd_same (by omega) ⟨_, rfl, by show 2 ≤ sizeLine; decide, fun p3 hp3 => ?_⟩⟩⟩
        refine q _ _ ((D4.new hp2).new hp3) ?_
        rcases (show (off s 5).1 = 0 ∨ (off s 5).1 = 1 ∨ (off s 5).1 = 2 by omega) with k | k | k
        · rw [k]
          exact .tup (SqT.of upd_same) (.cons (.str _) (.cons (.int _) .nil))
        · rw [k]
          exact .tup (SqT.of upd_same) (.cons (.str _) (.cons (.int _) .nil))
        · rw [k]
          exact .tup (SqT.of upd_same) (.cons (.str _) (.cons (.int _) .nil))
def gRow (s : Dice) : (Tst × Ans) × Dice := (((gTest s).1, (gAns (gTest s).2).1), (gAns (gTest s).2).2)
def gMach (s : Dice) : Mch × Dice := drawN gRow (1 + (offOf s 3 12).1).toNat (offOf s 3 12).2
theorem gRow_dice {s : Dice} (h : s.ok) : (gRow s).2.ok := gAns_dice (gTest_dice h)
theorem gMach_dice {s : Dice} (h : s.ok) : (gMach s).2.ok := drawN_ok (fun _ o => gRow_dice o) _ (offOf_ok h 3 12)
theorem gMach_ok {s : Dice} (h : s.ok) : (gMach s).1.ok := by
  have r := offOf_range s (a := 3) (b := 12) (by decide) (by decide)
  have l := drawN_len gRow (1 + (offOf s 3 12).1).toNat (offOf s 3 12).2
  refine ⟨fun z => ?_, ?_, fun x hx => drawN_all (P := fun r => r.1.ok ∧ r.2.ok) (fun _ o => gRow_dice o) (fun s o => ⟨gTest_ok o, gAns_ok (gTest_dice o)⟩) _ (offOf_ok h 3 12) x hx⟩
  · rw [show (drawN gRow (1 + (offOf s 3 12).1).toNat (offOf s 3 12).2).1 = [] from z] at l
    have : (0 : Nat) = (1 + (offOf s 3 12).1).toNat := l
    omega
  · show (drawN gRow (1 + (offOf s 3 12).1).toNat (offOf s 3 12).2).1.length ≤ 12
    omega
def spGMach (K : PySem.W.Frag) : Sp := fun vs H Q _ => ∃ dd s, vs = [.ref dd] ∧ H dd = some (.lst (Dice.l s)) ∧ s.ok ∧ ∀ H' v, Dc dd H H' (gMach s).2 → Dp K H' v (machD (gMach s).1) → Q v H'
theorem sc_l_machine : FnScope ["_law_d", "_law_k"] ["_law_d"] (defScope s_l_machine) := ⟨rfl, rfl, rfl, by decide +kernel, rfl, by decide +kernel, by decide +kernel⟩
theorem ok_l_machine {P : Program} {w : World} {K : PySem.W.Frag} {mg : Str → Option Value} {base : Heap} (T : Tx K mg) : Def P w K mg base CX0 3 "_law_machine" ["_law_d"] (spGMach K) := by
  obtain ⟨fd, F⟩ := T.d_l_machine
  have G__law_test := ok_l_test (P := P) (w := w) (base := base) T
  have G__law_answer := ok_l_answer (P := P) (w := w) (base := base) T
  have G__law_off := ok_l_off (P := P) (w := w) (base := base) T
  refine ⟨_, fd, F.ok sc_l_machine (fun vs H Q E h => ?_) (fun cdv A outer s H vs Q E hr h => ?_), F.bindsN fun _ _ _ _ _ _ us hl => match us, hl with | [_], _ => rfl, T.g_l_machine, F.kp⟩
  · obtain ⟨d, s, rfl, _⟩ := h
    rfl
  · obtain ⟨dd, s, rfl, hd, hs, q⟩ := h
    refine ⟨_, PSs.nox (pss_one (ps_ret (pe_callTy call_tuple_of (by rfl) T.f_tuple (by decide +kernel) (pa_cons (pe_lc (own := [("_law_k", 1)]) (g := (gName 1)) (tt := tYes) rfl sc_l_machine.nd (pi_range1 rfl T.f_range (pa_cons (pe_op op_add pe_int (pe_def G__law_off (hr.mono (by omega)) pass0 (pa_cons (pv 0) (pa_cons (pe_ix ix_list (pe_lst (pa_cons pe_int (pa_cons pe_int pa_nil))) (pe_def G__law_off (hr.mono (by omega)) pass0 (pa_cons (pv 0) (pa_cons pe_int pa_nil))) (fun _ _ => rfl)) pa_nil)))) pa_nil)) (blkOk_by (own := [("_law_k", 1)]) (N := ["_law_d", "_law_k"]) (sc := defScope s_l_machine) (by decide +kernel)) (fun _ _ _ _ _ => pg_name (i := 1) sc_l_machine.nd rfl (by first | exact Or.inl rfl | exact Or.inr rfl)) (fun _ _ _ _ _ => pts_nil) (fun _ _ _ _ _ => (pe_tup (pa_cons (pe_def G__law_test (hr.mono (by omega)) pass0 (pa_cons (pv 0) pa_nil)) (pa_cons (pe_def G__law_answer (hr.mono (by omega)) pass0 (pa_cons (pv 0) pa_nil)) pa_nil))))) pa_nil)))), ?_⟩
    have r := offOf_range s (a := 3) (b := 12) (by decide) (by decide)
    refine rd_offOf rfl (s := s) ⟨Fx.refl, hd, hs⟩ ⟨by decide, by decide⟩ ⟨by decide, by decide⟩ fun H1 D1 _ => ⟨_, _, rfl, rfl, _, rfl, by omega, by omega, fun D hD => ?_⟩
    have nD : D ≠ dd := D1.ne hD
    refine lc_rel walk_range (fun i acc H3 => Dc dd H1 H3 (drawN gRow i (offOf s 3 12).2).2 ∧ DpAll K H3 acc ((drawN gRow i (offOf s 3 12).2).1.map rowD)) ⟨Dc.new ⟨Fx.refl, D1.h, D1.ok⟩ hD, .nil⟩ (fun _ _ _ _ => trivial) (fun i acc x H3 H4 hi hl hDa r y => ?_) (fun acc H3 hl hDa r => ?_)
    · obtain ⟨rfl, rfl⟩ := y
      obtain ⟨D3, hacc⟩ := r
      refine ⟨rfl, rd_yes ⟨.ref dd, rfl, dd, _, rfl, D3.h, D3.ok, fun H5 v5 D5 k5 => ⟨.ref dd, rfl, dd, _, rfl, D5.h, D5.ok, fun H6 v6 D6 k6 => ⟨by show 2 ≤ sizeLine; decide, fun p hp => ?_⟩⟩⟩⟩
      have f : Fx [dd] H4 (upd H6 p (.tup [v5, v6])) := (D5.f.trans D6.f).trans (Fx.new hp)
      have hD7 := f.to hDa fun m => nD (List.mem_singleton.mp m)
      have D7 := ((D3.go D5).go D6).new (o := HO.tup [v5, v6]) hp
      refine Put.ok hl (by omega) hD7 ⟨D7.set hD nD (Chg.lst hD7), ?_⟩
      show DpAll K _ _ (List.map rowD ((drawN gRow i _).1 ++ [_]))
      rw [List.map_append]
      have fD : Fx [D] (upd H6 p (.tup [v5, v6])) (upd (upd H6 p (.tup [v5, v6])) D (.lst (acc ++ [.ref p]))) := Fx.set List.mem_cons_self (Chg.lst hD7)
      refine ((hacc.mv f (rows_nol _)).mv fD (rows_nol _)).snoc ?_
      have k5' := (k5.mv D6.f (Tst.nol _)).ext (Fx.new (o := HO.tup [v5, v6]) hp)
      have k6' := k6.ext (Fx.new (o := HO.tup [v5, v6]) hp)
      exact (Dp.tup (SqT.of upd_same) (.cons k5' (.cons k6' .nil))).mv fD (row_nol (gRow (drawN gRow i (offOf s 3 12).2).2).1)
    · obtain ⟨D3, hacc⟩ := r
      refine ⟨D, _, rfl, .inl ⟨SqL.of hDa, fun l hl2 => ?_⟩⟩
      exact q _ _ ((D1.go D3).new hl2) (.tup (SqT.of upd_same) (hacc.ext (Fx.new hl2)))
end Mh
/-! MhWide -/
namespace Mh
open PySem PySem.Spec PyProof.Rows L2
mutual
/-- no list or tuple within of a hundred thousand items or more -/
def wide : PyData → Bool
  | .list xs => decide (xs.length < 100000) && wideA xs
  | .tuple xs => decide (xs.length < 100000) && wideA xs
  | _ => true
def wideA : List PyData → Bool
  | [] => true
  | x :: xs => wide x && wideA xs
end
theorem wide_get : ∀ {ds : List PyData} {i : Nat} {d : PyData}, wideA ds = true → ds[i]? = some d → wide d = true
  | [], _, _, _, h => by simp at h
  | x :: r, 0, d, w, h => by
    have e : x = d := Option.some.inj h
    subst e
    exact (Bool.and_eq_true_iff.mp (show (wide x && wideA r) = true from w)).1
  | x :: r, i + 1, d, w, h => wide_get (ds := r) (i := i) (Bool.and_eq_true_iff.mp (show (wide x && wideA r) = true from w)).2 (by simpa using h)
def spAlike (K : PySem.W.Frag) : Nat → Sp
  | 0 => fun _ _ _ _ => False
  | n + 1 => fun vs H Q _ => ∃ v w d, vs = [v, w] ∧ Dp K H v d ∧ Dp K H w d ∧ d.depth ≤ n ∧ wide d = true ∧ ∀ H', Fx [] H H' → Q (.bl true) H'
theorem depth_get : ∀ {ds : List PyData} {i : Nat} {d : PyData}, ds[i]? = some d → d.depth ≤ PyData.depthAll ds
  | [], _, _, h => by simp at h
  | x :: r, 0, d, h => by
    have e : x = d := Option.some.inj h
    subst e
    simp only [PyData.depthAll]
    exact Nat.le_max_left _ _
  | x :: r, i + 1, d, h => by
    have := depth_get (ds := r) (i := i) (d := d) (by simpa using h)
    simp only [PyData.depthAll]
    exact Nat.le_trans this (Nat.le_max_right _ _)
def Seq (K : PySem.W.Frag) (H : Hp) (a : Addr) (xs : List V) : Prop := SqL K H a xs ∨ SqT K H a xs
theorem Seq.ext {K : PySem.W.Frag} {H H' : Hp} {a : Addr} {xs : List V} (h : Seq K H a xs) (f : Fx [] H H') : Seq K H' a xs := by
  rcases h with h | h
  · exact .inl (f.sqL h fun m => nomatch m)
  · exact .inr (f.sqT h)
theorem rd_ixSeq {K : PySem.W.Frag} {σ : L2.St} {H : Hp} {Q : VK} {i j k : Nat} {a : Addr} {xs : List V} {v : V} (hv : σ[i]? = some (some (.ref a))) (hk : σ[k]? = some (some (.int (j : Int)))) (hs : Seq K H a xs) (hj : xs[j]? = some v) (q : Q v H) : tOp (rIx K) (tVar i) (tVar k) σ H Q := by
  refine ⟨_, hv, _, hk, ?_⟩
  rcases hs with h | h
  · exact .inl ⟨a, xs, (j : Int), v, rfl, rfl, h, atI_nat hj, q⟩
  · exact .inr (.inl ⟨a, xs, (j : Int), v, rfl, rfl, h, atI_nat hj, q⟩)
theorem zero_add_nat (i : Nat) : V.int (0 + (i : Int)) = V.int (i : Int) := by rw [Int.zero_add]
theorem alike_all {K : PySem.W.Frag} {H : Hp} {Q : VK} {n : Nat} {a b D : Addr} {xs ys : List V} {ds : List PyData} (hx : Seq K H a xs) (hy : Seq K H b ys) (ha : DpAll K H xs ds) (hb : DpAll K H ys ds) (hdep : PyData.depthAll ds + 1 ≤ n) (hw : wideA ds = true) (hl : ys.length < 1000000) (hD : H D = none) (q : ∀ H', Fx [] H H' → Q (.bl true) H') :
    ∃ W : Nat → Nat → Hp → Prop, (∃ m, W 0 m (upd H D (.lst []))) ∧ ∀ i m H, W i m H →
      ((Itr 0 (ys.length : Int).toNat).stop i H ∧ rAll K [.ref D] H Q) ∨ ((Itr 0 (ys.length : Int).toNat).go i H ∧ ∃ Nx : Hp → Prop, (∀ H', Nx H' → ∃ m', m' < m ∧ W (i + 1) m' H') ∧ ∀ x H', (Itr 0 (ys.length : Int).toNat).yld i H x H' → gName 2 x (wipe [some (.ref a), some (.ref b), none] [2]) H' fun σ2 H2 => wipe σ2 [2] = wipe [some (.ref a), some (.ref b), none] [2] ∧ tYes σ2 H2 fun c H3 =>
        if c = true then (tCall (spAlike K n) [] E0 (tCons (tOp (rIx K) (tVar 0) (tVar 2)) (tCons (tOp (rIx K) (tVar 1) (tVar 2)) tNil))) σ2 H3 fun y H4 => ∃ acc, H4 D = some (.lst acc) ∧ acc.length < sizeLine ∧ Nx (upd H4 D (.lst (acc ++ [y]))) else Nx H3) := by
  refine lc_map walk_range (fun _ => .bl true) (by simpa using hl) hD (fun _ _ => trivial) (fun _ _ _ _ y => YFn.fx y) (fun i x H2 H3 Qe Z hi f y k => ?_) (fun H2 f hL => ?_)
  · obtain ⟨rfl, rfl⟩ := y
    have hi' : i < ys.length := by simpa using hi
    have hix : i < xs.length := by rw [ha.len, ← hb.len]; exact hi'
    refine ⟨rfl, ifT rfl ?_⟩
    obtain ⟨d, g1, g2⟩ := ha.get (List.getElem?_eq_getElem hix)
    obtain ⟨d', g3, g4⟩ := hb.get (List.getElem?_eq_getElem hi')
    have e : d = d' := Option.some.inj (g1.symm.trans g3)
    subst e
    refine rd_ixSeq rfl (congrArg (fun z => some (some z)) (zero_add_nat i)) (hx.ext f) (List.getElem?_eq_getElem hix) (rd_ixSeq rfl (congrArg (fun z => some (some z)) (zero_add_nat i)) (hy.ext f) (List.getElem?_eq_getElem hi') ?_)
    have hdd := depth_get g1
    cases n with
    | zero => omega
    | succ n => exact ⟨_, _, d, rfl, g2.ext f, g4.ext f, by omega, wide_get hw g1, fun H' f' => k H' f'⟩
  · refine ⟨D, (List.range (ys.length : Int).toNat).map fun _ => true, rfl, SqL.of (by rw [hL, List.map_map]; rfl), ?_⟩
    have e : (((List.range (ys.length : Int).toNat).map fun _ => true).all id) = true := List.all_eq_true.mpr fun x hx => by
      obtain ⟨_, _, rfl⟩ := List.mem_map.mp hx
      rfl
    rw [e]
    exact q H2 f
end Mh
/-! MhAlike -/
namespace Mh
open PySem PySem.Spec PyProof.Rows L2
theorem sc_l_alike : FnScope ["_law_found", "_law_due", "_law_k"] ["_law_found", "_law_due"] (defScope s_l_alike) := ⟨rfl, rfl, rfl, by decide +kernel, rfl, by decide +kernel, by decide +kernel⟩
theorem ok_l_alike {P : Program} {w : World} {K : PySem.W.Frag} {mg : Str → Option Value} {base : Heap} (T : Tx K mg) : ∀ n : Nat, Def P w K mg base CX0 n "_law_alike" ["_law_found", "_law_due"] (spAlike K n)
  | 0 => by
    obtain ⟨fd, F⟩ := T.d_l_alike
    exact ⟨_, fd, ⟨fun _ _ _ _ h => h.elim, fun _ _ _ _ _ _ _ _ _ _ _ _ _ h => h.elim⟩, F.bindsN fun _ _ _ _ _ _ us hl => match us, hl with | [_, _], _ => rfl, T.g_l_alike, F.kp⟩
  | n + 1 => by
    obtain ⟨fd, F⟩ := T.d_l_alike
    have G__law_alike := ok_l_alike (P := P) (w := w) (base := base) T n
    refine ⟨_, fd, F.ok sc_l_alike (fun vs H Q E h => ?_) (fun cdv A outer s H vs Q E hr h => ?_), F.bindsN fun _ _ _ _ _ _ us hl => match us, hl with | [_, _], _ => rfl, T.g_l_alike, F.kp⟩
    · obtain ⟨v, w, d, rfl, _⟩ := h
      rfl
    · obtain ⟨v, w, d, rfl, h1, h2, hdep, hwd, q⟩ := h
      refine ⟨_, PSs.nox (pss_cons (ps_if (pt_cmpR op_isN (pv 1) pe_non (nomark _))
        (pss_one (ps_ret (pe_cmpR op_isN (pv 0) pe_non (nomark _))))
        pss_nil)
        (pss_cons (ps_if (pt_val (pe_callB call_isiD (by rfl) T.f_isinstance (by decide +kernel) (pa_cons (pv 1) (pa_cons (gT (n := "bool") T.f_bool) pa_nil))))
        (pss_one (ps_ret (pe_and (pe_callB call_isiD (by rfl) T.f_isinstance (by decide +kernel) (pa_cons (pv 0) (pa_cons (gT (n := "bool") T.f_bool) pa_nil))) (pe_one (pe_cmpR op_eq (pv 0) (pv 1) (nomark _))))))
        pss_nil)
        (pss_cons (ps_if (pt_val (pe_callB call_isiD (by rfl) T.f_isinstance (by decide +kernel) (pa_cons (pv 1) (pa_cons (gT (n := "int") T.f_int) pa_nil))))
        (pss_one (ps_ret (pe_and (pe_callB call_isiD (by rfl) T.f_isinstance (by decide +kernel) (pa_cons (pv 0) (pa_cons (gT (n := "int") T.f_int) pa_nil))) (pe_and (pe_not (pe_callB call_isiD (by rfl) T.f_isinstance (by decide +kernel) (pa_cons (pv 0) (pa_cons (gT (n := "bool") T.f_bool) pa_nil)))) (pe_one (pe_cmpR op_eq (pv 0) (pv 1) (nomark _)))))))
        pss_nil)
        (pss_cons (ps_if (pt_val (pe_callB call_isiD (by rfl) T.f_isinstance (by decide +kernel) (pa_cons (pv 1) (pa_cons (gT (n := "str") T.f_str) pa_nil))))
        (pss_one (ps_ret (pe_and (pe_callB call_isiD (by rfl) T.f_isinstance (by decide +kernel) (pa_cons (pv 0) (pa_cons (gT (n := "str") T.f_str) pa_nil))) (pe_one (pe_cmpR op_eq (pv 0) (pv 1) (nomark _))))))
        pss_nil)
        (pss_cons (ps_if (PW.pt (pw_or (pt_cmpR op_ne (pe_callB call_isiD (by rfl) T.f_isinstance (by decide +kernel) (pa_cons (pv 1) (pa_cons (gT (n := "tuple") T.f_tuple) pa_nil))) (pe_callB call_isiD (by rfl) T.f_isinstance (by decide +kernel) (pa_cons (pv 0) (pa_cons (gT (n := "tuple") T.f_tuple) pa_nil))) (nomark _)) (pw_or1 (pt_cmpR op_ne (pe_callB call_isiD (by rfl) T.f_isinstance (by decide +kernel) (pa_cons (pv 1) (pa_cons (gT (n := "list") T.f_list) pa_nil))) (pe_callB call_isiD (by rfl) T.f_isinstance (by decide +kernel) (pa_cons (pv 0) (pa_cons (gT (n := "list") T.f_list) pa_nil))) (nomark _)))))
        (pss_one (ps_ret pe_bl))
        pss_nil)
        (pss_cons (ps_if (pt_cmpR op_ne (pe_callB call_len_seq (by rfl) T.f_len (by decide +kernel) (pa_cons (pv 0) pa_nil)) (pe_callB call_len_seq (by rfl) T.f_len (by decide +kernel) (pa_cons (pv 1) pa_nil)) (nomark _))
        (pss_one (ps_ret pe_bl))
        pss_nil)
        (pss_one (ps_ret (pe_callB (cr_all rfl) (by rfl) T.f_all (by decide +kernel) (pa_cons (pe_lc (own := [("_law_k", 2)]) (g := (gName 2)) (tt := tYes) rfl sc_l_alike.nd (pi_range1 rfl T.f_range (pa_cons (pe_callB call_len_seq (by rfl) T.f_len (by decide +kernel) (pa_cons (pv 1) pa_nil)) pa_nil)) (blkOk_by (own := [("_law_k", 2)]) (N := ["_law_found", "_law_due", "_law_k"]) (sc := defScope s_l_alike) (by decide +kernel)) (fun _ _ _ _ _ => pg_name (i := 2) sc_l_alike.nd rfl (by first | exact Or.inl rfl | exact Or.inr rfl)) (fun _ _ _ _ _ => pts_nil) (fun _ _ _ _ _ => (pe_def G__law_alike (hr.mono (by omega)) pass0 (pa_cons (pe_ix (kix_seq (K := K) rfl) (pv 0) (pv 2) (fun _ _ => rfl)) (pa_cons (pe_ix (kix_seq (K := K) rfl) (pv 1) (pv 2) (fun _ _ => rfl)) pa_nil))))) pa_nil)))))))))), ?_⟩
      cases d with
      | none =>
        cases h1
        cases h2
        exact ⟨_, rfl, rfl, _, rfl, ifT rfl ⟨_, rfl, rfl, q H .refl⟩⟩
      | bool b =>
        cases h1
        cases h2
        refine ⟨_, rfl, rfl, _, rfl, ifF rfl (rd_isD rfl (by decide) (.bl b) ⟨_, rfl, ifT rfl ?_⟩)⟩
        refine rd_isD rfl (by decide) (.bl b) ⟨_, rfl, ifT rfl ⟨_, rfl, _, rfl, rfl, ?_⟩⟩
        rw [decide_eq_true rfl]
        exact q H .refl
      | int i =>
        cases h1
        cases h2
        refine ⟨_, rfl, rfl, _, rfl, ifF rfl (rd_isD rfl (by decide) (.int i) ⟨_, rfl, ifF rfl (rd_isD rfl (by decide) (.int i) ⟨_, rfl, ifT rfl ?_⟩)⟩)⟩
        refine rd_isD rfl (by decide) (.int i) ⟨_, rfl, ifT rfl (rd_isD rfl (by decide) (.int i) ⟨_, rfl, _, rfl, ifT rfl ⟨_, rfl, _, rfl, rfl, ?_⟩⟩)⟩
        rw [decide_eq_true rfl]
        exact q H .refl
      | str z =>
        cases h1
        cases h2
        refine ⟨_, rfl, rfl, _, rfl, ifF rfl (rd_isD rfl (by decide) (.str z) ⟨_, rfl, ifF rfl (rd_isD rfl (by decide) (.str z) ⟨_, rfl, ifF rfl (rd_isD rfl (by decide) (.str z) ⟨_, rfl, ifT rfl ?_⟩)⟩)⟩)⟩
        refine rd_isD rfl (by decide) (.str z) ⟨_, rfl, ifT rfl ⟨_, rfl, _, rfl, rfl, ?_⟩⟩
        rw [decide_eq_true rfl]
        exact q H .refl
      | dict kvs => cases h1
      | tuple ds =>
        obtain ⟨a, xs, rfl, hs, ha⟩ := h1.tupI
        obtain ⟨b, ys, rfl, ht, hb⟩ := h2.tupI
        have lx := ha.len
        have ly := hb.len
        refine ⟨_, rfl, rfl, _, rfl, ifF rfl (rd_isD rfl (by decide) h2 ⟨_, rfl, ifF rfl (rd_isD rfl (by decide) h2 ⟨_, rfl, ifF rfl (rd_isD rfl (by decide) h2 ⟨_, rfl, ifF rfl ?_⟩)⟩)⟩)⟩
        refine rd_isD rfl (by decide) h2 (rd_isD rfl (by decide) h1 ⟨rfl, _, rfl, ifF rfl (rd_isD rfl (by decide) h2 (rd_isD rfl (by decide) h1 ⟨rfl, _, rfl, ifF rfl ?_⟩))⟩)
        refine ⟨_, rfl, a, xs, rfl, .inr hs, _, rfl, b, ys, rfl, .inr ht, rfl, _, rfl, ifF (by rw [lx, ly]; simp) ?_⟩
        have hdep2 : PyData.depthAll ds + 1 ≤ n := by simpa only [PyData.depth] using hdep
        obtain ⟨hw1, hw2⟩ := Bool.and_eq_true_iff.mp (show (decide (ds.length < 100000) && wideA ds) = true from hwd)
        have hw3 := of_decide_eq_true hw1
        exact ⟨_, rfl, b, ys, rfl, .inr ht, (ys.length : Int), rfl, by omega, by omega, fun D hD => alike_all (.inr hs) (.inr ht) ha hb hdep2 hw2 (by omega) hD q⟩
      | list ds =>
        obtain ⟨a, xs, rfl, hs, ha⟩ := h1.lstI
        obtain ⟨b, ys, rfl, ht, hb⟩ := h2.lstI
        have lx := ha.len
        have ly := hb.len
        refine ⟨_, rfl, rfl, _, rfl, ifF rfl (rd_isD rfl (by decide) h2 ⟨_, rfl, ifF rfl (rd_isD rfl (by decide) h2 ⟨_, rfl, ifF rfl (rd_isD rfl (by decide) h2 ⟨_, rfl, ifF rfl ?_⟩)⟩)⟩)⟩
        refine rd_isD rfl (by decide) h2 (rd_isD rfl (by decide) h1 ⟨rfl, _, rfl, ifF rfl (rd_isD rfl (by decide) h2 (rd_isD rfl (by decide) h1 ⟨rfl, _, rfl, ifF rfl ?_⟩))⟩)
        refine ⟨_, rfl, a, xs, rfl, .inl hs, _, rfl, b, ys, rfl, .inl ht, rfl, _, rfl, ifF (by rw [lx, ly]; simp) ?_⟩
        have hdep2 : PyData.depthAll ds + 1 ≤ n := by simpa only [PyData.depth] using hdep
        obtain ⟨hw1, hw2⟩ := Bool.and_eq_true_iff.mp (show (decide (ds.length < 100000) && wideA ds) = true from hwd)
        have hw3 := of_decide_eq_true hw1
        exact ⟨_, rfl, b, ys, rfl, .inl ht, (ys.length : Int), rfl, by omega, by omega, fun D hD => alike_all (.inl hs) (.inl ht) ha hb hdep2 hw2 (by omega) hD q⟩
end Mh
/-! MhRul2 -/
namespace Mh
open PySem PySem.Spec PyProof.Rows L2
/-! ### a dict beside the empty one -/
section
variable {X : Cx}
def rEqD0 : R2 := fun x y H Q => ∃ a b ks, x = .ref a ∧ y = .ref b ∧ Rd H a (.dK ks) ∧ H b = some (.dK []) ∧ Q (.bl ks.isEmpty) H
def rNeD0 : R2 := fun x y H Q => ∃ a b ks, x = .ref a ∧ y = .ref b ∧ Rd H a (.dK ks) ∧ H b = some (.dK []) ∧ Q (.bl (!ks.isEmpty)) H
theorem hits0 {P : Program} {w : World} {H : Hp} {h : Heap} {A : Around} {s : Shared} {va vb : List (Key × Value)} (e : vb = []) (hl : va.length = vb.length) : PySem.W.KeqHits A s vb va true := by
  subst e
  cases va with
  | nil => exact .nil
  | cons _ _ => cases hl
theorem op_eqD0 (hu : X.A.units < cLine) : OpR X (compareOp .Eq) rEqD0 := by
  intro pins s σ H x y v u Q I rx ry h
  obtain ⟨a, b, ks, rfl, rfl, ea, eb, q⟩ := h
  obtain rfl : v = Value.ref a := rx
  obtain rfl : u = Value.ref b := ry
  obtain ⟨_, ya, va, ra, da⟩ := (show ObjOk X.prog X.w H s.heap a (.dK ks) from ea.ok I.hok)
  obtain ⟨_, yb, vb, rb, db⟩ := (show ObjOk X.prog X.w H s.heap b (.dK []) from I.hok b _ eb)
  have e : vb = [] := by
    have := rb.length
    exact List.eq_nil_of_length_eq_zero (by rw [← this]; rfl)
  have hl : va.length = ks.length := ra.length.symm
  refine PySem.W.keq_eq (knd := mixKind X.prog X.w) (r := true) ya yb da db hu (fun z => ?_) (fin_bl I q ?_)
  · subst e
    cases va with
    | nil => exact .nil
    | cons _ _ => cases z
  · subst e
    cases ks with
    | nil =>
      cases va with
      | nil => rfl
      | cons _ _ => cases hl
    | cons _ _ =>
      cases va with
      | nil => cases hl
      | cons _ _ => rfl
theorem op_neD0 (hu : X.A.units < cLine) : OpR X (compareOp .NotEq) rNeD0 := by
  intro pins s σ H x y v u Q I rx ry h
  obtain ⟨a, b, ks, rfl, rfl, ea, eb, q⟩ := h
  obtain rfl : v = Value.ref a := rx
  obtain rfl : u = Value.ref b := ry
  obtain ⟨_, ya, va, ra, da⟩ := (show ObjOk X.prog X.w H s.heap a (.dK ks) from ea.ok I.hok)
  obtain ⟨_, yb, vb, rb, db⟩ := (show ObjOk X.prog X.w H s.heap b (.dK []) from I.hok b _ eb)
  have e : vb = [] := by
    have := rb.length
    exact List.eq_nil_of_length_eq_zero (by rw [← this]; rfl)
  have hl : va.length = ks.length := ra.length.symm
  refine PySem.W.keq_ne (knd := mixKind X.prog X.w) (r := true) ya yb da db hu (fun z => ?_) (fin_bl I q ?_)
  · subst e
    cases va with
    | nil => exact .nil
    | cons _ _ => cases z
  · subst e
    cases ks with
    | nil =>
      cases va with
      | nil => rfl
      | cons _ _ => cases hl
    | cons _ _ =>
      cases va with
      | nil => cases hl
      | cons _ _ => rfl
end
end Mh
/-! MhTab -/
namespace L2
open PySem PySem.Spec PyProof.Rows
section
variable {X : Cx} {d : Addr} {es : Array DictEntry} {n : Nat} {o e f : Expr} {apos cpos : Pos} {td ty tx : TE}
/-- D.get(k, z) of a dict of the written part -/
def tKDGet (K : PySem.W.Frag) (d : Addr) (td ty tx : TE) : TE := fun σ H Q => td σ H fun x H1 => x = .ref d ∧ ty σ H1 fun y H2 => tx σ H2 fun z H3 => ∃ (k : Str) (r : Option Value) (v : V), y = .str k ∧ PySem.W.nsIn K d k = some r ∧ (∀ u, r = some u → RelV v u) ∧ (r = none → v = z) ∧ Q v H3
theorem pe_kdget2 (D : KDict X.K X.w d es n) (ho : PE X o td) (he : PE X e ty) (hf : PE X f tx) (m : M2 X o "get" apos e f cpos) : PE X (.Call (.Attribute o "get" apos) [e, f] [] cpos) (tKDGet X.K d td ty tx) := by
  refine ⟨fun pins s σ H Q I h => ?_⟩
  refine wpAny_Call_method m.base m.few m.line PySem.F.plainAttrs_dict PySem.F.slot_dict_get PySem.F.type_dict_get (thn (ho.run pins s σ H _ I h) fun u s1 ⟨x, H1, I1, rx, ex, q1⟩ => ?_)
  subst ex
  obtain rfl : u = Value.ref d := rx
  refine ⟨kd_type D I1, fun b q => ?_, ?_⟩
  · cases q
    exact ⟨_, I1.kIn _ _ D.at_, rfl⟩
  rw [m.trees]
  refine Calls.callWith_builtin rfl (Calls.evalArgs_plain (Calls.spliced_cons (thn (he.run pins s1 σ H1 _ I1 q1) fun iv s2 ⟨y, H2, I2, ry, q2⟩ =>
    Calls.spliced_cons (thn (hf.run pins s2 σ H2 _ I2 q2) fun fv s3 ⟨z, H3, I3, rz, k, r, v, ey, en, h1, h2, q3⟩ => Calls.spliced_nil ?_))))
  subst ey
  obtain ⟨t, rfl⟩ := ry
  refine call_meetsIn PySem.F.slot_dict_get (kd_type D I3) PySem.F.entry_dict_get (PySem.F.args_dict_get_3 _ _ _) (meets_dict_get_default (strKind X.prog X.w) d (PySem.strKind_is X.prog X.w k t) D.low fv) ⟨_, PySem.W.mapOf_K (prog := X.prog) I3.kIn D.at_ D.lit, ?_⟩
  refine ⟨v, H3, I3.tok _, ?_, q3⟩
  have ef := PySem.W.find_K D.at_ en
  rw [ef]
  cases r with
  | none => rw [h2 rfl]; exact rz
  | some u => exact h1 u rfl
theorem kpe_kdget2 {K : PySem.W.Frag} {w : World} (hK : X.K = K) (hw : X.w = w) (D : KDict K w d es n) (ho : PE X o td) (he : PE X e ty) (hf : PE X f tx) (m : M2 X o "get" apos e f cpos) : PE X (.Call (.Attribute o "get" apos) [e, f] [] cpos) (tKDGet K d td ty tx) := by
  subst hK
  subst hw
  exact pe_kdget2 D ho he hf m
/-- read where the value is known -/
theorem rd_kd {K : PySem.W.Frag} {H : Hp} {Q : VK} {k : Str} {v : V} {u : Value} (z : V) (e : PySem.W.nsIn K d k = some (some u)) (r : RelV v u) (q : Q v H) : ∃ (k' : Str) (r : Option Value) (v : V), V.str k = .str k' ∧ PySem.W.nsIn K d k' = some r ∧ (∀ u, r = some u → RelV v u) ∧ (r = none → v = z) ∧ Q v H :=
  ⟨k, _, v, rfl, e, fun u' e' => by cases e'; exact r, (fun e' => nomatch e'), q⟩
end
end L2
/-! MhItm -/
namespace Mh
open PySem PySem.Spec PyProof.Rows L2
/-! ### d.items() as a value; sorted of it, ints to ints, any size -/
theorem perm_of_map {α β : Type} {f : α → β} : ∀ {l : List β} {m : List α}, l.Perm (m.map f) → ∃ m' : List α, m'.Perm m ∧ l = m'.map f
  | [], m, h => ⟨[], by
      have e : m.map f = [] := List.Perm.eq_nil h.symm
      rw [List.map_eq_nil_iff.mp e], rfl⟩
  | x :: l, m, h => by
    have hx : x ∈ m.map f := h.mem_iff.mp List.mem_cons_self
    obtain ⟨a, ha, rfl⟩ := List.mem_map.mp hx
    obtain ⟨m1, m2, rfl⟩ := List.append_of_mem ha
    have h2 : (f a :: l).Perm (f a :: (m1 ++ m2).map f) := h.trans ((List.perm_middle (a := a) (l₁ := m1) (l₂ := m2)).map f)
    obtain ⟨m', p, e⟩ := perm_of_map h2.cons_inv
    exact ⟨a :: m', (p.cons a).trans List.perm_middle.symm, by rw [e]; rfl⟩
theorem zlookup {α : Type} : ∀ {as : List Addr} {ks : List α}, as.Nodup → ∀ {b : Addr} {e : α}, (b, e) ∈ as.zip ks → (as.zip ks).lookup b = some e
  | [], _, _, b, e, h => by simp at h
  | a :: as, [], _, b, e, h => by simp at h
  | a :: as, k :: ks, hn, b, e, h => by
    obtain ⟨n1, n2⟩ := List.nodup_cons.mp hn
    show ((a, k) :: as.zip ks).lookup b = some e
    rw [List.lookup_cons]
    rcases List.mem_cons.mp (show (b, e) ∈ (a, k) :: as.zip ks from h) with z | z
    · cases z
      rw [beq_self_eq_true]
    · have hb : b ∈ as := (List.of_mem_zip z).1
      rw [show (b == a) = false by
        rw [beq_eq_false_iff_ne]
        exact fun q => n1 (by rw [← q]; exact hb)]
      exact zlookup n2 z
theorem pairedGet {α β : Type} {F : α → β → Prop} : ∀ {xs : List α} {ys : List β}, Paired F xs ys → ∀ {i : Nat} {x : α}, xs[i]? = some x → ∃ y, ys[i]? = some y ∧ F x y
  | _, _, .nil, i, x, h => by cases h
  | _, _, .cons r t, 0, x, h => by
    have e := Option.some.inj h
    subst e
    exact ⟨_, rfl, r⟩
  | _, _, .cons r t, i + 1, x, h => pairedGet t h
theorem valsMaps {α : Type} (f : α → V) (g : α → Value) : ∀ l : List α, (∀ z ∈ l, RelV (f z) (g z)) → Vals (l.map f) (l.map g)
  | [], _ => .nil
  | a :: l, h => .cons (h a List.mem_cons_self) (valsMaps f g l fun z m => h z (List.mem_cons_of_mem _ m))
def rItemsK : V → List V → Hp → VK → Prop := fun x xs H Q => ∃ (a : Addr) (kvs : List (Key × V)), x = .ref a ∧ xs = [] ∧ H a = some (.dK kvs) ∧ ∀ p, H p = none → Q (.ref p) (upd H p (DX.itemsO p a))
def kII (k : List (Int × Int)) : List (Key × V) := k.map fun q => ((.inl q.1 : Key), V.int q.2)
def rSortItK : List V → Hp → VK → Prop := fun vs H Q => ∃ (p a : Addr) (k : List (Int × Int)), vs = [.ref p] ∧ H p = some (DX.itemsO p a) ∧ H a = some (.dK (kII k)) ∧
  ∀ (H' : Hp) (l : Addr) (zs : List (Addr × (Int × Int))), (∀ b o, H b = some o → H' b = some o) → H l = none → (∀ z ∈ zs, H z.1 = none) → (zs.map (·.2)).Perm k → (zs.map (·.2)).Pairwise (fun x y => SrtO.lexB y x = false) →
    H' l = some (.lst (zs.map fun z => V.ref z.1)) → (∀ z ∈ zs, H' z.1 = some (.tup [.int z.2.1, .int z.2.2])) → Q (.ref l) H'
section
variable {X : Cx}
theorem mt_itemsK : MtR X "dict.items" rItemsK := by
  intro pins s σ H x xs v us Q I rx rxs h
  obtain ⟨a, kvs, rfl, rfl, ha, q⟩ := h
  cases rx
  cases rxs
  obtain ⟨hz, hs0, vs, kv, hdo⟩ := I.hok a _ ha
  obtain ⟨es, ep, hr, hsz, hes⟩ := hdo.raw
  refine DT.callItems (es := es) (ep := ep) hs0 hr ?_
  have hf : H s.heap.objs.size = none := I.hok.fresh (Nat.le_refl _)
  exact ⟨.ref s.heap.objs.size, upd H s.heap.objs.size (DX.itemsO s.heap.objs.size a), I.laid (t' := s.toks) (fun b u e => Heap.get?_push_of_some _ e) (Nat.le_refl _) (DX.itemsO_ok (Heap.get?_push_size _ rfl)), rfl, q _ hf⟩
theorem cr_sortedItK (hc : X.calm = true) : CallR X (.builtin "sorted") rSortItK := by
  intro pins s σ H xs us Q I r h
  obtain ⟨p, a, k, rfl, hp, ha, q⟩ := h
  obtain rfl := Vals.ref1 r
  have view : s.heap.IsItemsView p a := (show ObjOk X.prog X.w H s.heap p (DX.itemsO p a) from I.hok p _ hp).1
  obtain ⟨hz, hs0, vs, kv, hdo⟩ := I.hok a _ ha
  obtain ⟨es, ep, hr, l2, hes⟩ := hdo.raw
  have l1 : k.length = vs.length := by
    have := Paired.length kv
    rw [kII, List.length_map] at this
    exact this
  rw [kII, List.length_map] at hz
  have hh : X.A.handled = none := I.ok.hd hc
  refine DT.sortedI (es := es) (ep := ep) hh view hr (by omega) fun h' tk as hk hlt hl hG => ?_
  have lak : as.length = k.length := by omega
  have nd : as.Nodup := List.Pairwise.imp (fun h => Nat.ne_of_lt h) hG.rise
  have pr : ∀ (j : Nat) (b : Addr), as[j]? = some b → ∃ (e : Int × Int) (t u : Tok), k[j]? = some e ∧ h'.get? b = some { cls := .type "tuple", data := .seq #[Value.int e.1 t, Value.int e.2 u] } := by
    intro j b hj
    obtain ⟨en, he, hg⟩ := hG.pairs j b hj
    obtain ⟨hjs, een⟩ := Array.getElem?_eq_some_iff.mp he
    obtain ⟨e, hke⟩ : ∃ e, k[j]? = some e := ⟨_, List.getElem?_eq_getElem (by omega)⟩
    have hke2 : (kII k)[j]? = some ((.inl e.1 : Key), V.int e.2) := by rw [kII, List.getElem?_map, hke]; rfl
    obtain ⟨qv, g1, g2, g3⟩ := pairedGet kv hke2
    obtain ⟨m1, m2⟩ := hes j hjs qv.1 qv.2 g1
    rw [een] at m1 m2
    have rk : RelV (kV (.inl e.1 : Key)) en.key := by
      have g2 : (.inl e.1 : Key) = qv.1 := g2
      rw [g2]
      exact relV_key (show keyIs qv.1 en.key = true from m1)
    obtain ⟨t, ht⟩ := (show ∃ t, en.key = Value.int e.1 t from rk)
    obtain ⟨u, hu⟩ := (show ∃ u, qv.2 = Value.int e.2 u from g3)
    refine ⟨e, t, u, hke, ?_⟩
    rw [hg, ht, m2, hu]
  have hob : (h'.push { cls := .type "list", data := .seq (as.map Value.ref).toArray }).get? h'.objs.size = some (seqObj "list" (as.map Value.ref).toArray 0) := Heap.get?_push_size _ rfl
  have kb : ∀ b o, s.heap.get? b = some o → (h'.push { cls := .type "list", data := .seq (as.map Value.ref).toArray }).get? b = some o := fun b o e => Heap.get?_push_of_some _ (hk b o e)
  have ne0 : ∀ b o, h'.get? b = some o → b ≠ h'.objs.size := fun b o e => Nat.ne_of_lt (Heap.lt_size e)
  generalize hh2 : h'.push { cls := .type "list", data := .seq (as.map Value.ref).toArray } = h2 at hob kb ⊢
  have ka : ∀ b o, h'.get? b = some o → h2.get? b = some o := fun b o e => by rw [← hh2]; exact Heap.get?_push_of_some _ e
  let kf : Value → Int × Int := fun v => match v with
    | .ref b => ((as.zip k).lookup b).getD (0, 0)
    | _ => (0, 0)
  have hkf : ∀ z ∈ as.zip k, kf (.ref z.1) = z.2 := fun z hz => by
    show ((as.zip k).lookup z.1).getD (0, 0) = z.2
    rw [zlookup nd (show (z.1, z.2) ∈ as.zip k from hz)]
    rfl
  have at_ : ∀ z ∈ as.zip k, ∃ t u, h'.get? z.1 = some { cls := .type "tuple", data := .seq #[Value.int z.2.1 t, Value.int z.2.2 u] } := fun z hz => by
    obtain ⟨j, hj⟩ := List.mem_iff_getElem?.mp hz
    obtain ⟨j1, j2⟩ := List.getElem?_zip_eq_some.mp hj
    obtain ⟨e, t, u, he, hg⟩ := pr j z.1 j1
    have ee : e = z.2 := Option.some.inj (he.symm.trans j2)
    rw [ee] at hg
    exact ⟨t, u, hg⟩
  have hmz : as.map Value.ref = (as.zip k).map fun z => Value.ref z.1 := by
    have e : (as.zip k).map (fun z => z.1) = as := List.map_fst_zip (by rw [lak]; exact Nat.le_refl _)
    conv => lhs; rw [← e]
    rw [List.map_map]
    rfl
  have hsz2 : (as.map Value.ref).length ≤ sizeLine := by rw [List.length_map]; omega
  refine wpAny_call_entry PyProof.Rows.slot_list_sort ⟨_, hob, rfl⟩ PyProof.Rows.entry_list_sort
    (SrtO.list_sort_ord (s := { s with heap := h2, toks := tk }) (SrtO.swo_lex kf) hob hsz2 (fun h2' => SrtO.pairs_sortableO (s := { s with heap := h2, toks := tk }) (by omega) (fun v hv => ?_) fun o e => ?_) fun out o1 o2 => ⟨.none, rfl, ?_⟩) (PyProof.Rows.args_list_sort _)
  · rw [hmz] at hv
    obtain ⟨z, hz, rfl⟩ := List.mem_map.mp hv
    obtain ⟨t, u, hg⟩ := at_ z hz
    rw [hkf z hz]
    exact ⟨z.1, _, t, u, 0, rfl, ka _ _ hg, rfl, rfl⟩
  · have e' : some o = some (seqObj "list" (as.map Value.ref).toArray 0) := e.symm.trans hob
    cases e'
    intro c
    exact absurd (Value.type.inj c) (by decide)
  · show EP X pins σ Q (.ref h'.objs.size) { s with heap := sortedHeap h2 h'.objs.size (as.map Value.ref) out.toArray, toks := tk }
    have pm := o2.perm
    rw [hmz] at pm
    obtain ⟨zs, pz, ez⟩ := perm_of_map pm
    have hmem : ∀ z ∈ zs, z ∈ as.zip k := fun z hz => pz.mem_iff.mp hz
    have hperm : (zs.map (·.2)).Perm k := by
      have e := pz.map (·.2)
      have m2 : (as.zip k).map (·.2) = k := List.map_snd_zip (by rw [lak]; exact Nat.le_refl _)
      rw [m2] at e
      exact e
    have hsort : (zs.map (·.2)).Pairwise (fun x y => SrtO.lexB y x = false) := by
      rw [ez] at o1
      have o1 : ((zs.map fun z => Value.ref z.1)).Pairwise (fun x y => SrtO.lexB (kf y) (kf x) = false) := o1
      rw [List.pairwise_map] at o1
      rw [List.pairwise_map]
      refine List.Pairwise.imp_of_mem (fun {x y} hx hy h => ?_) o1
      rw [hkf x (hmem x hx), hkf y (hmem y hy)] at h
      exact h
    have kF : ∀ b o, b ≠ h'.objs.size → h2.get? b = some o → (sortedHeap h2 h'.objs.size (as.map Value.ref) out.toArray).get? b = some o := fun b o hb e => (PyProof.Rows.sortedHeap_old hb (Heap.lt_size e)).trans e
    have kS : ∀ b o, s.heap.get? b = some o → (sortedHeap h2 h'.objs.size (as.map Value.ref) out.toArray).get? b = some o := fun b o e => kF b o (ne0 _ _ (hk b o e)) (kb b o e)
    obtain ⟨eF, heF⟩ := PyProof.Rows.sortedHeap_at (vs := as.map Value.ref) (out := out.toArray) hob
    have I1 : Inv X pins σ H { s with heap := sortedHeap h2 h'.objs.size (as.map Value.ref) out.toArray, toks := tk } := I.kept (t' := tk) kS
    have hn0 : H h'.objs.size = none := I.hok.fresh (Nat.le_of_lt hlt)
    have hlen : (zs.map fun z => V.ref z.1).length ≤ sizeLine := by
      have e := hperm.length_eq
      rw [List.length_map] at e
      rw [List.length_map]
      omega
    have rv : Vals (zs.map fun z => V.ref z.1) out := by
      rw [ez]
      exact valsMaps (fun z : Addr × (Int × Int) => V.ref z.1) (fun z => Value.ref z.1) zs fun _ _ => rfl
    have I2 : Inv X pins σ (upd H h'.objs.size (.lst (zs.map fun z => V.ref z.1))) { s with heap := sortedHeap h2 h'.objs.size (as.map Value.ref) out.toArray, toks := tk } :=
      I1.take (h' := sortedHeap h2 h'.objs.size (as.map Value.ref) out.toArray) (t' := tk) (fun b ob _ e => e) (I.fpOk (Nat.le_of_lt hlt) hn0) ⟨hlen, out, eF, rv, heF⟩
    obtain ⟨H2, I3, g, qt⟩ := DX.takeT (P := fun b vs => ∃ e : Int × Int, (b, e) ∈ as.zip k ∧ vs = [.int e.1, .int e.2]) I as _ I2 nd fun b hb => by
      obtain ⟨j, hj⟩ := List.mem_iff_getElem?.mp hb
      obtain ⟨e, t, u, he, hg⟩ := pr j b hj
      have hbl : s.heap.objs.size ≤ b := Nat.le_of_lt (hG.above b hb)
      refine ⟨hbl, ?_, [.int e.1, .int e.2], ⟨e, List.mem_iff_getElem?.mpr ⟨j, List.getElem?_zip_eq_some.mpr ⟨hj, he⟩⟩, rfl⟩, fun H3 => ⟨(by rw [sizeLine_eq]; show 2 ≤ 16777216; omega), [Value.int e.1 t, Value.int e.2 u], .cons ⟨t, rfl⟩ (.cons ⟨u, rfl⟩ .nil), ⟨_, kF _ _ (ne0 _ _ hg) (ka _ _ hg), rfl, 0, rfl⟩⟩⟩
      rw [upd_ne (ne0 _ _ hg)]
      exact I.hok.fresh hbl
    have gr : ∀ b o, H b = some o → H2 b = some o := fun b o e => g b o (by rw [upd_ne (ne_of_none e hn0)]; exact e)
    refine ⟨.ref h'.objs.size, H2, I3, rfl, q H2 h'.objs.size zs gr hn0 (fun z hz => ?_) hperm hsort (g _ _ upd_same) fun z hz => ?_⟩
    · have hb : z.1 ∈ as := (List.of_mem_zip (hmem z hz)).1
      exact I.hok.fresh (Nat.le_of_lt (hG.above _ hb))
    · have hb : z.1 ∈ as := (List.of_mem_zip (hmem z hz)).1
      obtain ⟨vs', ⟨e, he, ev⟩, hH⟩ := qt z.1 hb
      have e1 := zlookup nd he
      have e2 := zlookup nd (show (z.1, z.2) ∈ as.zip k from hmem z hz)
      have ee : e = z.2 := Option.some.inj (e1.symm.trans e2)
      rw [ev, ee] at hH
      exact hH
end
end Mh
/-! MhLam -/
namespace Mh
open PySem PySem.Spec PyProof.Rows L2 LamX
/-! ### a lambda, with or without a default -/
abbrev lfd (qual : Str) (params : Arguments) (body : Expr) (scope : Scope) (cl : List (Str × Addr)) (dV pm cdv ct : Value) : FuncData :=
  { name := "<lambda>", qualname := qual, params := params, body := .expr body, scope := scope, globals := mainGlobals, closure := cl, defaults := dV, kwdefaults := .none, doc := .none, pyModule := pm, annotations := none, code := cdv, closureTuple := ct, builtins := builtinsNs }
abbrev lfo (qual : Str) (params : Arguments) (body : Expr) (scope : Scope) (cl : List (Str × Addr)) (dV pm cdv ct : Value) : Obj := { cls := .type "function", data := .func (lfd qual params body scope cl dV pm cdv ct) }
def tailOf (qual : Str) (params : Arguments) (body : Expr) (scope : Scope) (env : Env) (dV : Value) (pos : Pos) (fl : Nat) (cl : List (Str × Addr)) (ct : Value) : Sem Value := do
  let code ← functionCode env pos fl "<lambda>" qual params scope (.expr body)
  let bi ← builtinsFor env.globals env.builtins
  let nm ← nsGet env.globals "__name__"
  let doc ← (pure .none : Sem Value)
  newObj (.type "function") (.func { name := "<lambda>", qualname := qual, params := params, body := .expr body, scope := scope, globals := env.globals, closure := cl, closureTuple := ct, code := code, builtins := bi, defaults := dV, kwdefaults := .none, annotations := none, pyModule := nm.getD .none, doc := doc })
theorem makeTail_lam (qual : Str) (params : Arguments) (body : Expr) (scope : Scope) (env : Env) (dV : Value) (pos : Pos) (fl : Nat) : makeTail "<lambda>" qual params (.expr body) scope env dV .none none pos fl = (do
    let cl ← closureFor scope env
    let ct ← if cl.isEmpty then pure .none else newTextTuple ((cl.mergeSort fun a b => a.1.cps.toList ≤ b.1.cps.toList).map (.ref ·.2))
    tailOf qual params body scope env dV pos fl cl ct) := rfl
section
variable {M : Model} {A : Around} {E : Value → Shared → Prop} {s : Shared} {qual : Str} {params : Arguments} {body : Expr} {scope : Scope} {env : Env} {c P : Addr} {ps : Array Value} {pos : Pos} {fl : Nat} {mg : Str → Option Value} {cl : List (Str × Addr)} {dV : Value} {Q : Value → Shared → Prop}
/-- the code object is found, or laid down in the table -/
theorem tailOf_wp {ct : Value} (hge : env.globals = mainGlobals) (hg : s.heap.Ns mainGlobals mg) (hcode : env.code = .ref c) (C : PySem.W.CodeHd s.heap c P) (hP : s.heap.get? P = some { cls := .none, data := .fields ps }) (ht : TriplesOk ps.toList) (hgP : mainGlobals ≠ P) (hb : s.heap.BuiltinsAt mg P)
    (hit : ∀ cv, codeAmong pos ps.toList = some cv → Q (.ref s.heap.objs.size) { s with heap := s.heap.push (lfo qual params body scope cl dV ((mg "__name__").getD .none) cv ct) })
    (miss : codeAmong pos ps.toList = none → ∀ (c' : Addr) (h' : Heap) (tk : Tok), Heap.ExtBut P s.heap h' → s.heap.objs.size ≤ c' → c' < h'.objs.size → h'.CodeRec (.ref c') qual → h'.get? P = some { cls := .none, data := .fields (ps ++ #[rawInt pos.line, rawInt pos.col, .ref c']) } →
      Q (.ref h'.objs.size) { s with heap := h'.push (lfo qual params body scope cl dV ((mg "__name__").getD .none) (.ref c') ct), toks := tk }) :
    wpAny M A (tailOf qual params body scope env dV pos fl cl ct) Q E s := by
  obtain ⟨bm, ob, hbm, hne0, _, hneP, hbo, hcls, hdict, hdata⟩ := hb
  unfold tailOf
  rw [hge]
  cases hc : codeAmong pos ps.toList with
  | some cv =>
    refine wpAny_bind (wpAny_functionCode_hit hcode (C.code hP ht) hc (wpAny_bind (wpAny_builtinsFor hg hbm hne0 hbo hcls hdict hdata (wpAny_bind (wpAny_nsGet hg ?_)))))
    exact wpAny_bind (wpAny_pure (wpAny_newObj_type (hit cv hc) (by size_fits)))
  | none =>
    refine wpAny_bind (wpAny_functionCodeX hcode (C.code hP ht) (C.tab hP) hc fun c' h' tk hx hge' hlt _ hrec htb _ => ?_)
    have hg' := hg.extBut hx hgP
    refine wpAny_bind (wpAny_builtinsFor hg' hbm hne0 (hx _ _ hneP hbo) hcls hdict hdata (wpAny_bind (wpAny_nsGet hg' ?_)))
    exact wpAny_bind (wpAny_pure (wpAny_newObj_type (miss hc c' h' tk hx hge' hlt hrec htb.2) (by size_fits)))
/-- .. the cells that it captures told first -/
theorem lam_tail (hcl : closureFor scope env = pure cl) (hge : env.globals = mainGlobals) (hg : s.heap.Ns mainGlobals mg) (hcode : env.code = .ref c) (C : PySem.W.CodeHd s.heap c P) (hP : s.heap.get? P = some { cls := .none, data := .fields ps }) (ht : TriplesOk ps.toList) (hgP : mainGlobals ≠ P) (hb : s.heap.BuiltinsAt mg P)
    (hit : ∀ cv, codeAmong pos ps.toList = some cv → ∀ (ct : Value) (h' : Heap), (∀ b o, s.heap.get? b = some o → h'.get? b = some o) → s.heap.objs.size ≤ h'.objs.size → Q (.ref h'.objs.size) { s with heap := h'.push (lfo qual params body scope cl dV ((mg "__name__").getD .none) cv ct) })
    (miss : codeAmong pos ps.toList = none → ∀ (c' : Addr) (ct : Value) (h' : Heap) (tk : Tok), Heap.ExtBut P s.heap h' → s.heap.objs.size ≤ c' → c' < h'.objs.size → h'.CodeRec (.ref c') qual → h'.get? P = some { cls := .none, data := .fields (ps ++ #[rawInt pos.line, rawInt pos.col, .ref c']) } →
      Q (.ref h'.objs.size) { s with heap := h'.push (lfo qual params body scope cl dV ((mg "__name__").getD .none) (.ref c') ct), toks := tk }) :
    wpAny M A (makeTail "<lambda>" qual params (.expr body) scope env dV .none none pos fl) Q E s := by
  rw [makeTail_lam, hcl]
  refine wpAny_bind (wpAny_pure ?_)
  by_cases he : cl.isEmpty = true
  · rw [if_pos he]
    exact wpAny_bind (wpAny_pure (tailOf_wp hge hg hcode C hP ht hgP hb (fun cv h => hit cv h _ _ (fun _ _ e => e) (Nat.le_refl _)) (fun h c' h' tk hx h1 h2 h3 h4 => miss h c' _ h' tk hx h1 h2 h3 h4)))
  · rw [if_neg he]
    have kp : ∀ (oT : Obj) b o, s.heap.get? b = some o → (s.heap.push oT).get? b = some o := fun oT b o e => Heap.get?_push_of_some _ e
    have sz : ∀ oT : Obj, s.heap.objs.size ≤ (s.heap.push oT).objs.size := fun oT => by rw [Heap.size_push]; omega
    refine wpAny_bind (wpAny_newTextTuple ?_)
    refine tailOf_wp (s := { s with heap := s.heap.push _ }) hge (hg.keeps (kp _)) hcode (C.keeps (kp _)) (kp _ _ _ hP) ht hgP (hb.keeps (kp _)) (fun cv h => hit cv h _ _ (kp _) (sz _)) (fun h c' h' tk hx h1 h2 h3 h4 => miss h c' _ h' tk (fun b o nb e => hx b o nb (kp _ b o e)) (Nat.le_trans (sz _) h1) h2 h3 h4)
/-- a lambda is made, its one default (if any) evaluated first -/
theorem lam_eval0 (hdef : defaultsOf params env = ([], [])) (h : wpAny M A (makeTail "<lambda>" (env.qual ++ "<lambda>") params (.expr body) scope env .none .none none pos pos.line) Q E s) : wpAny M A (eval (.Lambda params body scope pos) env) Q E s := by
  rw [arm_eval_Lambda, hdef]
  show wpAny M A (do let dv ← evalAll []; let kdv ← holding dv (evalAllOpt []); makeFunction "<lambda>" (env.qual ++ "<lambda>") params (.expr body) scope env dv kdv [] pos pos.line) Q E s
  refine wpAny_bind (wpAny_pure (wpAny_bind (wpAny_holding (wpAny_pure ?_))))
  rw [makeFunction_eq]
  simp only [List.zip_nil_right, List.filterMap_nil, List.isEmpty_nil, if_true, pure_bind]
  exact h
theorem lam_eval1 {t : Sem Value} (hdef : defaultsOf params env = ([t], [])) (h : wpAny M A t (fun v s1 => wpAny M A (makeTail "<lambda>" (env.qual ++ "<lambda>") params (.expr body) scope env (.ref s1.heap.objs.size) .none none pos pos.line) Q E { s1 with heap := s1.heap.push { cls := .type "tuple", data := .seq [v].toArray } }) E s) : wpAny M A (eval (.Lambda params body scope pos) env) Q E s := by
  rw [arm_eval_Lambda, hdef]
  show wpAny M A (do let dv ← evalAll [t]; let kdv ← holding dv (evalAllOpt []); makeFunction "<lambda>" (env.qual ++ "<lambda>") params (.expr body) scope env dv kdv [] pos pos.line) Q E s
  refine wpAny_bind ?_
  show wpAny M A (do let v ← t; let r ← holding [v] (evalAll []); pure (v :: r)) _ E s
  refine wpAny_bind (wpAny_mono h (fun v s1 h1 => ?_) fun _ _ e => e)
  refine wpAny_bind (wpAny_holding (wpAny_pure ?_))
  refine wpAny_pure ?_
  refine wpAny_bind (wpAny_holding (wpAny_pure ?_))
  rw [makeFunction_eq]
  simp only [List.zip_nil_right, List.filterMap_nil, List.isEmpty_nil, if_true, pure_bind]
  rw [if_neg (by simp)]
  exact wpAny_bind (wpAny_newTextTuple h1)
end
end Mh
/-! MhHeld -/
namespace Mh
open PySem PySem.Spec PyProof.Rows L2 LamX NdefX
theorem Chg.tbl {H : Hp} {p : Addr} {qs : Array Value} (h : H p = some (.tbl qs)) : Chg H p := ⟨fun xs e => (by rw [h] at e; cases e), fun o u e => (by rw [h] at e; cases e)⟩
theorem Tabs.fx {T : List (Addr × Str)} {H H' : Hp} (t : Tabs T H) (f : Fx [] H H') : Tabs T H' := t.ext fun b o e => f.to e fun z => nomatch z
/-- tables stand while others than they change -/
theorem Tabs.mv {T : List (Addr × Str)} {M : List Addr} {H H' : Hp} (t : Tabs T H) (f : Fx M H H') (n : ∀ p ∈ T, p.1 ∉ M) (nc : ∀ c q, H c = some (CodeO c q) → c ∉ M) : Tabs T H' := fun p hp => by
  obtain ⟨qs, h1, h2, h3⟩ := t p hp
  refine ⟨qs, f.to h1 (n p hp), h2, fun pos cv hc => ?_⟩
  obtain ⟨c, e1, e2⟩ := h3 pos cv hc
  exact ⟨c, e1, f.to e2 (nc _ _ e2)⟩
section
variable {X : Cx} {pins : List (Addr × Obj)} {σ : L2.St} {H : Hp} {s : Shared}
theorem lam_mk {T : List (Addr × Str)} {c P : Addr} {params : Arguments} {body : Expr} {scope : Scope} {pos : Pos} {dV : Value} {A : Around} {E : Value → Shared → Prop} {Q : Value → Shared → Prop} (I : Inv X pins σ H s) (TB : TabB X.base X.mg c P) (hcode : X.env.code = .ref c)
    (hm : (P, X.env.qual ++ "<lambda>") ∈ T) (hu : ∀ p ∈ T, p.1 = P → p.2 = X.env.qual ++ "<lambda>") (hT : Tabs T H) (hfree : ∀ y ∈ scope.names, y.2 = .free → ∃ c, X.env.cells.lookup y.1 = some c)
    (h : ∀ (f c' : Addr) (pm ctv : Value) (H1 : Hp) (s' : Shared), Inv X pins σ H1 s' → Fx [P] H H1 → Tabs T H1 → H f = none →
      H1 f = some (pinO (lfo (X.env.qual ++ "<lambda>") params body scope (cloFrom X.env.cells scope.names []) dV pm (.ref c') ctv)) → H1 c' = some (CodeO c' (X.env.qual ++ "<lambda>")) → Q (.ref f) s') :
    wpAny (model X.prog X.w) A (makeTail "<lambda>" (X.env.qual ++ "<lambda>") params (.expr body) scope X.env dV .none none pos pos.line) Q E s := by
  obtain ⟨qs, hP, ht, ha⟩ := (show TabS H P (X.env.qual ++ "<lambda>") from hT _ hm)
  have bP : s.heap.BuiltinsAt X.mg P := TB.bm.keeps I.bk
  have hP' : s.heap.get? P = some { cls := .none, data := .fields qs } := I.hok P _ hP
  refine lam_tail (closure_ok hfree) I.ok.glob (I.mod.glob.keeps I.bk) hcode (TB.code.keeps I.bk) hP' ht TB.gP bP (fun cv hc ct h' hx hsz => ?_) (fun hc c' ct h' tk hx hge hlt hrec htb => ?_)
  · obtain ⟨c', e, hco⟩ := ha pos cv hc
    subst e
    have hget : (h'.push (lfo (X.env.qual ++ "<lambda>") params body scope (cloFrom X.env.cells scope.names []) dV ((X.mg "__name__").getD .none) (.ref c') ct)).get? h'.objs.size = some (lfo (X.env.qual ++ "<lambda>") params body scope (cloFrom X.env.cells scope.names []) dV ((X.mg "__name__").getD .none) (.ref c') ct) := Heap.get?_push_size _ rfl
    have kk : ∀ b o, s.heap.get? b = some o → (h'.push (lfo (X.env.qual ++ "<lambda>") params body scope (cloFrom X.env.cells scope.names []) dV ((X.mg "__name__").getD .none) (.ref c') ct)).get? b = some o := fun b o e => Heap.get?_push_of_some _ (hx b o e)
    have nF : H h'.objs.size = none := I.hok.fresh hsz
    have I1 := I.laid (t' := s.toks) (a := h'.objs.size) (o := pinO (lfo (X.env.qual ++ "<lambda>") params body scope (cloFrom X.env.cells scope.names []) dV ((X.mg "__name__").getD .none) (.ref c') ct)) kk hsz (pin_ok hget)
    have f1 : Fx [] H (upd H h'.objs.size (pinO (lfo (X.env.qual ++ "<lambda>") params body scope (cloFrom X.env.cells scope.names []) dV ((X.mg "__name__").getD .none) (.ref c') ct))) := Fx.new nF
    exact h h'.objs.size c' _ ct _ _ I1 f1.nil (Tabs.fx hT f1) nF upd_same (f1.to hco fun z => nomatch z)
  · obtain ⟨c2, oc, vs, t, e2, hoc, hd, hv⟩ := hrec
    cases e2
    have nC : H c' = none := I.hok.fresh hge
    have I1 := inv_table (t' := tk) (more := #[rawInt pos.line, rawInt pos.col, .ref c']) (h' := h') I hP (fun b o hb e => hx b o hb e) htb hge ⟨oc, vs, t, hoc, hd, hv⟩
    have f0 : Fx [P] H (upd H P (.tbl (qs ++ #[rawInt pos.line, rawInt pos.col, .ref c']))) := Fx.set List.mem_cons_self (Chg.tbl hP)
    have nPc : P ≠ c' := ne_of_none hP nC
    have f01 : Fx [P] H (upd (upd H P (.tbl (qs ++ #[rawInt pos.line, rawInt pos.col, .ref c']))) c' (CodeO c' (X.env.qual ++ "<lambda>"))) := f0.trans (Fx.new (by rw [upd_ne nPc.symm]; exact nC))
    have hE : ∀ b o, H b = some o → (∀ z, o ≠ .tbl z) → upd (upd H P (.tbl (qs ++ #[rawInt pos.line, rawInt pos.col, .ref c']))) c' (CodeO c' (X.env.qual ++ "<lambda>")) b = some o := fun b o e n => by
      rw [upd_ne (ne_of_none e nC), upd_ne (fun z => n qs (Option.some.inj (e.symm.trans (by rw [z]; exact hP))))]
      exact e
    have eL : (qs ++ #[rawInt pos.line, rawInt pos.col, .ref c']).toList = qs.toList ++ [rawInt pos.line, rawInt pos.col, .ref c'] := by simp
    have T1 : Tabs T (upd (upd H P (.tbl (qs ++ #[rawInt pos.line, rawInt pos.col, .ref c']))) c' (CodeO c' (X.env.qual ++ "<lambda>"))) := fun p hp => by
      by_cases hb : p.1 = P
      · rw [hu p hp hb, hb]
        refine ⟨_, by rw [upd_ne nPc, upd_same], by rw [eL]; exact PySem.TriplesOk_snoc _ _ _ _ ht, fun p' cv hcv => ?_⟩
        rw [eL] at hcv
        rcases among_app _ ht hcv with z | z
        · obtain ⟨c0, e1, e2⟩ := ha p' cv z
          exact ⟨c0, e1, hE _ _ e2 codeO_ne⟩
        · exact ⟨c', z, upd_same⟩
      · obtain ⟨qs', a1, a2, a3⟩ := hT p hp
        refine ⟨qs', by rw [upd_ne (ne_of_none a1 nC), upd_ne hb]; exact a1, a2, fun p' cv hcv => ?_⟩
        obtain ⟨c0, e1, e2⟩ := a3 p' cv hcv
        exact ⟨c0, e1, hE _ _ e2 codeO_ne⟩
    have hc1 : upd (upd H P (.tbl (qs ++ #[rawInt pos.line, rawInt pos.col, .ref c']))) c' (CodeO c' (X.env.qual ++ "<lambda>")) c' = some (CodeO c' (X.env.qual ++ "<lambda>")) := upd_same
    generalize upd (upd H P (.tbl (qs ++ #[rawInt pos.line, rawInt pos.col, .ref c']))) c' (CodeO c' (X.env.qual ++ "<lambda>")) = Hm at I1 f01 T1 hc1
    have nF : Hm h'.objs.size = none := I1.hok.fresh (Nat.le_refl _)
    have hget : (h'.push (lfo (X.env.qual ++ "<lambda>") params body scope (cloFrom X.env.cells scope.names []) dV ((X.mg "__name__").getD .none) (.ref c') ct)).get? h'.objs.size = some (lfo (X.env.qual ++ "<lambda>") params body scope (cloFrom X.env.cells scope.names []) dV ((X.mg "__name__").getD .none) (.ref c') ct) := Heap.get?_push_size _ rfl
    have I2 := I1.laid (t' := tk) (a := h'.objs.size) (o := pinO (lfo (X.env.qual ++ "<lambda>") params body scope (cloFrom X.env.cells scope.names []) dV ((X.mg "__name__").getD .none) (.ref c') ct)) (h' := h'.push (lfo (X.env.qual ++ "<lambda>") params body scope (cloFrom X.env.cells scope.names []) dV ((X.mg "__name__").getD .none) (.ref c') ct)) (fun b o e => Heap.get?_push_of_some _ e) (Nat.le_refl _) (pin_ok hget)
    have f2 : Fx [] Hm (upd Hm h'.objs.size (pinO (lfo (X.env.qual ++ "<lambda>") params body scope (cloFrom X.env.cells scope.names []) dV ((X.mg "__name__").getD .none) (.ref c') ct))) := Fx.new nF
    exact h h'.objs.size c' _ ct _ _ I2 (f01.trans f2.nil) (Tabs.fx T1 f2) (f01.free nF) upd_same (f2.to hc1 fun z => nomatch z)
end
/-! ### what a lambda's call does -/
/-- called without arguments, f keeps sp -/
structure LHeld (P : Program) (w : World) (K : PySem.W.Frag) (mg : Str → Option Value) (base : Heap) (k : Nat) (f : Addr) (sp : Hp → VK → XK → Prop) : Prop where
  run : ∀ (A : Around) (outer : List Env) (s : Shared) (H : Hp) (Q : VK) (E : XK), Room k A → Env0 P w K mg base A outer s H → sp H Q E → codeAny (model P w) A (.call (.ref f) ⟨[], []⟩) (CR (L2.CX P w) outer P w H s Q E) s
  fn : ∀ H Q E, sp H Q E → ∃ fd : FuncData, H f = some (pinO { cls := .type "function", data := .func fd })
theorem LHeld.imp {P : Program} {w : World} {K : PySem.W.Frag} {mg : Str → Option Value} {base : Heap} {k : Nat} {f : Addr} {sp sp' : Hp → VK → XK → Prop} (L : LHeld P w K mg base k f sp) (h : ∀ H Q E, sp' H Q E → sp H Q E) : LHeld P w K mg base k f sp' :=
  ⟨fun A outer s H Q E r e q => L.run A outer s H Q E r e (h _ _ _ q), fun H Q E q => L.fn H Q E (h _ _ _ q)⟩
theorem LHeld.mono {P : Program} {w : World} {K : PySem.W.Frag} {mg : Str → Option Value} {base : Heap} {j k : Nat} {f : Addr} {sp : Hp → VK → XK → Prop} (L : LHeld P w K mg base j f sp) (h : j ≤ k) : LHeld P w K mg base k f sp :=
  ⟨fun A outer s H Q E r e q => L.run A outer s H Q E (r.mono h) e q, L.fn⟩
/-- captured cells: val tells what they hold, ps the pins -/
structure CapP (cells : List (Str × Addr)) (val : List (Str × V)) (ps : Pins) : Prop where
  h : ∀ y v, val.lookup y = some v → ∃ (c : Addr) (o : Obj) (u : Value), cells.lookup y = some c ∧ ps.lookup c = some o ∧ o.data = .cell (some u) ∧ RelV v u
/-- the defaults' tuple -/
def DefAt (H : Hp) (dV : Value) (ds : List V) : Prop := (ds = [] ∧ dV = .none) ∨ ds ≠ [] ∧ ∃ T, dV = .ref T ∧ H T = some (.tup ds)
theorem DefAt.fx {M : List Addr} {H H' : Hp} {dV : Value} {ds : List V} (d : DefAt H dV ds) (f : Fx M H H') : DefAt H' dV ds := d.imp id fun ⟨n, T, e, h⟩ => ⟨n, T, e, f.t _ _ h⟩
/-- how a lambda's parameters are bound -/
structure LBind (ps : List Str) (ds : List V) (params : Arguments) (body : Expr) (scope : Scope) : Prop where
  len : ds.length = ps.length
  b0 : ds = [] → ∀ (q : Str) (cl : List (Str × Addr)) (pm cv ct : Value), bindArgs (lfd q params body scope cl .none pm cv ct) ⟨[], []⟩ = pure []
  b1 : ds ≠ [] → ∀ (T : Addr) (q : Str) (cl : List (Str × Addr)) (pm cv ct : Value) (us : List Value), us.length = ds.length → ∃ k, bindArgs (lfd q params body scope cl (.ref T) pm cv ct) ⟨[], []⟩ = seqItems? (.ref T) >>= k ∧ k (some us.toArray) = pure (ps.zip us)
abbrev lnf (q : Str) (params : Arguments) (scope : Scope) (cl : List (Str × Addr)) (c' : Addr) : NF := ⟨"<lambda>", q, params, [], scope, cl, c'⟩
/-- the context of the lambda's body -/
abbrev lcx (P : Program) (w : World) (K : PySem.W.Frag) (mg : Str → Option Value) (base : Heap) (N : List Str) (q : Str) (params : Arguments) (scope : Scope) (cl : List (Str × Addr)) (c' f : Addr) (A : Around) (outer : List Env) (s : Shared) (H : Hp) (E : XK) : Cx :=
  ncx (L2.CX P w) P w K mg base N (lnf q params scope cl c') f A outer s H E
def lspec (q : Str) (params : Arguments) (body : Expr) (scope : Scope) (cl : List (Str × Addr)) (dV pm ctv : Value) (f c' : Addr) (ps fr : List Str) (ds : List V) (val : List (Str × V)) (pn : Pins) (t : XK → TE) : Hp → VK → XK → Prop := fun H Q E =>
  Lie H pn ∧ H f = some (pinO (lfo q params body scope cl dV pm (.ref c') ctv)) ∧ H c' = some (CodeO c' q) ∧ DefAt H dV ds ∧
    t (fun c d H' => Free H' pn → E c d (addP pn H')) (ds.map some ++ fr.map fun y => val.lookup y) (delP pn H) (fun v H' => Free H' pn → Q v (addP pn H'))
section
variable {P : Program} {w : World} {K : PySem.W.Frag} {mg : Str → Option Value} {base : Heap}
theorem lam_held {q : Str} {params : Arguments} {body : Expr} {scope : Scope} {cells : List (Str × Addr)} {dV pm ctv : Value} {f c' : Addr} {ps fr : List Str} {ds : List V} {val : List (Str × V)} {pn : Pins} {t : XK → TE} {k : Nat}
    (hinj : ∀ x y c, cells.lookup x = some c → cells.lookup y = some c → x = y) (hfree : ∀ y ∈ scope.names, y.2 = .free → ∃ c, cells.lookup y.1 = some c) (S : NScope (ps ++ fr) ps fr scope) (hval : fr.all (fun y => (val.lookup y).isSome) = true) (C : CapP cells val pn) (B : LBind ps ds params body scope)
    (hbody : ∀ (A : Around) (outer : List Env) (s : Shared) (H : Hp) (E : XK), Room k (A.deeper (envF (lnf q params scope (cloFrom cells scope.names []) c') f s.heap.objs.size)) → PE (lcx P w K mg base (ps ++ fr) q params scope (cloFrom cells scope.names []) c' f A outer s H E) body (t E)) :
    LHeld P w K mg base (k + 1) f (lspec q params body scope (cloFrom cells scope.names []) dV pm ctv f c' ps fr ds val pn t) := by
  refine ⟨fun A outer s H Q E hr e0 hsp => ?_, fun H Q E hsp => ⟨_, hsp.2.1⟩⟩
  obtain ⟨l, hf, hc, hD, ht⟩ := hsp
  have e1 := Env0.delP e0 l
  have nfr : ∀ a o, pn.lookup a = some o → a ∉ frs outer := fun a o e m => by
    have := e0.frf a m
    rw [l a o e] at this
    cases this
  have hg : ∀ a o, pn.lookup a = some o → s.heap.get? a = some o := fun a o e => pin_at e0.hok (l a o e)
  have ho : s.heap.get? f = some (lfo q params body scope (cloFrom cells scope.names []) dV pm (.ref c') ctv) := pin_at e0.hok hf
  have hcd := codeO_at e0.hok hc
  have lim : s.heap.NoLimit := e0.mod.nolimit.keeps fun b o e => (e0.bs b o e).1
  -- the cells
  have CA : CellsAt (cloFrom cells scope.names []) fr (fr.map fun y => val.lookup y) s.heap (delP pn H) := by
    have get : ∀ y ∈ fr, ∃ (v : V) (c : Addr) (o : Obj) (u : Value), val.lookup y = some v ∧ cells.lookup y = some c ∧ pn.lookup c = some o ∧ o.data = .cell (some u) ∧ RelV v u := fun y hy => by
      obtain ⟨v, hv⟩ := Option.isSome_iff_exists.mp (List.all_eq_true.mp hval y hy)
      obtain ⟨c, o, u, a1, a2, a3, a4⟩ := C.h y v hv
      exact ⟨v, c, o, u, hv, a1, a2, a3, a4⟩
    refine ⟨by rw [List.length_map], fun y c e => ?_, fun x y c e1 e2 => hinj x y c (clo_cm hfree e1) (clo_cm hfree e2), fun i y e => ?_⟩
    · have ec := clo_cm hfree e
      rcases cloFrom_mem (PySem.mem_of_lookup e) with hm | ⟨h1, _⟩
      · cases hm
      · obtain ⟨v, c2, o, u, _, a1, a2, a3, _⟩ := get y (S.free _ h1 rfl)
        rw [ec] at a1
        cases a1
        exact ⟨delP_in a2, _, o, hg _ _ a2, a3⟩
    · have hy := List.mem_of_getElem? e
      obtain ⟨v, c, o, u, hv, a1, a2, a3, a4⟩ := get y hy
      refine ⟨c, clo_has hfree (PySem.mem_of_lookup (S.frk y hy)) a1, fun v' e' => ?_⟩
      rw [List.getElem?_map, e] at e'
      have e2 : val.lookup y = some v' := Option.some.inj e'
      rw [hv] at e2
      cases e2
      exact ⟨u, a4, o, hg _ _ a2, a3⟩
  -- the call
  have go : ∀ us : List Value, Vals ds us → BindsTo s (lfd q params body scope (cloFrom cells scope.names []) dV pm (.ref c') ctv) ⟨[], []⟩ (ps.zip us) → codeAny (model P w) A (.call (.ref f) ⟨[], []⟩) (CR (L2.CX P w) outer P w (delP pn H) s (fun v H' => Free H' pn → Q v (addP pn H')) (fun c d H' => Free H' pn → E c d (addP pn H'))) s := fun us ru hb => by
    refine PySem.W.kla_callFunE hr.depth ho rfl S.co S.gen rfl hcd (hb _ _ _ _ ?_)
    refine wpAny_newFunctionEnv S.nocell (fun ⟨n, _⟩ hy => S.par n (List.of_mem_zip hy).1) (fun h₁ hns hsb => ⟨lim.fresh _ hsb, ?_⟩) S.kind
    show codeAny _ _ (.expr body (envF (lnf q params scope (cloFrom cells scope.names []) c') f s.heap.objs.size)) _ _
    have kp : ∀ b o, s.heap.get? b = some o → h₁.get? b = some o := fun b o e => hsb.extBut b o (Nat.ne_of_lt (Heap.lt_size e)) (Heap.get?_push_of_some _ e)
    have J := inv_startN (CX := L2.CX P w) (f := f) (tk := s.toks + (ps.zip us).length) (F := lnf q params scope (cloFrom cells scope.names []) c') (E := fun c d H' => Free H' pn → E c d (addP pn H')) S hr.hd e1 B.len ru CA hns kp
    have est : startF (ps ++ fr) ds (fr.map fun y => val.lookup y) = ds.map some ++ fr.map fun y => val.lookup y := by
      unfold startF
      rw [List.length_append, List.length_map, B.len, show ps.length + fr.length - ps.length - fr.length = 0 by omega, List.replicate_zero, List.append_nil]
    rw [est] at J
    refine PySem.W.kla_codeExpr (wpAny_mono ((hbody A outer s (delP pn H) _ (hr.deeper _)).run [] _ _ _ (fun v H' => Free H' pn → Q v (addP pn H')) J ht) (fun v s' hq => ?_) fun e s' hq => hq)
    obtain ⟨w', H', J', rv, q'⟩ := hq
    exact ⟨w', H', J'.os, J'.bare, J'.base, J'.hok, rv, q'⟩
  have all : codeAny (model P w) A (.call (.ref f) ⟨[], []⟩) (CR (L2.CX P w) outer P w (delP pn H) s (fun v H' => Free H' pn → Q v (addP pn H')) (fun c d H' => Free H' pn → E c d (addP pn H'))) s := by
    rcases hD with ⟨e, rfl⟩ | ⟨hne, T, rfl, hT⟩
    · subst e
      refine go [] .nil ?_
      have : ps.zip ([] : List Value) = [] := List.zip_nil_right
      rw [this]
      exact .of_eq (B.b0 rfl q _ pm _ ctv)
    · obtain ⟨_, its, ri, o, hto, hcls, n, hdat⟩ := e0.hok T _ hT
      refine go its ri ?_
      obtain ⟨kk, k1, k2⟩ := B.b1 hne T q (cloFrom cells scope.names []) pm (.ref c') ctv its ri.length.symm
      intro M A' E' Q' hq
      rw [k1]
      refine wpAny_bind (wpAny_seqItems hto hdat ?_)
      rw [k2]
      exact wpAny_pure hq
  refine codeAny_mono all fun r s' hq => ?_
  cases r with
  | error e => exact cx_on l e0.hok nfr hq
  | ok fl =>
    cases fl with
    | ret u => exact ce_on l e0.hok nfr hq
    | next => exact False.elim hq
    | brk => exact False.elim hq
    | cont => exact False.elim hq
end
end Mh
/-! MhCallP -/
namespace Mh
open PySem PySem.Spec PyProof.Rows L2 LamX NdefX
/-! ### lambdas as values -/
/-- at f lies a lambda whose body reads t, which captures fr -/
structure LamP (P : Program) (w : World) (K : PySem.W.Frag) (mg : Str → Option Value) (base : Heap) (k : Nat) (cells : List (Str × Addr)) (fr : List Str) (ds : List V) (t : XK → TE) (f : Addr) (H1 : Hp) : Prop where
  ex : ∃ lie : Hp → Prop, lie H1 ∧ (∀ M H H', lie H → Fx M H H' → (∀ b ∈ M, ∀ p, H b ≠ some (.ext p)) → lie H') ∧ ∀ (val : List (Str × V)) (pn : Pins), fr.all (fun y => (val.lookup y).isSome) = true → CapP cells val pn →
    LHeld P w K mg base k f (fun H Q E => lie H ∧ Lie H pn ∧ t (fun c d H' => Free H' pn → E c d (addP pn H')) (ds.map some ++ fr.map fun y => val.lookup y) (delP pn H) (fun v H' => Free H' pn → Q v (addP pn H')))
theorem LamP.up {P : Program} {w : World} {K : PySem.W.Frag} {mg : Str → Option Value} {base : Heap} {k : Nat} {cells : List (Str × Addr)} {fr : List Str} {ds : List V} {t : XK → TE} {f : Addr} {H1 H2 : Hp} (x : LamP P w K mg base k cells fr ds t f H1) (g : Fx [] H1 H2) : LamP P w K mg base k cells fr ds t f H2 :=
  let ⟨lie, a, b, c⟩ := x.ex; ⟨lie, b _ _ _ a g (fun _ m => nomatch m), b, c⟩
/-- .. while a table is written -/
theorem LamP.upT {P : Program} {w : World} {K : PySem.W.Frag} {mg : Str → Option Value} {base : Heap} {k : Nat} {cells : List (Str × Addr)} {fr : List Str} {ds : List V} {t : XK → TE} {f : Addr} {H1 H2 : Hp} {T : List (Addr × Str)} {Pt : Addr} {q : Str} (x : LamP P w K mg base k cells fr ds t f H1) (hT : Tabs T H1) (m : (Pt, q) ∈ T) (g : Fx [Pt] H1 H2) : LamP P w K mg base k cells fr ds t f H2 :=
  let ⟨lie, a, b, c⟩ := x.ex; ⟨lie, b _ _ _ a g (fun _ m2 p e => by rw [List.mem_singleton.mp m2] at e; obtain ⟨qs, h, _⟩ := hT _ m; have h : H1 Pt = some (.tbl qs) := h; rw [h] at e; cases e), b, c⟩
/-- the reading: the lambda's object is new -/
def tLamR (P : Program) (w : World) (K : PySem.W.Frag) (mg : Str → Option Value) (base : Heap) (T : List (Addr × Str)) (Pt : Addr) (k : Nat) (cells : List (Str × Addr)) (fr : List Str) (ds : List V) (t : XK → TE) : TE := fun _ H Q =>
  Tabs T H ∧ ∀ (f : Addr) (H1 : Hp), Fx [Pt] H H1 → Tabs T H1 → H f = none → H1 f ≠ none → LamP P w K mg base k cells fr ds t f H1 → Q (.ref f) H1
section
variable {X : Cx}
theorem lam_end {k : Nat} {ps fr : List Str} {ds : List V} {t : XK → TE} {q : Str} {params : Arguments} {body : Expr} {scope : Scope} {dV pm ctv : Value} {f c' : Addr} {H1 : Hp} (hcl : X.Ok) (hfree : ∀ y ∈ scope.names, y.2 = .free → ∃ c, X.env.cells.lookup y.1 = some c)
    (S : NScope (ps ++ fr) ps fr scope) (B : LBind ps ds params body scope)
    (hbody : ∀ (cl : List (Str × Addr)) (f c' : Addr) (A : Around) (outer : List Env) (s : Shared) (H : Hp) (E : XK), Room k (A.deeper (envF (lnf q params scope cl c') f s.heap.objs.size)) → PE (lcx X.prog X.w X.K X.mg X.base (ps ++ fr) q params scope cl c' f A outer s H E) body (t E))
    (hf : H1 f = some (pinO (lfo q params body scope (cloFrom X.env.cells scope.names []) dV pm (.ref c') ctv))) (hc : H1 c' = some (CodeO c' q)) (hD : DefAt H1 dV ds) : LamP X.prog X.w X.K X.mg X.base (k + 1) X.env.cells fr ds t f H1 := by
  refine ⟨fun H => H f = some (pinO (lfo q params body scope (cloFrom X.env.cells scope.names []) dV pm (.ref c') ctv)) ∧ H c' = some (CodeO c' q) ∧ DefAt H dV ds, ⟨hf, hc, hD⟩, fun M H H' ⟨a, b, d⟩ g m => ⟨g.z _ _ _ a, g.to b (fun z => m _ z _ b), d.fx g⟩, fun val pn hv C => ?_⟩
  exact (lam_held hcl.inj hfree S hv C B (fun A outer s H E hr => hbody _ f c' A outer s H E hr)).imp fun H Q E ⟨⟨a, b, d⟩, l, z⟩ => ⟨l, a, b, d, z⟩
/-- lambda: body -/
theorem pe_lam0 {T : List (Addr × Str)} {c Pt : Addr} {k : Nat} {fr : List Str} {t : XK → TE} {params : Arguments} {body : Expr} {scope : Scope} {pos : Pos} (TB : TabB X.base X.mg c Pt) (hcode : X.env.code = .ref c) (hm : (Pt, X.env.qual ++ "<lambda>") ∈ T) (hu : ∀ p ∈ T, p.1 = Pt → p.2 = X.env.qual ++ "<lambda>")
    (hB : ndefB X.env.scope scope fr = true) (S : NScope ([] ++ fr) [] fr scope) (B : LBind [] [] params body scope) (hdef : defaultsOf params X.env = ([], []))
    (hbody : ∀ (cl : List (Str × Addr)) (f c' : Addr) (A : Around) (outer : List Env) (s : Shared) (H : Hp) (E : XK), Room k (A.deeper (envF (lnf (X.env.qual ++ "<lambda>") params scope cl c') f s.heap.objs.size)) → PE (lcx X.prog X.w X.K X.mg X.base ([] ++ fr) (X.env.qual ++ "<lambda>") params scope cl c' f A outer s H E) body (t E)) :
    PE X (.Lambda params body scope pos) (tLamR X.prog X.w X.K X.mg X.base T Pt (k + 1) X.env.cells fr [] t) := by
  refine ⟨fun pins s σ H Q I h => ?_⟩
  obtain ⟨hT, h⟩ := h
  have hfree : ∀ y ∈ scope.names, y.2 = .free → ∃ c, X.env.cells.lookup y.1 = some c := fun y hy e => (ndef_free hB y hy e).elim (fun z => I.ok.has _ (.inl z)) fun z => I.ok.has _ (.inr z)
  refine lam_eval0 hdef (lam_mk I TB hcode hm hu hT hfree fun f c' pm ctv H1 s' I1 g T1 n e1 e2 => ?_)
  exact ⟨.ref f, H1, I1, rfl, h f H1 g T1 n (by rw [e1]; exact fun z => nomatch z) (lam_end I.ok hfree S B hbody e1 e2 (.inl ⟨rfl, rfl⟩))⟩
/-- lambda x=e: body -/
theorem pe_lam1 {T : List (Addr × Str)} {c Pt : Addr} {k : Nat} {x : Str} {fr : List Str} {e : Expr} {v : V} {t : XK → TE} {params : Arguments} {body : Expr} {scope : Scope} {pos : Pos} (TB : TabB X.base X.mg c Pt) (hcode : X.env.code = .ref c) (hm : (Pt, X.env.qual ++ "<lambda>") ∈ T) (hu : ∀ p ∈ T, p.1 = Pt → p.2 = X.env.qual ++ "<lambda>")
    (hB : ndefB X.env.scope scope fr = true) (S : NScope ([x] ++ fr) [x] fr scope) (B : LBind [x] [v] params body scope) (hdef : defaultsOf params X.env = ([eval e X.env], [])) (he : PE X e (tC v))
    (hbody : ∀ (cl : List (Str × Addr)) (f c' : Addr) (A : Around) (outer : List Env) (s : Shared) (H : Hp) (E : XK), Room k (A.deeper (envF (lnf (X.env.qual ++ "<lambda>") params scope cl c') f s.heap.objs.size)) → PE (lcx X.prog X.w X.K X.mg X.base ([x] ++ fr) (X.env.qual ++ "<lambda>") params scope cl c' f A outer s H E) body (t E)) :
    PE X (.Lambda params body scope pos) (tLamR X.prog X.w X.K X.mg X.base T Pt (k + 1) X.env.cells fr [v] t) := by
  refine ⟨fun pins s σ H Q I h => ?_⟩
  obtain ⟨hT, h⟩ := h
  refine lam_eval1 hdef (thn (he.run pins s σ H (fun v' H' => v' = v ∧ H' = H) I ⟨rfl, rfl⟩) fun u s1 hu1 => ?_)
  obtain ⟨v', H', I1, ru, ev, eH⟩ := hu1
  subst ev
  rw [eH] at I1
  have kp : ∀ b o, s1.heap.get? b = some o → (s1.heap.push { cls := .type "tuple", data := .seq [u].toArray }).get? b = some o := fun b o e => Heap.get?_push_of_some _ e
  have hget : (s1.heap.push { cls := .type "tuple", data := .seq [u].toArray }).get? s1.heap.objs.size = some { cls := .type "tuple", data := .seq [u].toArray } := Heap.get?_push_size _ rfl
  have nT : H s1.heap.objs.size = none := I1.hok.fresh (Nat.le_refl _)
  have I2 := I1.laid (t' := s1.toks) (a := s1.heap.objs.size) (o := .tup [v']) kp (Nat.le_refl _) ⟨by show 1 ≤ sizeLine; decide, [u], .cons ru .nil, _, hget, rfl, _, rfl⟩
  have g0 : Fx [] H (upd H s1.heap.objs.size (.tup [v'])) := Fx.new nT
  have ht : upd H s1.heap.objs.size (.tup [v']) s1.heap.objs.size = some (.tup [v']) := upd_same
  have hfree : ∀ y ∈ scope.names, y.2 = .free → ∃ c, X.env.cells.lookup y.1 = some c := fun y hy e => (ndef_free hB y hy e).elim (fun z => I.ok.has _ (.inl z)) fun z => I.ok.has _ (.inr z)
  refine lam_mk I2 TB hcode hm hu (Tabs.fx hT g0) hfree fun f c' pm ctv H1 s' I3 g T1 n e1 e2 => ?_
  exact ⟨.ref f, H1, I3, rfl, h f H1 (g0.nil.trans g) T1 (g0.free n) (by rw [e1]; exact fun z => nomatch z) (lam_end I.ok hfree S B hbody e1 e2 (.inr ⟨List.cons_ne_nil _ _, _, rfl, g.t _ _ ht⟩))⟩
end
/-! ### a def called while the caller's cells are pinned -/
/-- the reading: caps, the names and slots of the cells -/
def tCallP (cells : List (Str × Addr)) (caps : List (Str × Nat)) (sp : Sp) (E : XK) (t : TA) : TE := fun σ H Q => t σ H fun vs H1 => ∃ ws : List V, caps.map (fun q => σ[q.2]?) = ws.map (fun v => some (some v)) ∧
  ∀ pn : Pins, CapP cells ((caps.map (·.1)).zip ws) pn → Free H1 pn → sp vs (addP pn H1) (fun v H' => Q v (delP pn H')) (fun c d H' => E c d (delP pn H'))
def capsB (N : List Str) (sc : Scope) (caps : List (Str × Nat)) : Bool := caps.all fun q => decide (N[q.2]? = some q.1) && decide (sc.names.lookup q.1 = some .cell)
section
variable {X : Cx} {pins : List (Addr × Obj)} {σ : L2.St} {H : Hp} {s : Shared} {caps : List (Str × Nat)} {ws : List V}
theorem lookup_mapSelf {β : Type} (g : Addr → β) : ∀ (l : List Addr) (a : Addr), (l.map fun a => (a, g a)).lookup a = if a ∈ l then some (g a) else none
  | [], a => rfl
  | b :: l, a => by
    rw [List.map_cons, List.lookup_cons]
    by_cases e : a = b
    · subst e
      rw [beq_self_eq_true, if_pos List.mem_cons_self]
    · have e1 : (a == b) = false := by simpa using e
      rw [e1, lookup_mapSelf g l a]
      by_cases h : a ∈ l
      · rw [if_pos h, if_pos (List.mem_cons_of_mem _ h)]
      · rw [if_neg h, if_neg fun z => (List.mem_cons.mp z).elim e h]
theorem lookup_zip {α β : Type} [BEq α] [LawfulBEq α] : ∀ {ks : List α} {vs : List β} {y : α} {v : β}, (ks.zip vs).lookup y = some v → ∃ i : Nat, ks[i]? = some y ∧ vs[i]? = some v
  | [], _, _, _, h => by simp at h
  | _ :: _, [], _, _, h => by simp at h
  | k :: ks, w :: vs, y, v, h => by
    rw [List.zip_cons_cons, List.lookup_cons] at h
    cases e : (y == k) with
    | true =>
      rw [e] at h
      have := eq_of_beq e
      subst this
      exact ⟨0, rfl, h⟩
    | false =>
      rw [e] at h
      obtain ⟨i, h1, h2⟩ := lookup_zip h
      exact ⟨i + 1, h1, h2⟩
/-- the caller's cells, pinned -/
theorem pins_of (I : Inv X pins σ H s) (hfn : ∀ x, X.fn x = true) (hc : capsB X.N X.env.scope caps = true) (hw : caps.map (fun q => σ[q.2]?) = ws.map (fun v => some (some v))) :
    ∃ pn : Pins, CapP X.env.cells ((caps.map (·.1)).zip ws) pn ∧ Free H pn ∧ PinsAt X.base X.stack s.heap pn ∧ ∀ a o, pn.lookup a = some o → ∃ x, X.env.cells.lookup x = some a := by
  have cell : ∀ (i : Nat) (q : Str × Nat) (v : V), caps[i]? = some q → ws[i]? = some v → ∃ (c : Addr) (o : Obj) (u : Value), X.env.cells.lookup q.1 = some c ∧ s.heap.get? c = some o ∧ o.data = .cell (some u) ∧ RelV v u := fun i q v h1 h2 => by
    obtain ⟨a1, a2⟩ := Bool.and_eq_true_iff.mp (List.all_eq_true.mp hc q (List.mem_of_getElem? h1))
    have a1 := of_decide_eq_true a1
    have a2 := of_decide_eq_true a2
    have e : σ[q.2]? = some (some v) := by
      have := congrArg (·[i]?) hw
      simp only [List.getElem?_map, h1, h2, Option.map_some] at this
      exact Option.some.inj this
    obtain ⟨m, hn, hl⟩ := I.loc
    obtain ⟨u, ru, l⟩ := hl q.2 q.1 v a1 e (.inr (.inl a2))
    rcases l with ⟨z, _⟩ | ⟨_, c, e1, o, e2, e3⟩
    · have z' : X.env.scope.names.lookup q.1 = some .local := z
      rw [a2] at z'
      cases z'
    · exact ⟨c, o, u, e1, e2, e3, ru⟩
  let as : List Addr := caps.filterMap fun q => X.env.cells.lookup q.1
  have hlk : ∀ a o, (as.map fun a => (a, (s.heap.get? a).getD default)).lookup a = some o → ∃ q ∈ caps, X.env.cells.lookup q.1 = some a ∧ o = (s.heap.get? a).getD default := fun a o e => by
    rw [lookup_mapSelf] at e
    split at e
    · rename_i hm
      obtain ⟨q, hq, e1⟩ := List.mem_filterMap.mp hm
      exact ⟨q, hq, e1, (Option.some.inj e).symm⟩
    · cases e
  have hat : ∀ a o, (as.map fun a => (a, (s.heap.get? a).getD default)).lookup a = some o → s.heap.get? a = some o ∧ ∃ x, X.env.cells.lookup x = some a := fun a o e => by
    obtain ⟨q, _, e1, e2⟩ := hlk a o e
    obtain ⟨v, o', e3, _⟩ := I.cell _ _ e1
    rw [e3] at e2
    exact ⟨by rw [e2]; exact e3, q.1, e1⟩
  refine ⟨as.map fun a => (a, (s.heap.get? a).getD default), ⟨fun y v e => ?_⟩, fun a o e => ?_, ⟨fun a o e => (hat a o e).1, fun a o e m => ?_, fun a o e => ?_⟩, fun a o e => (hat a o e).2⟩
  · obtain ⟨i, h1, h2⟩ := lookup_zip e
    rw [List.getElem?_map] at h1
    obtain ⟨q, hq, rfl⟩ := Option.map_eq_some_iff.mp h1
    obtain ⟨c, o, u, e1, e2, e3, e4⟩ := cell i q v hq h2
    refine ⟨c, o, u, e1, ?_, e3, e4⟩
    rw [lookup_mapSelf, if_pos (List.mem_filterMap.mpr ⟨q, List.mem_of_getElem? hq, e1⟩), e2]
    rfl
  · obtain ⟨_, x, e1⟩ := hat a o e
    exact I.freeC x a e1
  · obtain ⟨_, x, e1⟩ := hat a o e
    have lo : a ∈ frs X.outer → False := fun hb => by
      obtain ⟨_, o2, e2, _⟩ := I.ok.funs.mem hb
      exact absurd (Nat.lt_of_lt_of_le (Heap.lt_size e2) (I.ok.cab x a (hfn x) e1)) (Nat.lt_irrefl _)
    rcases I.ok.stk with h | ⟨h, hf⟩
    · rw [h] at m; exact lo m
    · rw [h] at m
      obtain ⟨env, he, e3⟩ := List.mem_filterMap.mp m
      rcases List.mem_cons.mp he with rfl | he
      · rw [hf] at e3
        exact I.cne x a e1 (Option.some.inj e3).symm
      · exact lo (List.mem_filterMap.mpr ⟨env, he, e3⟩)
  · obtain ⟨_, x, e1⟩ := hat a o e
    have := I.ok.cab x a (hfn x) e1
    exact Heap.get?_none_of_le (Nat.le_trans I.ok.bsz this)
theorem pe_defP {k : Nat} {ps : List Str} {sp : Sp} {x : Str} {p pos : Pos} {e : Expr} {es : List Expr} {t : TA} (F : Def X.prog X.w X.K X.mg X.base CX0 k x ps sp) (hr : Room k X.A) (hfn : ∀ x, X.fn x = true) (hc : capsB X.N X.env.scope caps = true) (ha : PA X (e :: es) t) (hg : Gl X x := by rfl) (hdb : (x == ("__debug__" : Str)) = false := by decide)
    (he : starEach (e :: es) X.env = (false, eval e X.env) :: starEach es X.env := by rfl) (hpl : (backTo pos (starEach es X.env)).any (·.1) = false := by rfl) :
    PE X (.Call (.Name x p) (e :: es) [] pos) (tCallP X.env.cells caps sp E0 t) := by
  obtain ⟨f, fd, F1, hb, g, kp⟩ := F.ex
  refine ⟨fun pins s σ H Q I h => ?_⟩
  refine wpAny_Call_Name_kw (ld_glob I hg g ?_ hdb)
  refine PySem.W.callWith_K (h₀ := X.base) I.ok.mod.kin kp (thn (ha.run pos pins s σ H _ I h) fun us s1 ⟨vs, H1, I1, r, ws, hw, q⟩ => ⟨I1.kIn, ?_⟩) he hpl
  obtain ⟨pn, C, n, pa, _⟩ := pins_of I1 hfn hc hw
  have hsp := q pn C n
  have hl : us.length = ps.length := by rw [← r.length]; exact F1.len _ _ _ _ hsp
  have b := hb s1 us I1.kIn (by rw [List.append_nil]; exact hl)
  rw [List.append_nil] at b
  refine wpAny_call (codeAny_mono (F1.run X.A X.stack s1 (addP pn H1) ⟨us, []⟩ us vs _ _ hr (Env0.addP I1.env0 n pa) b r hsp) fun r s' hq => ?_)
  cases r with
  | error e => exact False.elim hq
  | ok fl =>
    cases fl with
    | ret u => exact I1.after (ce_off n (fun a o e => ⟨pa.g a o e, pa.f a o e⟩) hq)
    | next => exact False.elim hq
    | brk => exact False.elim hq
    | cont => exact False.elim hq
end
/-! ### a local name called that holds such a lambda -/
def tCallH (P : Program) (w : World) (K : PySem.W.Frag) (mg : Str → Option Value) (base : Heap) (k i : Nat) (E : L2.St → XK) : TE := fun σ H Q => ∃ (f : Addr) (sp : Hp → VK → XK → Prop), σ[i]? = some (some (.ref f)) ∧ LHeld P w K mg base k f sp ∧ sp H Q (E σ)
theorem pe_callH {X : Cx} {k i : Nat} {x : Str} {p pos : Pos} {W : WX} (hr : Room k X.A) (hN : X.N[i]? = some x) (hv : Vis X.env.scope x) (tk : Takes X W) (hd : (x == ("__debug__" : Str)) = false := by decide) (hcd : (x == ("__classdict__" : Str)) = false := by decide) :
    PE X (.Call (.Name x p) [] [] pos) (tCallH X.prog X.w X.K X.mg X.base k i (WE W)) := by
  refine ⟨fun pins s σ H Q I h => ?_⟩
  obtain ⟨f, sp, hs, L, hsp⟩ := h
  refine wpAny_Call_Name_kw (thn ((pe_var (pos := p) hN hv hd hcd).run pins s σ H (fun v H1 => v = .ref f ∧ H1 = H) I ⟨.ref f, hs, rfl, rfl⟩) fun u s1 ⟨v, H1, I1, r1, ev, eH⟩ => ?_)
  subst ev
  rw [eH] at I1
  obtain rfl : u = Value.ref f := r1
  obtain ⟨fd, hf⟩ := L.fn _ _ _ hsp
  refine PySem.W.callWith_F0 (first := []) ⟨_, _, _, _, pin_at I1.hok hf⟩ ?_
  show wpAny _ _ (call (.ref f) []) _ _ _
  refine wpAny_call (codeAny_mono (L.run X.A X.stack s1 H Q (WE W σ) hr I1.env0 hsp) fun r s' hq => ?_)
  cases r with
  | error e => exact passAt tk σ pins H s1 e s' I1 hq
  | ok fl =>
    cases fl with
    | ret u => exact I1.after hq
    | next => exact False.elim hq
    | brk => exact False.elim hq
    | cont => exact False.elim hq
theorem xpe_callH {X : Cx} {P : Program} {w : World} {K : PySem.W.Frag} {mg : Str → Option Value} {base : Heap} {k i : Nat} {x : Str} {p pos : Pos} {W : WX} (e1 : X.prog = P) (e2 : X.w = w) (e3 : X.K = K) (e4 : X.mg = mg) (e5 : X.base = base) (hr : Room k X.A) (hN : X.N[i]? = some x) (hv : Vis X.env.scope x) (tk : Takes X W) (hd : (x == ("__debug__" : Str)) = false := by decide) (hcd : (x == ("__classdict__" : Str)) = false := by decide) :
    PE X (.Call (.Name x p) [] [] pos) (tCallH P w K mg base k i (WE W)) := by
  subst e1 e2 e3 e4 e5
  exact pe_callH hr hN hv tk hd hcd
theorem pssNever {X : Cx} {sts : List Stmt} : PSs X sts (fun _ _ _ => False) := ⟨fun _ _ _ _ _ _ h => h.elim⟩
end Mh
/-! MhExN -/
namespace MhN
open PySem PySem.Spec PyProof.Rows L2 Mh PySem.HandSPX
/-! ### a refusal made where its context will be asked for -/
section
variable {X : Cx} {x f : Str} {p p2 pos : Pos} {e : Expr} {es : List Expr} {ta : TA}
theorem pmk_oexN {C fI : Addr} {k : Nat} {fd : FuncData} {ps : List Str} {sp : Sp} (T : OexC X.K C) (iC : PySem.W.findIn X.K (.ref C) "__init__" = some (some (.ref fI))) (tI : PySem.W.typeIn X.K (.ref fI) = some (.type "function")) (F1 : FnOk X.prog X.w X.K X.mg X.base CX0 k fI fd ps sp) (hr : Room (k + 1) X.A) (hb : Binds X.K fd ps [])
    (hg : Gl X x) (hm : X.mg x = some (.ref C)) (ha : PA X (e :: es) ta) (hdb : (x == ("__debug__" : Str)) = false := by decide) (he : starEach (e :: es) X.env = (false, eval e X.env) :: starEach es X.env := by rfl) (hpl : (backTo pos (starEach es X.env)).any (·.1) = false := by rfl) :
    L2N.PMk X (.Call (.Name x p) (e :: es) [] pos) (tMkO C sp [] ta) := fun pins s σ H Q I w => by
  obtain ⟨nm, q, N, bs, bm, sn, sub, ab, col, dd, k0, k1, k2, k3, k5, hC, hbm⟩ := T.cls
  refine wpAny_Call_Name_kw (ld_glob I hg hm (PySem.W.callWith_K (h₀ := X.base) I.ok.mod.kin T.kC (thn (ha.run pos pins s σ H _ I w) fun us s1 ⟨vs, H1, I1, r1, hz, q1⟩ => ⟨I1.kIn, ?_⟩) he hpl) hdb)
  show wpAny (model X.prog X.w) X.A (call (.ref C) us) _ X.xe s1
  obtain ⟨h1, g1, d1, t1, o1⟩ := s1
  generalize hn2 : h1.objs.size + 1 = n2
  have le : h1.objs.size ≤ n2 := by omega
  have fresh : H1 n2 = none := I1.hok.fresh le
  have want := q1 n2 fresh
  rw [List.append_nil] at want
  have more : ∀ b o, h1.get? b = some o → ((h1.push (PySem.W.kdv_tup us)).push (excO C h1.objs.size)).get? b = some o := fun b o z => Heap.get?_push_of_some _ (Heap.get?_push_of_some _ z)
  have at2 : ((h1.push (PySem.W.kdv_tup us)).push (excO C h1.objs.size)).get? n2 = some (excO C h1.objs.size) := by
    rw [← hn2]
    heap_get
  have I2 : Inv X pins σ (upd H1 n2 (exo n2 C none)) ⟨(h1.push (PySem.W.kdv_tup us)).push (excO C h1.objs.size), g1, d1, t1, o1⟩ := I1.laid (t' := t1) (h' := (h1.push (PySem.W.kdv_tup us)).push (excO C h1.objs.size)) more le (exo_ok at2)
  have r2 : Vals (V.ref n2 :: vs) (Value.ref n2 :: us) := .cons rfl r1
  have len2 : (Value.ref n2 :: us).length = ps.length := by rw [← r2.length]; exact F1.len _ _ _ _ want
  have bind2 := hb _ (Value.ref n2 :: us) I2.kIn (by rw [List.append_nil]; exact len2)
  rw [List.append_nil] at bind2
  have run := F1.run _ X.stack _ _ ⟨Value.ref n2 :: us, []⟩ (Value.ref n2 :: us) _ _ (fun _ _ _ => False) (hr.make C us []) (I2.env0.make C us []) bind2 r2 want
  have few : us.length ≤ sizeLine := by rw [← Paired.length r1, sizeLine_eq]; omega
  subst hn2
  refine wpAny_call (call_own F.excBase_ValueError (fun Y => refsVE_contains Y bm hbm) (I1.kIn _ _ hC) (PySem.W.looks_findIn I1.kIn iC) (fun self => PySem.W.bind_fn I1.kIn self tI) few (codeAny_mono run fun r s2 z => ?_))
  match r, z with
  | .ok (.ret u), ⟨v, H2, os2, bare2, un2, hok2, rv, ev, d, fs, ea, ed, hd1, q2⟩ =>
    subst ev
    obtain ⟨h2, g2, d2, t2, o2⟩ := s2
    obtain ⟨t0, G, J, kG, ge, hoe, na⟩ := mk_end0 (d2 := d2) (t2 := t2) I1 le more un2 hok2 os2 bare2 ea ed hd1
    exact ⟨rv, _, _, _, ⟨G, g2, d2, t2, o2⟩, _, .ref C, some d, rfl, J, kG, ge, hoe, ⟨rfl, rfl, fun vs hv => by cases hv; rfl⟩, rfl, rfl, na, rfl, bare2, raises_own T.exC T.tyC, q2⟩
  | .ok .next, z => exact z.elim
  | .ok .brk, z => exact z.elim
  | .ok .cont, z => exact z.elim
  | .error er, z => exact z.elim
theorem pmk_numN {k : Nat} {fd : FuncData} (F : ExN X.K X.mg x f) (F1 : FnOk X.prog X.w X.K X.mg X.base CX0 k (He.ma X.K (He.ga X.K x) "__init__") fd ["self", f] (spXInit X.K x f)) (hb : Binds X.K fd ["self", f] []) (hr : Room (k + 1) X.A) (ha : PA X (e :: es) ta) (hg : Gl X x := by rfl)
    (hdb : (x == ("__debug__" : Str)) = false := by decide) (he : starEach (e :: es) X.env = (false, eval e X.env) :: starEach es X.env := by rfl) (hpl : (backTo pos (starEach es X.env)).any (·.1) = false := by rfl) :
    L2N.PMk X (.Call (.Name x p) (e :: es) [] pos) (tMkO (He.ga X.K x) (spXInit X.K x f) [] ta) :=
  pmk_oexN F.o F.iC F.tI F1 hr hb hg F.g ha hdb he hpl
theorem pmk_txtN {m : Str} {j : Nat} (F : ExT X.K X.mg x) (hg : Gl X x := by rfl) (hdb : (x == ("__debug__" : Str)) = false := by decide) : L2N.PMk X (.Call (.Name x p) [.Constant (.str m) j p2] [] pos) (fun _ H Q => Q (xC X.K x) none H) :=
  L2N.pmk_own PySem.F.excBase_ValueError F.i F.g F.kp (raises_own F.c.hs F.ty) hg hdb
end
end MhN
/-! MhLcX -/
namespace Mh
open PySem PySem.Spec PyProof.Rows L2
/-! ### a list comprehension whose item may raise -/
section
variable {M : Model} {A : Around} {E : Value → Shared → Prop} {s : Shared} {env : Env}
/-- behind the block: as ever; or the exception, with the frame known -/
def postX (M : Model) (A : Around) (E : Value → Shared → Prop) (use : Option (Value → Sem Unit)) (Q : Value → Shared → Prop) (acc : Value) (C : Addr) (fr : Option Addr) (r : Result) (s' : Shared) : Prop :=
  match r with
  | .ok f => compPost M A E use Q acc C (.ok f) s'
  | .error x => ∃ m, s'.heap.Ns C m ∧ ∀ h' m', h'.Ns C m' → Heap.SameBut C s'.heap h' → ∀ ce : Env, ce.frame = fr → wpAny M A (passOn "comprehension.variables-let-go" x ce : Sem Value) (fun _ _ => False) E { s' with heap := h' }
theorem comp_freeX {e : Expr} {scope : Scope} {pos : Pos} {newAcc first : Sem Value} {g : Comprehension} {gs : List Comprehension} {cl : List (Str × Addr)} {use : Option (Value → Sem Unit)} {Q : Value → Shared → Prop}
    (c1 : clausesOf e = g :: gs) (c2 : ∀ x, foldedSetIterable g.iter env x = pure x) (c3 : closureFor scope env = pure cl) (c4 : scope.kind = .function) (c5 : ∀ x ∈ scope.names, x.2 = .local → scope.names.lookup x.1 = some .local)
    (h : wpAny M A first (fun x s₁ => wpAny M A (pyIter x) (fun it s₂ => wpAny M A newAcc (fun acc s₃ => wpAny M A (newFunctionEnv scope env.globals cl [] env.qual none .none (some env)) (fun cv s₄ => codeAny M A (.compStart e 0 it acc { cv with scope := relabel scope env }) (postX M A E use Q acc cv.locals cv.frame) s₄) E s₃) E s₂) E s₁) E s) :
    wpAny M A (comprehension e scope env pos newAcc false first use) Q E s := by
  unfold comprehension
  rw [c3, c1]
  refine wpAny_bind (wpAny_mono h (fun x s₁ h₁ => ?_) fun _ _ z => z)
  refine wpAny_bind (wpAny_standAt (wpAny_bind (wpAny_of_eq (c2 x) (wpAny_bind (wpAny_holding (wpAny_mono h₁ (fun it s₂ h₂ => ?_) fun _ _ z => z))))))
  refine wpAny_standIf (wpAny_bind (wpAny_mono h₂ (fun acc s₃ h₃ => ?_) fun _ _ z => z))
  refine wpAny_bind (wpAny_pure (wpAny_bind (wpAny_mono h₃ (fun cv s₄ h₄ => ?_) fun _ _ z => z)))
  dsimp only
  have v1 : ∀ x ∈ (scope.names.filter fun x => (x.2 == .local || x.2 == .cell) && x.1 != (".0" : Str)).reverse, x.2 = .local → Env.kindOf { cv with scope := relabel scope env } x.1 = some .local := fun x m l => lookup_relabel_local (c5 x (List.mem_filter.mp (List.mem_reverse.mp m)).1 l)
  refine wpAny_holding (wpAny_bind (wpAny_attempt (wpAny_holding (wpAny_run (codeAny_mono h₄ fun r s5 hr => ?_)))))
  cases r with
  | ok f =>
    cases use with
    | none =>
      obtain ⟨m, hn, hr⟩ := hr
      exact wpAny_bind (wpAny_holding (wpAny_comp_letGo (cenv := { cv with scope := relabel scope env }) c4 _ s5 m v1 hn fun h6 m6 _ z => wpAny_pure (hr h6 z)))
    | some u =>
      refine wpAny_bind (wpAny_rule (wpAny_bind (wpAny_holding (wpAny_mono hr (fun _ s6 hr' => ?_) fun _ _ z => z))))
      obtain ⟨m, hn, hr'⟩ := hr'
      refine wpAny_bind (wpAny_comp_letGo (cenv := { cv with scope := relabel scope env }) c4 _ s6 m (fun x m l => ?_) hn fun h7 m7 _ z => wpAny_pure (hr' h7 z))
      rcases List.mem_append.mp m with m1 | m1
      · exact v1 x (List.mem_of_mem_drop m1) l
      · exact v1 x (List.mem_of_mem_take m1) l
  | error x =>
    obtain ⟨m, hn, hr⟩ := hr
    refine wpAny_bind (wpAny_holding (wpAny_comp_letGo (cenv := { cv with scope := relabel scope env }) c4 _ s5 m v1 hn fun h6 m6 n6 z => ?_))
    have k := hr h6 m6 n6 z { cv with scope := relabel scope env } rfl
    first
      | exact wpAny_mono k (fun _ _ f => f.elim) fun _ _ y => y
      | (cases use <;> exact wpAny_mono k (fun _ _ f => f.elim) fun _ _ y => y)
end
section
variable {X : Cx}
/-- the block's context, what is wished of an exception named -/
abbrev blkX (X : Cx) (s : Shared) (H : Hp) (scope : Scope) (ce : Env) (fp : List Addr) (xe : Value → Shared → Prop) : Cx := (X.blk s H scope ce fp).wish xe
/-- an item's call raises: out of the block, on in the def's own air -/
theorem raise_out {pins pb : List (Addr × Obj)} {σ σb : L2.St} {s3 sb s' : Shared} {H3 Hb : Hp} {scope : Scope} {cl : List (Str × Addr)} {fp : List Addr} {xe E' : Value → Shared → Prop} {W : WX} {use : Option (Value → Sem Unit)} {Qf : Value → Shared → Prop} {acc u : Value}
    (hst : X.stack = X.env :: X.outer) (hfr : X.env.frame = some X.env.locals) (tk : Takes X W) (I3 : Inv X pins σ H3 s3) (f3 : ∀ b ∈ fp, FpOk X pins H3 b)
    (Ib : Inv (blkX X s3 H3 scope (compEnvC scope cl s3.heap.objs.size X.env) fp xe) pb σb Hb sb) (c : L2.CX X.prog X.w X.stack Hb sb (fun cls d H' => W cls d σ H') u s') :
    wpAny (model X.prog X.w) X.A (noteFrame u (compEnvC scope cl s3.heap.objs.size X.env)) (fun _ s'' => postX (model X.prog X.w) X.A X.xe use Qf acc s3.heap.objs.size X.env.frame (.error u) s'') E' s' := by
  obtain ⟨a, B, H', cls, d, rfl, fl, hok, ub, na, os, ag, hw⟩ := c
  have I7 : Inv X pins σ Hb sb := I3.call' (ch := fp) Ib.os Ib.base Ib.hok Ib.bare fun b hb => ⟨(f3 b hb).2.2.2.1, (f3 b hb).2.1, (f3 b hb).2.2.2.2.1, (f3 b hb).2.2.2.2.2⟩
  obtain ⟨m, ⟨oC, es, ep, hoC, dC, rC⟩, _⟩ := Ib.loc
  have hoC : sb.heap.get? s3.heap.objs.size = some oC := hoC
  have nC : Hb s3.heap.objs.size = none := Ib.free
  have FC := I3.fpOk (Nat.le_refl _) nC
  generalize hC : s3.heap.objs.size = C at *
  obtain ⟨_, g1, g2, g3, g4, g5⟩ := FC
  have nCf : C ∉ frs X.stack := fun z => by
    rw [hst] at z
    unfold frs at z
    rw [List.filterMap_cons, hfr] at z
    rcases List.mem_cons.mp z with z | z
    · exact g1 z
    · exact g2 z
  have BC := ub.keep C oC hoC nC nCf
  have nC' := ub.free C oC hoC nC
  have hfA : X.A.frames = some (X.env :: X.outer) := by rw [I3.ok.frames, hst]
  have aC : a ≠ C := fun z => by
    have := fl.2.1
    rw [z, BC] at this
    cases this
  show wpAny (model X.prog X.w) X.A (noteFrame (.ref a) X.env) _ _ s'
  refine HandSPX.looks_onZ Zc.steady hfA hfr (by rw [← hst]; exact fl) fun h1 hh1 up1 => ?_
  refine ⟨m, ⟨oC, es, ep, hh1.1 C oC BC, dC, rC⟩, fun h2 m2 n2 sm ce hce => ?_⟩
  -- the ground without the block's own names
  have b0 : ∀ b o, (PySem.W.hideAll B [C]).get? b = some o → B.get? b = some o ∧ b ≠ C := fun b o e => ⟨PySem.W.of_hideAll _ e, fun z => by
    rw [z, PySem.W.hideAll_none _ List.mem_cons_self] at e
    cases e⟩
  have b1 : ∀ b o, B.get? b = some o → b ≠ C → (PySem.W.hideAll B [C]).get? b = some o := fun b o e n => PySem.W.hideAll_get _ e fun z => n (List.mem_singleton.mp z)
  have b2 : ∀ b, B.get? b = none → (PySem.W.hideAll B [C]).get? b = none := fun b e => by
    cases q : (PySem.W.hideAll B [C]).get? b with
    | none => rfl
    | some o => rw [(b0 b o q).1] at e; cases e
  have hh2 : HandSPX.HeldZ (PySem.W.hideAll B [C]) (X.env :: X.outer) a (Zc cls d) X.env.locals h2 := by
    refine ⟨fun b o e => (sm.2 b (b0 b o e).2).trans (hh1.1 b o (b0 b o e).1), b2 a hh1.2.1, Heap.FunFrames.sameBut sm n2 (funFrames_none hh1.2.2.1 fun L hL => b2 L (hh1.2.2.1.mem hL).1), ?_⟩
    obtain ⟨oe, vs, T, oT, ts, q1, q2, q3, q4, q5, q6, q7, q8, q9⟩ := hh1.2.2.2
    have TC : T ≠ C := fun z => by
      rw [z, BC] at q5
      cases q5
    exact ⟨oe, vs, T, oT, ts, (sm.2 a aC).trans q1, q2, q3, q4, b2 T q5, q6, (sm.2 T TC).trans q7, q8, q9⟩
  -- the state without the exception
  obtain ⟨G, k1, k2⟩ := restrict s'.heap fun b => ((PySem.W.hideAll B [C]).get? b).isSome || decide (b ∈ frs X.stack)
  have gB : ∀ b o, (PySem.W.hideAll B [C]).get? b = some o → G.get? b = some o := fun b o e => by
    rw [k1 b (by simp [e])]
    exact fl.1 b o (b0 b o e).1
  have og : ∀ b o, G.get? b = some o → s'.heap.get? b = some o ∧ (((PySem.W.hideAll B [C]).get? b).isSome = true ∨ b ∈ frs X.stack) := fun b o e => by
    cases q : (((PySem.W.hideAll B [C]).get? b).isSome || decide (b ∈ frs X.stack)) with
    | false => rw [k2 b q] at e; cases e
    | true => rw [k1 b q] at e; exact ⟨e, by simpa [Bool.or_eq_true] using q⟩
  have gC : ∀ b o, G.get? b = some o → b ≠ C := fun b o e z => by
    rcases (og b o e).2 with y | y
    · obtain ⟨o', y⟩ := Option.isSome_iff_exists.mp y
      exact (b0 b o' y).2 z
    · exact nCf (by rw [← z]; exact y)
  have I8 : Inv X pins σ Hb { sb with heap := PySem.W.hideAll sb.heap [C], toks := sb.toks } := I7.turned (fun b o n e => PySem.W.hideAll_get _ e fun z => n (List.mem_singleton.mp z)) nC g1.symm.symm g3 g4 g5
  have hok0 : HOk X.prog X.w H' (PySem.W.hideAll B [C]) := fun b v e => (hok b v e).stay (fun q o hq r => b1 q o r fun z => by
    rcases hq with y | y
    · rw [← y, z, nC'] at e; cases e
    · rw [z, nC'] at y; cases y) (fun _ q => q) fun _ _ q => q
  have h8 : ∀ b o, (PySem.W.hideAll sb.heap [C]).get? b = some o → sb.heap.get? b = some o ∧ b ≠ C := fun b o e => ⟨PySem.W.of_hideAll _ e, fun z => by
    rw [z, PySem.W.hideAll_none _ List.mem_cons_self] at e
    cases e⟩
  have I9 := I8.call (ch := []) (h' := G) (g' := s'.gens) (t' := s'.toks) (d' := s'.drawn) (H' := H')
    ⟨fun b o e n hb _ => gB b o (b1 b o (ub.keep b o (h8 b o e).1 n hb) (h8 b o e).2), fun b o e n hb _ => (by
      obtain ⟨sl, q⟩ := ub.slot b o (h8 b o e).1 hb
      exact ⟨sl, (k1 b (by simp [hb])).trans q⟩), fun b o e n _ => ub.free b o (h8 b o e).1 n, fun b o e _ => (by
      by_cases hb : b ∈ frs X.stack
      · obtain ⟨sl, q⟩ := ub.slot b o (h8 b o e).1 hb
        exact ⟨_, (k1 b (by simp [hb])).trans q⟩
      · obtain ⟨o', q⟩ := ub.there b o (h8 b o e).1 hb
        exact ⟨o', gB b o' (b1 b o' q (h8 b o e).2)⟩), ub.tups, ub.frzs, ub.tbls⟩ (hok0.kept gB) ag (fun _ z => nomatch z)
  -- on it goes
  obtain ⟨oe, vs, T, oT, ts, q1, q2, q3, q4, q5, q6, q7, q8, q9⟩ := id hh2.2.2.2
  unfold PySem.passOn
  refine wpAny_bind (wpAny_field q1 q3 q4 ?_)
  rw [if_neg (show ¬ ((Value.ref T == Value.none) = true) from by simp)]
  have fly : wpAny (model X.prog X.w) X.A (setFlight (.ref a) ce.frame) (fun _ s7 => wpAny (model X.prog X.w) X.A (throw (.ref a) : Sem Value) (fun _ _ => False) X.xe s7) X.xe { s' with heap := h2 } := by
    rw [hce, hfr]
    refine HandSPX.setFlight_onZ hh2 fun h4 hh4 up4 => wpAny_throw (tk _ _ ?_)
    refine ⟨a, PySem.W.hideAll B [C], _, pins, σ, H', cls, d, rfl, I9, fun b o e hb => ?_, fun b o e nf => ?_, .inr (.inr (by rw [hst]; exact hh4)), na, os, ag, hw⟩
    · rcases (og b o e).2 with y | y
      · obtain ⟨o', y⟩ := Option.isSome_iff_exists.mp y
        have z := fl.1 b o' (b0 b o' y).1
        rw [(og b o e).1] at z
        cases z
        exact y
      · exact absurd y hb
    · obtain ⟨s1, z1⟩ := up1 b o (og b o e).1 nf
      have z2 := (sm.2 b (gC b o e)).trans z1
      obtain ⟨s2, z3⟩ := up4 b _ z2 nf
      exact ⟨s2, z3⟩
  first
    | exact wpAny_bind (wpAny_pure (wpAny_bind fly))
    | exact wpAny_bind fly
end
/-- [elt for target in iter if ..], the item told what is wished of its exceptions -/
def tLcX (W : WX) (wi : TI) (g : TG) (tt : TT) (te : XK → TE) (vs : List Nat) : TE := fun σ H Q => tLc wi g tt (te fun cls d H' => W cls d σ H') vs σ H Q
section
variable {X : Cx}
theorem lc_coreX {pins : List (Addr × Obj)} {s : Shared} {σ : L2.St} {H : Hp} {Q : VK} {elt tg iter : Expr} {ifs : List Expr} {scope : Scope} {own : List (Str × Nat)} {pos pos' : Pos} {wi : TI} {g : TG} {tt : TT} {te : XK → TE} {W : WX} {use : Option (Value → Sem Unit)} {Qf : Value → Shared → Prop}
    (hst : X.stack = X.env :: X.outer) (hfr : X.env.frame = some X.env.locals) (tk : Takes X W) (hc : X.calm = true) (hN : X.N.Nodup) (I : Inv X pins σ H s) (hi : PI X tg iter wi) (ok : BlkOk X.N X.env.scope scope own)
    (wg : ∀ (s : Shared) (H : Hp) (C : Addr) (cl : List (Str × Addr)) (fp : List Addr), PG (X.blk s H scope (compEnvC scope cl C X.env) fp) tg g) (wt : ∀ (s : Shared) (H : Hp) (C : Addr) (cl : List (Str × Addr)) (fp : List Addr), PTs (X.blk s H scope (compEnvC scope cl C X.env) fp) ifs tt)
    (we : ∀ (s : Shared) (H : Hp) (C : Addr) (cl : List (Str × Addr)) (fp : List Addr) (xe : Value → Shared → Prop) (E : XK), Passes (L2.CX X.prog X.w) (blkX X s H scope (compEnvC scope cl C X.env) fp xe) E → PE (blkX X s H scope (compEnvC scope cl C X.env) fp xe) elt (te E))
    (hs : ∀ x, foldedSetIterable iter X.env x = pure x) (h : tLcX W wi g tt te (own.map (·.2)) σ H Q)
    (last : ∀ D C s' m H', Inv X pins σ H' s' → Q (.ref D) H' → s'.heap.Ns C m → FpOk X pins H' C → compPost (model X.prog X.w) X.A X.xe use Qf (.ref D) C (.ok .next) s') :
    wpAny (model X.prog X.w) X.A (comprehension (.ListComp elt [⟨tg, iter, ifs, 0⟩] scope pos) scope X.env pos' (newList []) false (eval iter X.env) use) Qf X.xe s := by
  have fr0 : ∀ y ∈ scope.names, y.2 = .free → ∃ c, X.env.cells.lookup y.1 = some c := fun y m e => (ok.free y m e).elim (fun k => I.ok.has _ (.inl k)) fun k => I.ok.has _ (.inr k)
  refine comp_freeX (use := use) rfl hs (closure_ok fr0) ok.kind (fun y m e => by rw [ok.uniq y m, e]) (thn (hi.run pins s σ H _ I h) fun v0 s1 h0 => thn h0 fun v1 s2 h2 => ?_)
  obtain ⟨it, fp, tn, J, H2, e, I2, T, st2, f2, q⟩ := h2
  subst e
  refine wpAny_newObj_type (newEnv_comp ?_) (by show 0 ≤ sizeLine; decide)
  generalize eD : s2.heap.objs.size = D
  obtain ⟨Wv, ⟨m0, w0⟩, turn⟩ := q D (I2.hok.fresh (Nat.le_of_eq eD))
  generalize es3 : ({ s2 with heap := s2.heap.push { cls := .type "list", data := .seq ([] : List Value).toArray } } : Shared) = s3
  have h3 : s3.heap = s2.heap.push { cls := .type "list", data := .seq ([] : List Value).toArray } := by rw [← es3]
  have I3 : Inv X pins σ (upd H2 D (.lst [])) s3 := by
    rw [← es3]
    refine I2.laid (t' := s2.toks) (fun b o e => Heap.get?_push_of_some _ e) (Nat.le_of_eq eD) ⟨Nat.zero_le _, [], 0, .nil, ?_⟩
    rw [← eD]
    exact Heap.get?_push_size _ rfl
  have f3 : ∀ b ∈ fp, FpOk X pins (upd H2 D (.lst [])) b ∧ b < s3.heap.objs.size := fun b m => by
    obtain ⟨o, e, _⟩ := T.obj _ _ st2 b m
    have lt := Heap.lt_size e
    refine ⟨⟨?_, (f2 b m).2⟩, by rw [h3, Heap.size_push]; exact Nat.lt_succ_of_lt lt⟩
    rw [upd_ne (by rw [← eD]; exact Nat.ne_of_lt lt)]
    exact (f2 b m).1
  have st3 : tn 0 s3.heap := T.keep _ _ _ st2 fun b _ o e => by rw [h3]; exact Heap.get?_push_of_some _ e
  have I4 := block_start I3 ok hN f3
  generalize ecl : cellsFrom (s3.heap.objs.size + 1) scope.names (cloFrom X.env.cells scope.names []) = cl at I4
  have pg := wg s3 (upd H2 D (.lst [])) s3.heap.objs.size cl fp
  have pt := wt s3 (upd H2 D (.lst [])) s3.heap.objs.size cl fp
  have pe := we s3 (upd H2 D (.lst [])) s3.heap.objs.size cl fp (notedBy (model X.prog X.w) X.A (compEnvC scope cl s3.heap.objs.size X.env) fun u s' => postX (model X.prog X.w) X.A X.xe use Qf (.ref D) s3.heap.objs.size X.env.frame (.error u) s') (fun cls d H' => W cls d σ H')
    fun pb σb Hb sb u s' Ib c => raise_out hst hfr tk I3 (fun b m => (f3 b m).1) Ib c
  show codeAny _ _ (.compStart (.ListComp elt [⟨tg, iter, ifs, 0⟩] scope pos) 0 (.ref it) (.ref D) (compEnvC scope cl s3.heap.objs.size X.env)) (postX (model X.prog X.w) X.A X.xe use Qf (.ref D) s3.heap.objs.size X.env.frame) { s3 with heap := pushCells (s3.heap.push { cls := .type "dict", data := .dict #[] }) scope.names }
  have n3 : ∀ b ∈ fp, (upd H2 D (.lst [])) b = none := fun b m => (f3 b m).1.1
  generalize upd H2 D (.lst []) = H3 at I3 I4 pg pt pe w0 n3 f3
  generalize es4 : ({ s3 with heap := pushCells (s3.heap.push { cls := .type "dict", data := .dict #[] }) scope.names } : Shared) = s4 at I4 ⊢
  have st4 : tn 0 s4.heap := T.keep _ _ _ st3 fun b _ o e => by rw [← es4]; exact pushCells_keeps _ _ _ _ (Heap.get?_push_of_some _ e)
  generalize ece : compEnvC scope cl s3.heap.objs.size X.env = ce at I4 pg pt pe ⊢
  have cL : ce.locals = s3.heap.objs.size := by rw [← ece]; rfl
  have stat : ∀ {σ' : L2.St} {H' : Hp} {s' : Shared}, Inv (X.blk s3 H3 scope ce fp) [] σ' H' s' → (∀ b ∈ fp, H' b = none) → ∀ b ∈ fp, FpOk (X.blk s3 H3 scope ce fp) [] H' b := fun {σ' H' s'} I' n b m =>
    ⟨n b m, (I'.ok.exf b m).1, I'.ok.exfs b m, .inl m, fun x c e => (I'.ok.exf b m).2 x c e, fun p k => absurd (show p ∈ ([] : List (Addr × Obj)) ++ [] from k) (by simp)⟩
  have loop : codeAny (model X.prog X.w) X.A (.compLoop (.ListComp elt [⟨tg, iter, ifs, 0⟩] scope pos) 0 (.ref it) (.ref D) ce) (postX (model X.prog X.w) X.A X.xe use Qf (.ref D) s3.heap.objs.size X.env.frame) s4 := by
    refine compLoop_any (fun n s' => ∃ i H', Inv (X.blk s3 H3 scope ce fp) [] (wipe σ (own.map (·.2))) H' s' ∧ tn i s'.heap ∧ (∀ b ∈ fp, H' b = none) ∧ Wv i n H') ?_ m0 ⟨0, H3, I4, st4, n3, w0⟩
    rintro n s5 ⟨i, H5, I5, st5, n5, w5⟩
    rcases turn i n H5 w5 with ⟨stop, qq⟩ | ⟨go, Nx, hNx, step⟩
    · refine thnF (T.done (X.blk s3 H3 scope ce fp) rfl rfl rfl hc i [] s5 _ H5 (fun _ _ => False) I5 (stat I5 n5) st5 stop) fun r s6 ⟨er, I6⟩ => ?_
      subst er
      have I7 : Inv X pins σ H5 s6 := I3.call' (ch := fp) I6.os I6.base I6.hok I6.bare fun b m => ⟨(f3 b m).1.2.2.2.1, (f3 b m).1.2.1, (f3 b m).1.2.2.2.2.1, (f3 b m).1.2.2.2.2.2⟩
      have nC : H5 s3.heap.objs.size = none := by
        have z : H5 ce.locals = none := I6.free
        rwa [cL] at z
      obtain ⟨m, nm, _⟩ := I6.loc
      have nm : s6.heap.Ns ce.locals m := nm
      rw [cL] at nm
      exact last D s3.heap.objs.size s6 m H5 I7 qq nm (I3.fpOk (Nat.le_refl _) nC)
    · refine thnF (T.item (X.blk s3 H3 scope ce fp) rfl rfl rfl hc i [] s5 _ H5 (fun _ _ => False) I5 (stat I5 n5) st5 go) fun r s6 ⟨u, er, h6⟩ => ?_
      subst er
      refine thnF h6 fun _ s7 ⟨x, H7, I7, r7, y7, st7, n7⟩ => ?_
      refine thnF (pg.run _ s7 _ H7 x u _ (I7.pinned (stat I7 n7) (T.obj _ _ st7)) r7 (step x H7 y7)) fun _ s8 ⟨σ8, H8, I8, hw8, q8⟩ => ?_
      refine thnF (pt.run _ s8 σ8 H8 _ I8 q8) fun b s9 ⟨H9, I9, q9⟩ => ?_
      have fin : ∀ {s' : Shared} {H' : Hp}, Inv (X.blk s3 H3 scope ce fp) ([] ++ pinsAt fp s7.heap) σ8 H' s' → Nx H' → ∃ m, m < n ∧ ∃ i H', Inv (X.blk s3 H3 scope ce fp) [] (wipe σ (own.map (·.2))) H' s' ∧ tn i s'.heap ∧ (∀ b ∈ fp, H' b = none) ∧ Wv i m H' := fun {s' H'} I' nx => by
        obtain ⟨m', lm, w'⟩ := hNx H' nx
        have pk : ∀ b ∈ fp, ∀ o, s7.heap.get? b = some o → s'.heap.get? b = some o ∧ H' b = none := fun b m o e => ⟨(I'.pin (b, o) (List.mem_append_right _ (List.mem_append_right _ (mem_pinsAt m e)))).1, (I'.pin (b, o) (List.mem_append_right _ (List.mem_append_right _ (mem_pinsAt m e)))).2.1⟩
        refine ⟨m', lm, i + 1, H', (I'.unpinned (pins := [])).weak (by rw [← hw8, wipe_length]) (fun j v e => ?_), T.keep _ _ _ st7 fun b m o e => (pk b m o e).1, fun b m => ?_, w'⟩
        · rw [← hw8] at e
          exact (wipe_some e).1
        · obtain ⟨o, e, _⟩ := T.obj _ _ st7 b m
          exact (pk b m o e).2
      cases b with
      | false =>
        simp only [Bool.false_eq_true, if_false] at q9 ⊢
        exact fin I9 q9
      | true =>
        simp only [if_true] at q9 ⊢
        refine wpAny_mono (pe.run _ s9 σ8 H9 _ (I9.wish _) q9) (fun z s10 ⟨yv, H10, I10, r10, acc, hD10, hz10, nx⟩ => ?_) fun u s' z => z
        exact app_ok (X := X.blk s3 H3 scope ce fp) I10.unwish hD10 hz10 r10 fun s11 I11 => fin I11 nx
  exact codeAny_compStart_list loop (T.self X.A 0 _ _ _ st4 loop)
/-- name = [..] on one line, the name a local -/
theorem ps_setLcX {i : Nat} {y : Str} {py : Pos} {elt tg iter : Expr} {ifs : List Expr} {scope : Scope} {own : List (Str × Nat)} {pos spos : Pos} {wi : TI} {g : TG} {tt : TT} {te : XK → TE} {W : WX} (hst : X.stack = X.env :: X.outer) (hfr : X.env.frame = some X.env.locals) (tk : Takes X W) (hc : X.calm = true) (hN : X.N.Nodup) (hy : X.N[i]? = some y) (hyl : X.env.scope.names.lookup y = some .local)
    (hsw : swapsWith (.ListComp elt [⟨tg, iter, ifs, 0⟩] scope pos) (some (.Name y py)) spos.line X.env = pure true) (hi : PI X tg iter wi) (ok : BlkOk X.N X.env.scope scope own)
    (wg : ∀ (s : Shared) (H : Hp) (C : Addr) (cl : List (Str × Addr)) (fp : List Addr), PG (X.blk s H scope (compEnvC scope cl C X.env) fp) tg g) (wt : ∀ (s : Shared) (H : Hp) (C : Addr) (cl : List (Str × Addr)) (fp : List Addr), PTs (X.blk s H scope (compEnvC scope cl C X.env) fp) ifs tt)
    (we : ∀ (s : Shared) (H : Hp) (C : Addr) (cl : List (Str × Addr)) (fp : List Addr) (xe : Value → Shared → Prop) (E : XK), Passes (L2.CX X.prog X.w) (blkX X s H scope (compEnvC scope cl C X.env) fp xe) E → PE (blkX X s H scope (compEnvC scope cl C X.env) fp xe) elt (te E)) (hs : ∀ x, foldedSetIterable iter X.env x = pure x := by intro _; rfl) :
    PS X (.Assign [.Name y py] (.ListComp elt [⟨tg, iter, ifs, 0⟩] scope pos) spos) (tAsg (tLcX W wi g tt te (own.map (·.2))) (gName i)) := by
  refine ⟨fun pins s σ H D I h => ?_⟩
  rw [exec_Assign_Name_used _ _ _ _ hsw]
  refine wpAny_bind (wpAny_standAt (wpAny_bind ?_))
  show wpAny _ X.A (do let _ ← comprehension (.ListComp elt [⟨tg, iter, ifs, 0⟩] scope pos) scope X.env (firstIterPos [⟨tg, iter, ifs, 0⟩] pos) (newList []) false (eval iter X.env) (some (assign (.Name y py) X.env))) _ _ s
  have h : tLcX W wi g tt te (own.map (·.2)) σ H (fun x H1 => gName i x σ H1 D.nx) := h
  refine wpAny_bind (thn (lc_coreX (Qf := fun _ s' => SP X pins D .next s') hst hfr tk hc hN I hi ok wg wt we hs h fun L C s' m H' I' q nm f => ?_) fun _ s' z => wpAny_pure (wpAny_pure z))
  show wpAny _ _ (assign (.Name y py) X.env (.ref L)) _ _ _
  refine wpAny_assign_Name (store_ok2 (v := V.ref L) I' hN hy (.inl hyl) rfl (fun s2 I2 ⟨a, sb, ha⟩ => ?_) (.inr hyl))
  obtain ⟨k0, k1, k2, k3, k4, k5⟩ := f
  have nCa : C ≠ a := ha.elim (fun z => by rw [z]; exact k1) fun z e => k4 y a z e.symm
  exact ⟨m, nm.sameBut sb nCa, fun h3 sb3 => ⟨_, H', I2.turned (t' := s2.toks) (fun b o n e => (sb3.2 b n).trans e) k0 k1 k3 k4 k5, q⟩⟩
/-! ### try: body finally: suite, the body may raise -/
/-- behind the body, the suite; behind what it raises, too, then out -/
def tFinX (tb : WX → TS) (tf tfs : TS) (Wout : WX) : TS := fun D σ H => tb (wFin tfs Wout) { D with nx := fun σ1 H1 => tf D σ1 H1, rt := fun _ _ => False, bk := fun _ _ => False, ct := fun _ _ => False } σ H
theorem ps_finX {body : List Stmt} {f₀ : Stmt} {fs : List Stmt} {pos : Pos} {tb : WX → TS} {tf tfs : TS} {Wout : WX} (hst : X.stack = X.env :: X.outer) (hfr : X.env.frame = some X.env.locals) (hex : X.ex = []) (tk : Takes X Wout)
    (hb : ∀ (W : WX) (pn : List (Addr × Obj)) (xe : Value → Shared → Prop), Takes (X.tr pn xe) W → PSs (X.tr pn xe) body (tb W)) (hf : PSs X.nox (f₀ :: fs) tf) (hsu : ∀ (a : Addr) (pn : List (Addr × Obj)), PSs (X.suite a pn) (f₀ :: fs) tfs) :
    PS X (.Try body [] [] (f₀ :: fs) pos) (tFinX tb tf tfs Wout) := by
  refine ⟨fun pins s σ H D I h => ?_⟩
  have ok := I.ok
  refine wpAny_Try_finally ?_
  refine wpAny_mono ((hb (wFin tfs Wout) (X.pn ++ pins) (fun x s₁ => wpAny (model X.prog X.w) X.A (noteFrame x X.env) (fun _ s₂ => FinallyRaised X.prog X.w X.A X.xe X.env (f₀ :: fs) (SP X pins D) x s₂) (FinallyRaised X.prog X.w X.A X.xe X.env (f₀ :: fs) (SP X pins D)) s₁) fun u s' xx => fin_exc hst hfr hex ok tk hsu xx).run [] s σ H _ (I.toTry _) h) (fun g s1 z => ?_) (fun x s1 hx => hx)
  cases g with
  | next =>
    obtain ⟨σ1, H1, I1, q1⟩ := z
    refine wpAny_execs_nil ?_
    refine wpAny_mono (hf.run pins s1 σ1 H1 D ((I1.ofTry ok).wish _) q1) (fun g s2 q => ?_) fun _ _ z => False.elim z
    have q' : SP X pins D g s2 := q.unwish
    cases g <;> exact q'
  | ret u =>
    obtain ⟨_, _, _, _, _, q⟩ := z
    exact False.elim q
  | brk =>
    obtain ⟨_, _, _, q⟩ := z
    exact False.elim q
  | cont =>
    obtain ⟨_, _, _, q⟩ := z
    exact False.elim q
end
end Mh
/-! MhFinN -/
namespace MhN
open PySem PySem.Spec PyProof.Rows L2 Mh
/-! ### try: body finally: suite; the suite knows the exception that is handled -/
section
variable {X : Cx} {pins : List (Addr × Obj)} {σ : L2.St} {H : Hp} {s : Shared}
/-- what flies stands apart from the frames -/
theorem off_frames {B h : Heap} {l : List Env} {b : Addr} {o : Obj} {vs : Array Value} (ff : h.FunFrames B l) (e : h.get? b = some o) (d : o.data = .fields vs) : b ∉ frs l := fun m => by
  obtain ⟨_, o2, e2, n⟩ := ff.mem m
  rw [e] at e2
  exact n vs (by rw [← Option.some.inj e2]; exact d)
/-- behind the suite: the exception goes on -/
theorem goes_on {Wout : WX} {cls : Value} {d : Option Addr} {a T : Addr} {oe oT : Obj} {vs ts : Array Value} {what : String} {Q : Flow → Shared → Prop} (hst : X.stack = X.env :: X.outer) (hfr : X.env.frame = some X.env.locals) (tk : L2.Takes X Wout) (I : Inv X pins σ H s)
    (ga : s.heap.get? a = some oe) (gT : s.heap.get? T = some oT) (za : Zc cls d oe) (da : oe.data = .fields vs) (dT : oT.data = .fields ts) (v1 : vs[1]? = some (.ref T)) (t3 : ts[3]? = some .none) (ne : T ≠ a) (na : H a = none) (nT : H T = none)
    (h0 : ∀ c o, X.s_0.heap.get? c = some o → c ≠ a ∧ c ≠ T) (hp : ∀ p ∈ X.pn ++ pins, p.1 ≠ a ∧ p.1 ≠ T) (hw : Wout cls d σ H) : wpAny (model X.prog X.w) X.A (passOn what (.ref a) X.env) Q X.xe s := by
  obtain ⟨G, in1, out1⟩ := restrict s.heap fun b => decide (b ≠ a ∧ b ≠ T)
  have sub : ∀ b o, G.get? b = some o → s.heap.get? b = some o ∧ b ≠ a ∧ b ≠ T := fun b o e => by
    by_cases c : b ≠ a ∧ b ≠ T
    · exact ⟨by rw [← in1 b (decide_eq_true c)]; exact e, c⟩
    · rw [out1 b (decide_eq_false c)] at e
      exact nomatch e
  have J : Inv X pins σ H { s with heap := G } := I.less (fun b o e => (sub b o e).1) (fun b o n1 n2 e => by rw [in1 b (decide_eq_true ⟨n1, n2⟩)]; exact e) ⟨oe, vs, ga, da⟩ ⟨oT, ts, gT, dT⟩ na nT h0 hp
  have gone : ∀ b, b = a ∨ b = T → (PySem.W.hideAll G (frs X.stack)).get? b = none := fun b c => by
    match q : (PySem.W.hideAll G (frs X.stack)).get? b with
    | none => rfl
    | some o => exact absurd c fun c => c.elim (sub b o (PySem.W.of_hideAll _ q)).2.1 (sub b o (PySem.W.of_hideAll _ q)).2.2
  have fly : HandSPX.FlyingZ (PySem.W.hideAll G (frs X.stack)) (X.env :: X.outer) a (Zc cls d) s.heap :=
    ⟨fun b o q => (sub b o (PySem.W.of_hideAll _ q)).1, gone a (.inl rfl), by rw [← hst]; exact funFrames_none I.stack fun b m => PySem.W.hideAll_none _ m, oe, vs, T, oT, ts, ga, za, da, v1, gone T (.inr rfl), ne, gT, dT, t3⟩
  unfold PySem.passOn
  refine wpAny_bind (wpAny_field ga da v1 ?_)
  rw [if_neg (by simp : ¬ ((Value.ref T == Value.none) = true))]
  have up : wpAny (model X.prog X.w) X.A (setFlight (.ref a) X.env.frame) (fun _ s2 => wpAny (model X.prog X.w) X.A (throw (.ref a) : Sem Flow) Q X.xe s2) X.xe s := by
    rw [hfr]
    exact HandSPX.setFlight_upZ fly fun h2 held u2 => wpAny_throw (tk _ _ ⟨a, _, { s with heap := G }, pins, σ, H, cls, d, rfl, J, fun b o e m => PySem.W.hideAll_get _ e m, (Heap.UpToSlots.of_keeps fun b o e => (sub b o e).1).trans u2, .inr (.inr (by rw [← hst] at held; exact held)), na, rfl, I.bare, hw⟩)
  first
    | exact wpAny_bind (wpAny_pure (wpAny_bind up))
    | exact wpAny_bind up
/-- the suite, with the exception pinned and known -/
theorem suite_run {f₀ : Stmt} {fs : List Stmt} {tfs : TS} {Wout : WX} {D : Ends} {B : Heap} {sI : Shared} {a : Addr} {cls : Value} {d : Option Addr} (hst : X.stack = X.env :: X.outer) (hfr : X.env.frame = some X.env.locals) (hex : X.ex = []) (tk : L2.Takes X Wout)
    (hsu : ∀ (a : Addr) (pn : List (Addr × Obj)), L2H.HotC (X.suite a pn) → PSs (X.suite a pn) (f₀ :: fs) tfs) (J : Inv X pins σ H sI) (nb : ∀ b o, sI.heap.get? b = some o → b ∉ frs X.stack → B.get? b = some o)
    (I : Inv X pins σ H s) (fly : HandSPX.FlyingZ B (X.env :: X.outer) a (L2N.Zn cls d) s.heap) (na : H a = none) (hw : wFin tfs Wout cls d σ H) :
    wpAny (model X.prog X.w) (X.A.mark (some (.ref a))) (execs (f₀ :: fs) X.env) (fun g s' => match g with
      | .next => wpAny (model X.prog X.w) X.A (passOn "try.finally" (.ref a) X.env) (SP X pins D) X.xe s'
      | _ => False) (fun _ _ => False) s := by
  obtain ⟨_, gB, ff, oe, vs, T, oT, ts, ga, za, da, v1, gT, ne, hT, dT, t3⟩ := fly
  have fa := off_frames ff ga da
  have fT := off_frames ff hT dT
  have inF : ∀ b ∈ X.fs, b ∈ frs (X.env :: X.outer) := fun b m => by
    obtain ⟨e, me, q⟩ := List.mem_filterMap.mp m
    exact List.mem_filterMap.mpr ⟨e, List.mem_cons_of_mem _ me, q⟩
  have lF : X.env.locals ∈ frs (X.env :: X.outer) := List.mem_filterMap.mpr ⟨X.env, List.mem_cons_self, hfr⟩
  have nT : H T = none := (J.inGround nb).gone gT
  have apart : ∀ b o, sI.heap.get? b = some o → b ≠ a ∧ b ≠ T := fun b o e => by
    by_cases m : b ∈ frs X.stack
    · rw [hst] at m
      exact ⟨fun z => fa (z ▸ m), fun z => fT (z ▸ m)⟩
    · have q := nb b o e m
      exact ⟨fun z => (by rw [z, gB] at q; cases q), fun z => (by rw [z, gT] at q; cases q)⟩
  have h0 : ∀ c o, X.s_0.heap.get? c = some o → c ≠ a ∧ c ≠ T := fun c o e => by
    obtain ⟨o2, q⟩ := J.base.there c o e (by rw [hex]; exact fun z => nomatch z)
    exact apart c o2 q
  have hp : ∀ p ∈ X.pn ++ pins, p.1 ≠ a ∧ p.1 ≠ T := fun p m => apart p.1 p.2 (J.pin p m).1
  -- the traceback is pinned, too
  have I2 : Inv X (pins ++ [(T, oT)]) σ H s := I.pins_of fun p m => (List.mem_append.mp m).elim (fun z => I.pin p (List.mem_append_right _ z)) fun z => by
    rw [List.mem_singleton.mp z]
    exact ⟨hT, nT, fun c => fT (by rw [show T = X.env.locals from c]; exact lF), fun c => fT (inF _ c), fun v c => by rw [show oT.data = .cell v from c] at dT; exact nomatch dT⟩
  have S := I2.suite ga da na (fun c => fa (by rw [c]; exact lF)) fun c => fa (inF _ c)
  have hot : L2H.HotC (X.suite a ((a, oe) :: (X.pn ++ (pins ++ [(T, oT)])))) := ⟨(a, oe), ⟨rfl, vs, da, za.2.2 vs da⟩, List.mem_cons_self⟩
  refine wpAny_mono ((hsu a _ hot).run [] s σ H { nx := fun σ2 H2 => Wout cls d σ2 H2, rt := fun _ _ => False } S hw) (fun g s2 q => ?_) fun _ _ z => z
  cases g with
  | next =>
    obtain ⟨σ2, H2, S2, w2⟩ := q
    have pa := S2.pin (a, oe) (List.mem_append_left _ List.mem_cons_self)
    have J2 := S2.unsuite I.ok
    have pT := J2.pin (T, oT) (List.mem_append_right _ (List.mem_append_right _ List.mem_cons_self))
    exact goes_on hst hfr tk J2.unpinned pa.1 pT.1 za.zc da dT v1 t3 ne pa.2.1 pT.2.1 h0 hp w2
  | ret u => exact q.elim fun _ ⟨_, _, _, _, z⟩ => z
  | brk => exact q.elim fun _ ⟨_, _, z⟩ => z
  | cont => exact q.elim fun _ ⟨_, _, z⟩ => z
theorem fin_excN {f₀ : Stmt} {fs : List Stmt} {tfs : TS} {Wout : WX} {D : Ends} {u : Value} {s' : Shared} {xe : Value → Shared → Prop} {E : Value → Shared → Prop} (hst : X.stack = X.env :: X.outer) (hfr : X.env.frame = some X.env.locals) (hex : X.ex = []) (ok : X.Ok) (tk : L2.Takes X Wout)
    (hsu : ∀ (a : Addr) (pn : List (Addr × Obj)), L2H.HotC (X.suite a pn) → PSs (X.suite a pn) (f₀ :: fs) tfs) (xx : L2N.XE (X.tr (X.pn ++ pins) xe) (wFin tfs Wout) u s') :
    wpAny (model X.prog X.w) X.A (noteFrame u X.env) (fun _ s2 => FinallyRaised X.prog X.w X.A X.xe X.env (f₀ :: fs) (SP X pins D) u s2) E s' := by
  obtain ⟨a, B, sI, pins2, σ2, H2, cls, d, rfl, J0, nb, up, sky, na, os, ag, hw⟩ := xx
  have J : Inv X pins σ2 H2 sI := J0.ofTry ok
  have fA : X.A.frames = some (X.env :: X.outer) := by rw [ok.frames, hst]
  have held : ∀ h1, HandSPX.HeldZ B (X.env :: X.outer) a (L2N.Zn cls d) X.env.locals h1 → s'.heap.UpToSlots h1 → FinallyRaised X.prog X.w X.A X.xe X.env (f₀ :: fs) (SP X pins D) (.ref a) { s' with heap := h1 } := fun h1 q u1 => by
    refine ⟨ref_ne_byPass a, HandSPX.againZ hfr q.2.2.2 (HandSPX.landsZ q fun h2 fl u2 => ?_)⟩
    have I : Inv X pins σ2 H2 { s' with heap := h2 } := J.landed nb fl.1 ((up.trans u1).trans u2) os ag
    refine wpAny_mono (suite_run (D := D) hst hfr hex tk hsu J nb I fl na hw) (fun g s3 r => ?_) fun _ _ z => z.elim
    cases g <;> first | exact r | exact r.elim
  show wpAny (model X.prog X.w) X.A (noteFrame (.ref a) X.env) _ E s'
  have sky : Sky B (X.env :: X.outer) a (L2N.Zn cls d) X.env.locals s'.heap := by rw [← hst]; exact sky
  rcases sky with ⟨b1, b2, b3, oe, vs, b4, b5, b6, b7⟩ | fl | q
  · exact PXN.look_newZ L2N.Zn.steady fA b3 hfr b4 b1 b2 b6 b7 b5 held
  · exact PXN.looks_onZ L2N.Zn.steady fA hfr fl held
  · exact HandSPX.againZ hfr q.2.2.2 (held _ q (.refl _))
/-- try: body finally: suite; the suite raises nothing, it may unpack -/
theorem ps_finN {body : List Stmt} {f₀ : Stmt} {fs : List Stmt} {pos : Pos} {tb : WX → TS} {tf tfs : TS} {Wout : WX} (hst : X.stack = X.env :: X.outer) (hfr : X.env.frame = some X.env.locals) (hex : X.ex = []) (tk : L2.Takes X Wout)
    (hb : ∀ (W : WX) (pn : List (Addr × Obj)) (xe : Value → Shared → Prop), L2N.Takes (X.tr pn xe) W → PSs (X.tr pn xe) body (tb W)) (hf : PSs X.nox (f₀ :: fs) tf) (hsu : ∀ (a : Addr) (pn : List (Addr × Obj)), L2H.HotC (X.suite a pn) → PSs (X.suite a pn) (f₀ :: fs) tfs) :
    PS X (.Try body [] [] (f₀ :: fs) pos) (tFinX tb tf tfs Wout) := by
  refine ⟨fun pins s σ H D I h => ?_⟩
  have ok := I.ok
  refine wpAny_Try_finally ?_
  refine wpAny_mono ((hb (wFin tfs Wout) (X.pn ++ pins) (fun x s₁ => wpAny (model X.prog X.w) X.A (noteFrame x X.env) (fun _ s₂ => FinallyRaised X.prog X.w X.A X.xe X.env (f₀ :: fs) (SP X pins D) x s₂) (FinallyRaised X.prog X.w X.A X.xe X.env (f₀ :: fs) (SP X pins D)) s₁) fun u s' xx => fin_excN hst hfr hex ok tk hsu xx).run [] s σ H _ (I.toTry _) h) (fun g s1 z => ?_) (fun x s1 hx => hx)
  cases g with
  | next =>
    obtain ⟨σ1, H1, I1, q1⟩ := z
    refine wpAny_execs_nil ?_
    refine wpAny_mono (hf.run pins s1 σ1 H1 D ((I1.ofTry ok).wish _) q1) (fun g s2 q => ?_) fun _ _ z => False.elim z
    have q' : SP X pins D g s2 := q.unwish
    cases g <;> exact q'
  | ret u => exact z.elim fun _ ⟨_, _, _, _, q⟩ => q.elim
  | brk => exact z.elim fun _ ⟨_, _, q⟩ => q.elim
  | cont => exact z.elim fun _ ⟨_, _, q⟩ => q.elim
end
end MhN
/-! MhFrm -/
namespace MhN
open PySem PySem.Spec PyProof.Rows L2 Mh
/-! ### raise X(..) from e, e the exception that is handled -/
section
variable {M : Model} {h : Heap} {a : Addr} {o : Obj} {vs : Array Value}
theorem no_type (e : h.get? a = some o) (d : o.data = .fields vs) : PySem.W.Looks M h (isType (.ref a)) false := fun A Q E s k q => by
  simp only [isType, loadHead]
  refine wpAny_bind (wpAny_loadPart (k _ _ e) ?_)
  rw [d]
  exact wpAny_pure q
theorem its_type (e : h.get? a = some o) : PySem.W.Looks M h (typeOf (.ref a)) o.cls := fun A Q E s k q => wpAny_typeOf_ref (k _ _ e) q
theorem as_exc {what : String} (e : h.get? a = some o) (d : o.data = .fields vs) (L : PySem.W.Looks M h (isSubtype o.cls (.type "BaseException")) true) : PySem.W.Looks M h (excFromValue (.ref a) what) (.ref a) := by
  have L1 : PySem.W.Looks M h (isExcClass (.ref a)) false := by
    unfold isExcClass
    exact (no_type e d).andThen (by rw [if_neg (by decide)]; exact PySem.W.Looks.now)
  have L2 : PySem.W.Looks M h (isInstance (.ref a) (.type "BaseException")) true := (its_type e).andThen L
  unfold excFromValue
  refine L1.andThen ?_
  rw [if_neg (by decide)]
  refine L2.andThen ?_
  rw [if_pos rfl]
  exact PySem.W.Looks.now
theorem as_self (e : h.get? a = some o) (L : PySem.W.Looks M h (typeOf o.cls) (.type "type")) : PySem.W.Looks M h (raisedInstance (.ref a)) (.ref a) := by
  unfold raisedInstance
  refine (its_type e).andThen (L.andThen ?_)
  rw [if_pos (beq_self_eq_true _)]
  exact PySem.W.Looks.now
end
/-- the new exception's record behind «from» -/
def caused (b : Addr) (vs : Array Value) : Array Value := (vs.setIfInBounds 3 (.ref b)).setIfInBounds 4 (.bool true)
theorem caused_get {b : Addr} {vs : Array Value} {j : Nat} (h3 : 3 ≠ j) (h4 : 4 ≠ j) : (caused b vs)[j]? = vs[j]? := by
  unfold caused
  rw [Array.getElem?_setIfInBounds_ne h4, Array.getElem?_setIfInBounds_ne h3]
theorem caused_size {b : Addr} {vs : Array Value} : (caused b vs).size = vs.size := by unfold caused; simp
/-- a class whose instances may be raised -/
def RaisesK (K : PySem.W.Frag) (cls : Value) : Prop := ∀ (M : Model) (h : Heap), K.In h → PySem.W.Looks M h (isSubtype cls (.type "BaseException")) true ∧ PySem.W.Looks M h (typeOf cls) (.type "type")
section
variable {X : Cx} {K : PySem.W.Frag} {cls0 : Value} {W : WX} {e : Expr} {t : L2.St → Hp → XK → Prop} {i : Nat} {n : Str} {cp pos : Pos} {p : Addr × Obj}
theorem ps_raiseF (hK : X.K = K) (hz0 : p.2.cls = cls0) (hot : L2H.Hot1 X.A p) (hp : p ∈ X.pn) (hi : X.N[i]? = some n) (hk : X.env.scope.kind = .function) (hl : X.env.kindOf n = some .local) (hv : Vis X.env.scope n) (hd : (n == ("__debug__" : Str)) = false) (tk : L2.Takes X W) (he : L2H.PMk5 X e t) :
    PS X (.Raise (some e) (some (.Name n cp)) pos) (fun _ σ H => RaisesK K cls0 ∧ σ[i]? = some (some (.ref p.1)) ∧ t σ H fun cls d H' => W cls d σ H') := by
  refine ⟨fun pins s σ H D I hh => ?_⟩
  obtain ⟨rz, hσ, ht⟩ := hh
  obtain ⟨hand, us, du, c2⟩ := hot
  show wpAny (model X.prog X.w) X.A (do standAt pos; raiseStmt X.env (some (do let v ← eval e X.env; standAt pos; pure v)) (some (do let v ← eval (.Name n cp) X.env; standAt pos; pure v))) _ _ _
  refine wpAny_bind (wpAny_standAt ?_)
  unfold raiseStmt
  dsimp only
  refine wpAny_bind (wpAny_bind (thn (he pins s σ H _ I ht) fun u s1 hu => wpAny_bind (wpAny_standAt (wpAny_pure ?_))))
  obtain ⟨⟨a, oe, vs, sI, H', cls, d, rfl, J, k, hne, ha, hz, hdt, h1, na, os, ag, r, q⟩, six⟩ := hu
  have h4 : 4 < vs.size := six a oe vs rfl ha hdt
  -- the cause
  obtain ⟨m, hn, look⟩ := J.loc
  obtain ⟨u, ru, lk⟩ := look i n (.ref p.1) hi hσ hv
  obtain rfl : u = Value.ref p.1 := ru
  have hm : m n = some (.ref p.1) := by
    rcases lk with ⟨_, z⟩ | ⟨z, _⟩
    · exact z
    · rw [hl] at z
      rcases z with z | z <;> cases z
  have P1 := (J.pin p (List.mem_append_left _ hp)).1
  have P2 := k _ _ P1
  have ne : p.1 ≠ a := fun z => by rw [z, hne] at P1; cases P1
  refine wpAny_bind (wpAny_holding (wpAny_bind (PySem.ESX.ldL (hn.keeps k) hm (wpAny_bind (wpAny_standAt (wpAny_pure ?_))) hk hl hd)))
  have KI := J.kIn.keeps k
  have X1 := as_exc (M := model X.prog X.w) (what := "exceptions must derive from BaseException") ha hdt (by rw [hz.1]; exact (r _ _ KI).1)
  have X2 := as_exc (M := model X.prog X.w) (what := "exception causes must derive from BaseException") P2 du (by rw [hz0]; exact (rz _ _ (by rw [← hK]; exact KI)).1)
  refine wpAny_bind (wpAny_pure ?_)
  refine wpAny_bind (wpAny_holding (X1.here ?_))
  dsimp only
  rw [if_neg (by simp : ¬ ((Value.ref p.1 == Value.none) = true))]
  refine wpAny_bind (wpAny_holding (X2.here ?_))
  -- the two stores
  have d3 := Obj.data_mapFields hdt (·.setIfInBounds 3 (.ref p.1))
  have a3 := Heap.get?_update_self (Obj.mapFields (·.setIfInBounds 3 (.ref p.1))) ha (Obj.isFreed_of_fields d3)
  refine wpAny_bind (wpAny_setField ha hdt (by omega) ?_)
  have d4 := Obj.data_mapFields d3 (·.setIfInBounds 4 (.bool true))
  have a4 := Heap.get?_update_self (Obj.mapFields (·.setIfInBounds 4 (.bool true))) a3 (Obj.isFreed_of_fields d4)
  refine wpAny_bind (wpAny_setField a3 d3 (by rw [Array.size_setIfInBounds]; exact h4) ?_)
  have c4 : (((oe.mapFields (·.setIfInBounds 3 (.ref p.1))).mapFields (·.setIfInBounds 4 (.bool true)))).cls = cls := by rw [Obj.cls_mapFields, Obj.cls_mapFields]; exact hz.1
  have other : ∀ b u, b ≠ a → s1.heap.get? b = some u → ((s1.heap.update a (Obj.mapFields (·.setIfInBounds 3 (.ref p.1)))).update a (Obj.mapFields (·.setIfInBounds 4 (.bool true)))).get? b = some u := fun b u nb z => by
    rw [Heap.get?_update_other _ _ (Ne.symm nb), Heap.get?_update_other _ _ (Ne.symm nb)]
    exact z
  have dz : (((oe.mapFields (·.setIfInBounds 3 (.ref p.1))).mapFields (·.setIfInBounds 4 (.bool true)))).dict = oe.dict := by rw [PySem.HandSPX.dict_mapFields, PySem.HandSPX.dict_mapFields]
  have kin : ∀ b u, sI.heap.get? b = some u → ((s1.heap.update a (Obj.mapFields (·.setIfInBounds 3 (.ref p.1)))).update a (Obj.mapFields (·.setIfInBounds 4 (.bool true)))).get? b = some u := fun b u z => other b u (fun c => by rw [c, hne] at z; cases z) (k b u z)
  generalize (s1.heap.update a (Obj.mapFields (·.setIfInBounds 3 (.ref p.1)))).update a (Obj.mapFields (·.setIfInBounds 4 (.bool true))) = G at a4 other kin ⊢
  have d5 : ((oe.mapFields (·.setIfInBounds 3 (.ref p.1))).mapFields (·.setIfInBounds 4 (.bool true))).data = .fields (caused p.1 vs) := d4
  generalize ((oe.mapFields (·.setIfInBounds 3 (.ref p.1))).mapFields (·.setIfInBounds 4 (.bool true))) = o5 at a4 c4 dz d5
  refine wpAny_bind ((no_type (M := model X.prog X.w) (h := G) a4 d5).here ?_)
  rw [if_neg (by decide)]
  refine wpAny_bind ((as_self (M := model X.prog X.w) (h := G) a4 (by rw [c4]; exact (r _ _ (J.kIn.keeps kin)).2)).here ?_)
  refine wpAny_bind ?_
  unfold setFlight
  refine wpAny_bind (wpAny_field a4 d5 (by rw [caused_get (by decide) (by decide)]; exact h1) ?_)
  rw [if_neg (by decide)]
  refine wpAny_pure ?_
  refine HotX.raiseNew_hot (x1 := p.1) ⟨hand, p.2, us, other _ _ ne P2, du, c2⟩ ne a4 d5 (by rw [caused_size]; omega) ?_
  have s6 := Obj.data_mapFields d5 (·.setIfInBounds 2 (.ref p.1))
  have s7 := Heap.get?_update_self (Obj.mapFields (·.setIfInBounds 2 (.ref p.1))) a4 (Obj.isFreed_of_fields s6)
  refine tk _ _ (L2.XE.new J (fun b u z => ?_) hne s7 ⟨by rw [Obj.cls_mapFields]; exact c4, by rw [PySem.HandSPX.dict_mapFields, dz]; exact hz.2.1⟩ s6 ?_ na os ag q)
  · have nb : b ≠ a := fun c => by rw [c, hne] at z; cases z
    show (G.update a _).get? b = some u
    rw [Heap.get?_update_other _ _ (Ne.symm nb)]
    exact kin b u z
  · rw [Array.getElem?_setIfInBounds_ne (by decide), caused_get (by decide) (by decide)]
    exact h1
end
end MhN
/-! MhText -/
namespace Mh
open PySem PySem.Spec PyProof.Rows L2 TL
/-! ### numbers as texts -/
def wS (i : Int) : Str := Str.ofString (toString i)
def wL (i : Int) : List Nat := if 0 ≤ i then numL i.toNat else 45 :: numL (-i).toNat
theorem tl_wS (i : Int) : tl (wS i) = wL i := by
  unfold wS wL
  by_cases h : 0 ≤ i
  · rw [if_pos h]
    obtain ⟨n, rfl⟩ : ∃ n : Nat, i = ((n : Nat) : Int) := ⟨i.toNat, by omega⟩
    rw [Int.toNat_natCast]
    exact tl_num n
  · rw [if_neg h]
    obtain ⟨n, rfl⟩ : ∃ n : Nat, i = Int.negSucc n := ⟨(-i).toNat - 1, by omega⟩
    have e : toString (Int.negSucc n) = "-" ++ Nat.repr (n + 1) := rfl
    rw [e, tl_ofString, String.toList_append, List.map_append]
    have e2 := tl_num (n + 1)
    rw [tl_ofString] at e2
    have e3 : (toString (((n + 1 : Nat)) : Int)) = Nat.repr (n + 1) := rfl
    rw [e3] at e2
    rw [e2]
    rfl
theorem wL_sane {i : Int} {s : Nat} (h : s ≠ 45) (h2 : s < 48 ∨ 57 < s) : s ∉ wL i := by
  unfold wL
  split
  · exact numL_free h2
  · intro m
    rcases List.mem_cons.mp m with e | m
    · exact h e
    · exact numL_free h2 m
theorem wL_ne (i : Int) : wL i ≠ [] := by
  unfold wL
  split
  · exact numL_ne _
  · exact fun z => nomatch z
theorem wL_len {i : Int} (h : -9999 ≤ i ∧ i ≤ 9999) : (wL i).length ≤ 5 := by
  unfold wL
  split
  · exact Nat.le_trans (numL_len (k := 4) (by decide) (by omega)) (by decide)
  · have := numL_len (n := (-i).toNat) (k := 4) (by decide) (by omega)
    simp only [List.length_cons]
    omega
theorem wS_len {i : Int} (h : -9999 ≤ i ∧ i ≤ 9999) : (wS i).length ≤ 5 := by
  rw [len_tl, tl_wS]
  exact wL_len h
theorem int_wS {i : Int} (h : -9999 ≤ i ∧ i ≤ 9999) : intText? (wS i) = some i := by
  by_cases h0 : 0 ≤ i
  · obtain ⟨n, rfl⟩ : ∃ n : Nat, i = ((n : Nat) : Int) := ⟨i.toNat, by omega⟩
    exact int_num (Nat.le_trans (numL_len (k := 4) (by decide) (by omega)) (by decide))
  · have e : (wS i).cps.toList = 45 :: numL (-i).toNat := by
      have := tl_wS i
      unfold wL at this
      rw [if_neg h0] at this
      exact this
    rw [intText_neg e (numL_digits _) (numL_ne _) (Nat.le_trans (wS_len h) (by decide)), numL_val]
    exact congrArg some (by omega)
end Mh
/-! MhPart -/
namespace Mh
open PySem PySem.Spec PyProof.Rows L2 TL
/-! ### a test or an answer: a word, and what stands behind it -/
inductive Thing where
  | n (i : Int) | k (ns : List Int)
def Thing.d : Thing → PyData
  | .n i => .int i
  | .k ns => .tuple (ns.map .int)
def comma : Str := ","
def blank : Str := " "
def Thing.s : Thing → Str
  | .n i => wS i
  | .k ns => Txt.join comma (ns.map wS)
def Thing.ok : Thing → Prop
  | .n i => -9999 ≤ i ∧ i ≤ 9999
  | .k ns => ns.length ≤ 8 ∧ ∀ i ∈ ns, -9999 ≤ i ∧ i ≤ 9999
structure Part where
  w : Str
  ts : List Thing
def Part.d (p : Part) : PyData := .tuple (.str p.w :: p.ts.map Thing.d)
def Part.words (p : Part) : List Str := p.w :: p.ts.map Thing.s
structure Part.ok (p : Part) : Prop where
  w : p.w.length ≤ 10
  len : p.ts.length ≤ 3
  ts : ∀ t ∈ p.ts, t.ok
theorem log2_ok {i : Int} (h : -9999 ≤ i ∧ i ≤ 9999) : i.natAbs.log2 < 1920 := by
  have h1 : i.natAbs ≤ 9999 := by omega
  by_cases h0 : i.natAbs = 0
  · rw [h0]
    decide
  · have : i.natAbs.log2 < 14 := (Nat.log2_lt h0).mpr (Nat.lt_of_le_of_lt h1 (by decide))
    omega
theorem sum_wS : ∀ {ns : List Int}, (∀ i ∈ ns, -9999 ≤ i ∧ i ≤ 9999) → ((ns.map wS).map (·.length)).sum ≤ 5 * ns.length
  | [], _ => by simp
  | i :: ns, h => by
    have h1 := wS_len (h i List.mem_cons_self)
    have h2 := sum_wS (ns := ns) fun j hj => h j (List.mem_cons_of_mem _ hj)
    simp only [List.map_cons, List.sum_cons, List.length_cons] at h2 ⊢
    omega
theorem sc_part_words : FnScope ["part", "found", "thing", "one"] ["part"] (defScope s_part_words) := ⟨rfl, rfl, rfl, by decide +kernel, rfl, by decide +kernel, by decide +kernel⟩
def spPartWords (K : PySem.W.Frag) : Sp := fun vs H Q _ => ∃ (v : V) (p : Part), vs = [v] ∧ Dp K H v p.d ∧ p.ok ∧ ∀ (H' : Hp) (a : Addr), Fx [] H H' → H a = none → H' a = some (.lst (p.words.map V.str)) → Q (.ref a) H'
theorem ok_part_words {P : Program} {w : World} {K : PySem.W.Frag} {mg : Str → Option Value} {base : Heap} (T : Tx K mg) : Def P w K mg base CX0 1 "part_words" ["part"] (spPartWords K) := by
  obtain ⟨fd, F⟩ := T.d_part_words
  refine ⟨_, fd, F.ok sc_part_words (fun vs H Q E h => ?_) (fun cdv A outer s H vs Q E hr h => ?_), F.bindsN fun _ _ _ _ _ _ us hl => match us, hl with | [_], _ => rfl, T.g_part_words, F.kp⟩
  · obtain ⟨v, p, rfl, _⟩ := h
    rfl
  · obtain ⟨v, p, rfl, hd, hp, q⟩ := h
    refine ⟨_, PSs.nox (pss_cons (ps_set (i := 1) sc_part_words.nd rfl (by first | exact Or.inl rfl | exact Or.inr rfl) (pe_lst (pa_cons (pe_ix ix_tup (pv 0) pe_int (fun _ _ => rfl)) pa_nil)))
        (pss_cons (ps_for PassesOwn.never rfl (pi_tup (pe_slice sl_tup (pv 0) (po_some pe_int) po_none)) (pg_name (i := 2) sc_part_words.nd rfl (by first | exact Or.inl rfl | exact Or.inr rfl))
        (pss_one (ps_expr (pe_bm PySem.F.plainAttrs_list PySem.F.slot_list_append PySem.F.type_list_append mt_append (pv 1) (pa_cons (pe_ifExp (pt_val (pe_callB call_isiD (by rfl) T.f_isinstance (by decide +kernel) (pa_cons (pv 2) (pa_cons (gT (n := "tuple") T.f_tuple) pa_nil)))) (pe_join pe_str (pe_lc (own := [("one", 3)]) (g := (gName 3)) (tt := tYes) rfl sc_part_words.nd (pi_tup (pv 2)) (blkOk_by (own := [("one", 3)]) (N := ["part", "found", "thing", "one"]) (sc := defScope s_part_words) (by decide +kernel)) (fun _ _ _ _ _ => pg_name (i := 3) sc_part_words.nd rfl (by first | exact Or.inl rfl | exact Or.inr rfl)) (fun _ _ _ _ _ => pts_nil) (fun _ _ _ _ _ => (pe_callTy call_str_int (by rfl) T.f_str (by decide +kernel) (pa_cons (pv 3) pa_nil))))) (pe_callTy call_str_int (by rfl) T.f_str (by decide +kernel) (pa_cons (pv 2) pa_nil))) pa_nil)))))
        (pss_one (ps_ret (pv 1))))), ?_⟩
    obtain ⟨a, xs, rfl, hs, hx⟩ := hd.tupI
    obtain ⟨w0, vs, rfl, hw0, hvs⟩ : ∃ w0 vs, xs = w0 :: vs ∧ Dp K H w0 (.str p.w) ∧ DpAll K H vs (p.ts.map Thing.d) := by
      cases hx with | cons h t => exact ⟨_, _, rfl, h, t⟩
    cases hw0
    have hvl : vs.length = p.ts.length := by rw [hvs.len, List.length_map]
    have hpl := hp.len
    refine rd_ixT (j := 0) rfl hs rfl ⟨by show 1 ≤ sizeLine; decide, fun fp hfp => ?_⟩
    have f1 : Fx [] H (upd H fp (.lst [.str p.w])) := Fx.new hfp
    have hf1 : upd H fp (.lst [.str p.w]) fp = some (.lst ((p.words.take 1).map V.str)) := upd_same
    generalize upd H fp (.lst [.str p.w]) = H1 at f1 hf1
    refine ⟨_, rfl, 1, rfl, a, _, rfl, f1.sqT hs, ?_, fun pp hpp => ?_⟩
    · rw [HT.sIx_none, show HT.sIx (V.str p.w :: vs).length 0 (some 1) = min 1 (V.str p.w :: vs).length from HT.sIx_nat _ 0 1]
      simp only [List.length_cons]
      omega
    have ecut : cutV (V.str p.w :: vs) (some 1) none = vs := by
      unfold cutV
      rw [HT.sIx_none, show HT.sIx (V.str p.w :: vs).length 0 (some 1) = min 1 (V.str p.w :: vs).length from HT.sIx_nat _ 0 1, show min 1 (V.str p.w :: vs).length = 1 by simp only [List.length_cons]; omega]
      simp
    rw [ecut]
    have f2 : Fx [] H1 (upd H1 pp (.tup vs)) := Fx.new hpp
    have hvt : SqT K (upd H1 pp (.tup vs)) pp vs := SqT.of upd_same
    have hf2 := f2.to hf1 (fun z => nomatch z)
    have f12 := f1.trans f2
    generalize upd H1 pp (.tup vs) = H2 at f2 hvt hf2 f12
    refine ⟨pp, rfl, ⟨vs, hvt⟩, for_it (walk_tup (xs := vs)) (fun i σ' H' => ∃ y2, σ' = [some (.ref a), some (.ref fp), y2, none] ∧ Fx [] H H' ∧ SqT K H' pp vs ∧ H' fp = some (.lst ((p.words.take (i + 1)).map V.str))) ⟨none, rfl, f12, hvt, hf2⟩ (fun i σ' H' _ ⟨_, _, _, h, _⟩ => h) (fun i x σ' H3 H4 hi hP y => ?_) (fun σ' H' hP => ?_)⟩
    · obtain ⟨y2, rfl, f, hvt3, hf3⟩ := hP
      obtain ⟨rfl, hxg⟩ := y
      obtain ⟨d, g1, g2⟩ := hvs.get hxg
      rw [List.getElem?_map] at g1
      obtain ⟨t, ht, rfl⟩ := Option.map_eq_some_iff.mp g1
      have hto := hp.ts t (List.mem_of_getElem? ht)
      have g3 := g2.ext f
      have hwi : p.words[i + 1]? = some t.s := by
        show (p.ts.map Thing.s)[i]? = _
        rw [List.getElem?_map, ht]
        rfl
      have hwl : ((p.words.take (i + 1)).map V.str).length ≤ 1000 := by
        rw [List.length_map, List.length_take]
        omega
      have fin : ∀ Hx, Fx [] H4 Hx → ∃ y2, ([some (.ref a), some (.ref fp), some x, none] : L2.St) = [some (.ref a), some (.ref fp), y2, none] ∧ Fx [] H (upd Hx fp (.lst ((p.words.take (i + 1)).map V.str ++ [.str t.s]))) ∧ SqT K (upd Hx fp (.lst ((p.words.take (i + 1)).map V.str ++ [.str t.s]))) pp vs ∧ upd Hx fp (.lst ((p.words.take (i + 1)).map V.str ++ [.str t.s])) fp = some (.lst ((p.words.take (i + 1 + 1)).map V.str)) := fun Hx fx => by
        have hfx := fx.to hf3 (fun z => nomatch z)
        have fD : Fx [fp] Hx (upd Hx fp (.lst ((p.words.take (i + 1)).map V.str ++ [.str t.s]))) := Fx.set List.mem_cons_self (Chg.lst hfx)
        refine ⟨_, rfl, (f.trans fx).loc hfp (Chg.lst hfx), fD.sqT (fx.sqT hvt3), ?_⟩
        have e : p.words.take (i + 1 + 1) = p.words.take (i + 1) ++ [t.s] := by
          rw [List.take_add_one (i := i + 1), hwi]
          rfl
        rw [upd_same, e, List.map_append]
        rfl
      refine ⟨_, rfl, .inl ⟨rfl, _, SqL.of hf3⟩, rd_isD rfl (by decide) g3 ⟨_, rfl, ?_⟩⟩
      cases t with
      | n k =>
        cases g3
        refine ifF rfl ⟨_, rfl, k, rfl, log2_ok hto, ⟨fp, _, _, rfl, rfl, hf3, Nat.lt_of_le_of_lt hwl (by decide), fin _ .refl⟩⟩
      | k ns =>
        obtain ⟨b, zs, rfl, hb, hz⟩ := g3.tupI
        obtain rfl := DpAll.intsI hz
        refine ifT rfl ⟨⟨_, rfl⟩, _, rfl, b, rfl, ⟨_, hb⟩, fun D hD => lc_map (walk_tup (xs := ns.map V.int)) (fun i => .str (wS (ns.getD i 0))) (by rw [List.length_map]; have := hto.1; omega) hD (fun H5 f5 => f5.sqT hb) (fun _ _ _ _ y => YAt.fx y) (fun i x H5 H6 Qe Z hi f5 y k => ?_) (fun H5 f5 hL => ?_)⟩
        · obtain ⟨rfl, hxg⟩ := y
          rw [List.getElem?_map] at hxg
          obtain ⟨j, hj, rfl⟩ := Option.map_eq_some_iff.mp hxg
          refine ⟨rfl, ifT rfl ⟨_, rfl, j, rfl, log2_ok (hto.2 j (List.mem_of_getElem? hj)), ?_⟩⟩
          have ej : ns.getD i 0 = j := getD_of hj
          rw [ej] at k
          exact k _ .refl
        · have eL : (List.range (ns.map V.int).length).map (fun i => V.str (wS (ns.getD i 0))) = (ns.map wS).map V.str := by
            rw [List.length_map]
            refine List.ext_getElem? fun j => ?_
            rw [List.getElem?_map, List.getElem?_map, List.getElem?_map]
            by_cases c : j < ns.length
            · rw [List.getElem?_range c, List.getElem?_eq_getElem c]
              have : ns.getD j 0 = ns[j] := getD_of (List.getElem?_eq_getElem c)
              show some (V.str (wS (ns.getD j 0))) = some (V.str (wS ns[j]))
              rw [this]
            · rw [List.getElem?_eq_none (by simp; omega), List.getElem?_eq_none (by omega)]
              rfl
          rw [eL] at hL
          have hsum := sum_wS hto.2
          have h8 := hto.1
          refine ⟨comma, D, ns.map wS, rfl, rfl, .inl (SqL.of hL), ?_, ⟨fp, _, _, rfl, rfl, f5.to hf3 (fun z => nomatch z), Nat.lt_of_le_of_lt hwl (by decide), fin _ f5⟩⟩
          rw [List.length_map]
          show _ + ns.length * 1 ≤ 16777216
          omega
    · obtain ⟨y2, rfl, f, hvt3, hf3⟩ := hP
      have e : p.words.take (vs.length + 1) = p.words := by
        refine List.take_of_length_le ?_
        show (p.ts.map Thing.s).length + 1 ≤ _
        rw [List.length_map, hvl]
        exact Nat.le_refl _
      rw [e] at hf3
      exact ⟨_, rfl, q _ fp f hfp hf3⟩
end Mh
/-! MhPart2P -/
namespace Mh
open PySem PySem.Spec PyProof.Rows L2 TL
theorem joinL_app (S : List Nat) : ∀ {ps qs : List (List Nat)}, ps ≠ [] → qs ≠ [] → joinL S (ps ++ qs) = joinL S ps ++ (S ++ joinL S qs)
  | [], _, h, _ => absurd rfl h
  | [p], q :: qs, _, _ => rfl
  | p :: p2 :: ps, qs, _, h2 => by
    show p ++ (S ++ joinL S (p2 :: ps ++ qs)) = (p ++ (S ++ joinL S (p2 :: ps))) ++ (S ++ joinL S qs)
    rw [joinL_app S (List.cons_ne_nil _ _) h2]
    simp only [List.append_assoc]
theorem joinL_len (S : List Nat) (m : Nat) : ∀ {ps : List (List Nat)}, (∀ p ∈ ps, p.length ≤ m) → (joinL S ps).length ≤ ps.length * (m + S.length)
  | [], _ => by simp [joinL]
  | [p], h => by
    have := h p List.mem_cons_self
    simp [joinL]
    omega
  | p :: p2 :: ps, h => by
    have h1 := h p List.mem_cons_self
    have h2 := joinL_len S m (ps := p2 :: ps) fun q hq => h q (List.mem_cons_of_mem _ hq)
    show (p ++ (S ++ joinL S (p2 :: ps))).length ≤ _
    rw [List.length_append, List.length_append, List.length_cons, Nat.succ_mul]
    omega
def jb (ws : List Str) : Str := Txt.join blank ws
theorem tl_jb (ws : List Str) : tl (jb ws) = joinL [32] (ws.map tl) := by
  unfold jb
  rw [join_eq, tl_join]
  rfl
theorem jb_app {ws vs : List Str} (h1 : ws ≠ []) (h2 : vs ≠ []) : jb (ws ++ vs) = jb ws ++ blank ++ jb vs := by
  refine ext_tl ?_
  rw [tl_append, tl_append, tl_jb, tl_jb, tl_jb, List.map_append, joinL_app _ (by simpa using h1) (by simpa using h2), List.append_assoc]
  rfl
theorem jb_one (w : Str) : jb [w] = w := ext_tl (by rw [tl_jb]; rfl)
theorem jb_len {ws : List Str} (h : ∀ w ∈ ws, w.length ≤ 60) : (jb ws).length ≤ ws.length * 61 := by
  rw [len_tl, tl_jb]
  refine Nat.le_trans (joinL_len [32] 60 fun p hp => ?_) (by rw [List.length_map]; exact Nat.le_refl _)
  obtain ⟨w, hw, rfl⟩ := List.mem_map.mp hp
  rw [← len_tl]
  exact h w hw
theorem Thing.s_len {t : Thing} (h : t.ok) : t.s.length ≤ 60 := by
  cases t with
  | n i => exact Nat.le_trans (wS_len h) (by decide)
  | k ns =>
    show (Txt.join comma (ns.map wS)).length ≤ 60
    rw [len_tl, join_eq, tl_join]
    refine Nat.le_trans (joinL_len (tl comma) 5 fun p hp => ?_) ?_
    · obtain ⟨w, hw, rfl⟩ := List.mem_map.mp hp
      obtain ⟨i, hi, rfl⟩ := List.mem_map.mp hw
      rw [tl_wS]
      exact wL_len (h.2 i hi)
    · rw [List.length_map, List.length_map]
      show ns.length * (5 + 1) ≤ 60
      have := h.1
      omega
theorem Part.words_len {p : Part} (h : p.ok) : ∀ w ∈ p.words, w.length ≤ 60 := fun w hw => by
  rcases List.mem_cons.mp hw with rfl | hw
  · exact Nat.le_trans h.w (by decide)
  · obtain ⟨t, ht, rfl⟩ := List.mem_map.mp hw
    exact Thing.s_len (h.ts t ht)
end Mh
/-! MhWritten -/
namespace Mh
open PySem PySem.Spec PyProof.Rows L2 TL
section
variable {X : Cx} {o e : Expr} {to te : TE}
def rJoin (K : PySem.W.Frag) : V → List V → Hp → VK → Prop := fun x xs H Q => ∃ a p, ∃ ys : List Str, x = .str a ∧ xs = [.ref p] ∧ (SqL K H p (ys.map V.str) ∨ SqT K H p (ys.map V.str)) ∧
  (ys.map (·.length)).sum + ys.length * a.length ≤ 16777216 ∧ Q (.str (Txt.join a ys)) H
theorem kpe_join {K : PySem.W.Frag} {apos pos : Pos} (h : X.K = K) (ho : PE X o to) (he : PE X e te) (hs : starEach [e] X.env = [(false, eval e X.env)] := by rfl) (hbase : attributeBase o "join" X.env (eval o X.env) = eval o X.env := by rfl) (hline : (apos.endLine == pos.line) = true := by rfl) :
    PE X (.Call (.Attribute o "join" apos) [e] [] pos) (tM1 (rJoin K) to te) := by
  subst h
  exact pe_join ho he hs hbase hline
end
def Tst.part : Tst → Part
  | .any => ⟨"any", []⟩
  | .below n => ⟨"below", [.n n]⟩
  | .rest m r => ⟨"rest", [.n m, .n r]⟩
  | .chance m r => ⟨"chance", [.n m, .n r]⟩
  | .known ns => ⟨"known", [.k ns]⟩
def Ans.part : Ans → Part
  | .num n => ⟨"num", [.n n]⟩
  | .plus n => ⟨"plus", [.n n]⟩
  | .times n => ⟨"times", [.n n]⟩
  | .rest n => ⟨"rest", [.n n]⟩
  | .none => ⟨"none", []⟩
theorem Tst.part_d (t : Tst) : t.d = t.part.d := by cases t <;> rfl
theorem Ans.part_d (a : Ans) : a.d = a.part.d := by cases a <;> rfl
theorem Tst.part_ok {t : Tst} (h : t.ok) : t.part.ok := by
  cases t with
  | any => exact ⟨by decide +kernel, by decide, fun _ m => nomatch m⟩
  | below n =>
    have h2 : 0 ≤ n ∧ n ≤ 9999 := h
    exact ⟨Nat.le_of_ble_eq_true rfl, by show (1 : Nat) ≤ 3; decide, fun t m => by rw [List.mem_singleton.mp m]; exact ⟨by omega, by omega⟩⟩
  | rest m r =>
    have h1 : 2 ≤ m := h.1
    have h2 : m ≤ 99 := h.2.1
    have h3 : 0 ≤ r := h.2.2.1
    have h4 : r ≤ m - 1 := by have := h.2.2.2; omega
    refine ⟨Nat.le_of_ble_eq_true rfl, by show (2 : Nat) ≤ 3; decide, fun t hm => ?_⟩
    rcases List.mem_cons.mp hm with rfl | hm
    · exact ⟨by omega, by omega⟩
    · rw [List.mem_singleton.mp hm]
      exact ⟨by omega, by omega⟩
  | chance m r =>
    have h1 : 2 ≤ m := h.1
    have h2 : m ≤ 99 := h.2.1
    have h3 : 0 ≤ r := h.2.2.1
    have h4 : r ≤ m - 1 := by have := h.2.2.2; omega
    refine ⟨Nat.le_of_ble_eq_true rfl, by show (2 : Nat) ≤ 3; decide, fun t hm => ?_⟩
    rcases List.mem_cons.mp hm with rfl | hm
    · exact ⟨by omega, by omega⟩
    · rw [List.mem_singleton.mp hm]
      exact ⟨by omega, by omega⟩
  | known ns =>
    obtain ⟨h1, h2, h3, h4⟩ := h
    exact ⟨Nat.le_of_ble_eq_true rfl, by show (1 : Nat) ≤ 3; decide, fun t m => by
      rw [List.mem_singleton.mp m]
      exact ⟨h2, fun i hi => ⟨by have := (h3 i hi).1; omega, (h3 i hi).2⟩⟩⟩
theorem Ans.part_ok {a : Ans} (h : a.ok) : a.part.ok := by
  cases a with
  | none => exact ⟨by decide +kernel, by decide, fun _ m => nomatch m⟩
  | rest n =>
    have h1 : 2 ≤ n := h.1
    have h2 : n ≤ 99 := h.2
    exact ⟨Nat.le_of_ble_eq_true rfl, by show (1 : Nat) ≤ 3; decide, fun t m => by rw [List.mem_singleton.mp m]; exact ⟨by omega, by omega⟩⟩
  | _ => exact ⟨Nat.le_of_ble_eq_true rfl, by show (1 : Nat) ≤ 3; decide, fun t m => by rw [List.mem_singleton.mp m]; exact h⟩
def rowW (r : Tst × Ans) : List Str := r.1.part.words ++ r.2.part.words
def rowT (r : Tst × Ans) : Str := jb (rowW r)
def nl : Str := "\n"
def machT (m : Mch) : Str := Txt.join nl (m.map rowT)
theorem rowW_len {r : Tst × Ans} (h1 : r.1.ok) (h2 : r.2.ok) : (rowW r).length ≤ 8 ∧ ∀ w ∈ rowW r, w.length ≤ 60 := by
  have a := (Tst.part_ok h1).len
  have b := (Ans.part_ok h2).len
  refine ⟨?_, fun w hw => ?_⟩
  · show (r.1.part.w :: r.1.part.ts.map Thing.s ++ r.2.part.w :: r.2.part.ts.map Thing.s).length ≤ 8
    simp only [List.length_append, List.length_cons, List.length_map]
    omega
  · rcases List.mem_append.mp hw with hw | hw
    · exact Part.words_len (Tst.part_ok h1) w hw
    · exact Part.words_len (Ans.part_ok h2) w hw
theorem sum_le {m : Nat} : ∀ {ws : List Str}, (∀ w ∈ ws, w.length ≤ m) → (ws.map (·.length)).sum ≤ ws.length * m
  | [], _ => by simp
  | w :: ws, h => by
    have h1 := h w List.mem_cons_self
    have h2 := sum_le (ws := ws) fun q hq => h q (List.mem_cons_of_mem _ hq)
    simp only [List.map_cons, List.sum_cons, List.length_cons, Nat.succ_mul]
    omega
theorem rowT_len {r : Tst × Ans} (h1 : r.1.ok) (h2 : r.2.ok) : (rowT r).length ≤ 488 := by
  obtain ⟨a, b⟩ := rowW_len h1 h2
  have := jb_len b
  show (jb (rowW r)).length ≤ 488
  omega
theorem sc_written : FnScope ["machine", "test", "answer"] ["machine"] (defScope s_written) := ⟨rfl, rfl, rfl, by decide +kernel, rfl, by decide +kernel, by decide +kernel⟩
def spWritten (K : PySem.W.Frag) : Sp := fun vs H Q _ => ∃ (v : V) (m : Mch), vs = [v] ∧ Dp K H v (machD m) ∧ m.ok ∧ ∀ (H' : Hp), Fx [] H H' → Q (.str (machT m)) H'
theorem rd_needM2 {K : PySem.W.Frag} {σ : L2.St} {H : Hp} {Q : VK} {i : Nat} {v : V} {m : Mch} (hv : σ[i]? = some (some v)) (h : m.ok) (hd : Dp K H v (machD m)) (q : ∀ H', Fx [] H H' → Q .non H') : tCall (spNeedMachine K) [] E0 (tCons (tVar i) tNil) σ H Q := ⟨v, hv, need_mach (Q := Q) (E := E0) h hd q⟩
theorem ok_written {P : Program} {w : World} {K : PySem.W.Frag} {mg : Str → Option Value} {base : Heap} (T : Tx K mg) : Def P w K mg base CX0 5 "written" ["machine"] (spWritten K) := by
  obtain ⟨fd, F⟩ := T.d_written
  have G_need_machine := ok_need_machine (P := P) (w := w) (base := base) T
  have G_part_words := ok_part_words (P := P) (w := w) (base := base) T
  refine ⟨_, fd, F.ok sc_written (fun vs H Q E h => ?_) (fun cdv A outer s H vs Q E hr h => ?_), F.bindsN fun _ _ _ _ _ _ us hl => match us, hl with | [_], _ => rfl, T.g_written, F.kp⟩
  · obtain ⟨v, m, rfl, _⟩ := h
    rfl
  · obtain ⟨v, m, rfl, hd, hm, q⟩ := h
    refine ⟨_, PSs.nox (pss_cons (ps_expr (pe_def G_need_machine (hr.mono (by omega)) pass0 (pa_cons (pv 0) pa_nil)))
        (pss_one (ps_ret (pe_join pe_str (pe_lc (own := [("test", 1), ("answer", 2)]) (g := (gTup _ 2 (gCons (gName 1) (gCons (gName 2) gNil)))) (tt := tYes) rfl sc_written.nd (pi_tup (pv 0)) (blkOk_by (own := [("test", 1), ("answer", 2)]) (N := ["machine", "test", "answer"]) (sc := defScope s_written) (by decide +kernel)) (fun _ _ _ _ _ => pg_tup rfl (pgs_cons (pg_name (i := 1) sc_written.nd rfl (by first | exact Or.inl rfl | exact Or.inr rfl)) (pgs_cons (pg_name (i := 2) sc_written.nd rfl (by first | exact Or.inl rfl | exact Or.inr rfl)) pgs_nil))) (fun _ _ _ _ _ => pts_nil) (fun _ _ _ _ _ => (kpe_join (K := K) rfl pe_str (pe_op op_cat (pe_def G_part_words (hr.mono (by omega)) pass0 (pa_cons (pv 1) pa_nil)) (pe_def G_part_words (hr.mono (by omega)) pass0 (pa_cons (pv 2) pa_nil)))))))))), ?_⟩
    refine rd_needM2 rfl hm hd fun H1 f1 => ?_
    obtain ⟨a, xs, rfl, hs, hx⟩ := (hd.ext f1).tupI
    have hl : xs.length = m.length := by rw [hx.len, List.length_map]
    have hml := hm.len
    refine ⟨⟨_, rfl⟩, _, rfl, a, rfl, ⟨_, hs⟩, fun D hD => lc_map (walk_tup (xs := xs)) (fun i => .str ((m.map rowT).getD i blank)) (by omega) hD (fun H2 f => f.sqT hs) (fun _ _ _ _ y => YAt.fx y) (fun i x H2 H3 Qe Z hi f y k => ?_) (fun H2 f hL => ?_)⟩
    · obtain ⟨rfl, hxg⟩ := y
      obtain ⟨d, g1, g2⟩ := hx.get hxg
      rw [List.getElem?_map] at g1
      obtain ⟨r, hr, rfl⟩ := Option.map_eq_some_iff.mp g1
      obtain ⟨o1, o2⟩ := hm.rows r (List.mem_of_getElem? hr)
      obtain ⟨b, w1, w2, rfl, hb, k1, k2⟩ := (g2.ext f).tup2
      rw [Tst.part_d] at k1
      rw [Ans.part_d] at k2
      have er : (m.map rowT).getD i blank = rowT r := getD_of (by rw [List.getElem?_map, hr]; rfl)
      rw [er] at k
      obtain ⟨c1, c2⟩ := rowW_len o1 o2
      refine ⟨b, _, rfl, hb, rfl, _, _, rfl, _, _, rfl, rfl, rfl, ifT rfl ⟨⟨_, rfl⟩, ?_⟩⟩
      refine ⟨w1, rfl, w1, r.1.part, rfl, k1, Tst.part_ok o1, fun Ha p1 fa hn1 hp1 => ⟨w2, rfl, w2, r.2.part, rfl, k2.ext fa, Ans.part_ok o2, fun Hb p2 fb hn2 hp2 => ?_⟩⟩
      have s1 := (Tst.part_ok o1).len
      refine ⟨p1, p2, _, _, rfl, rfl, fb.to hp1 (fun z => nomatch z), hp2, sz2 ?_, fun q1 hq1 => ?_⟩
      · rw [← List.length_append, ← List.map_append, List.length_map]
        exact Nat.le_trans c1 (by decide)
      · refine ⟨blank, q1, rowW r, rfl, rfl, .inl (SqL.of (by rw [upd_same, ← List.map_append]; rfl)), ?_, k _ ((fa.trans fb).trans (Fx.new hq1))⟩
        have := sum_le c2
        show _ + (rowW r).length * 1 ≤ 16777216
        omega
    · have eL : (List.range xs.length).map (fun i => V.str ((m.map rowT).getD i blank)) = (m.map rowT).map V.str := by
        rw [hl]
        refine List.ext_getElem? fun j => ?_
        rw [List.getElem?_map, List.getElem?_map, List.getElem?_map]
        by_cases c : j < m.length
        · rw [List.getElem?_range c, List.getElem?_eq_getElem c]
          have e2 : (m.map rowT).getD j blank = rowT m[j] := getD_of (by rw [List.getElem?_map, List.getElem?_eq_getElem c]; rfl)
          show some (V.str ((m.map rowT).getD j blank)) = some (V.str (rowT m[j]))
          rw [e2]
        · rw [List.getElem?_eq_none (by simp; omega), List.getElem?_eq_none (by omega)]
          rfl
      rw [eL] at hL
      have hsum := sum_le (ws := m.map rowT) (m := 488) fun w hw => by
        obtain ⟨r, hr, rfl⟩ := List.mem_map.mp hw
        obtain ⟨o1, o2⟩ := hm.rows r hr
        exact rowT_len o1 o2
      rw [List.length_map] at hsum
      refine ⟨nl, D, m.map rowT, rfl, rfl, .inl (SqL.of hL), ?_, q _ (f1.trans f)⟩
      rw [List.length_map]
      show _ + m.length * 1 ≤ 16777216
      omega
end Mh
/-! MhNumOf -/
namespace Mh
open PySem PySem.Spec PyProof.Rows L2 TL
/-! ### the number that a word writes -/
def figs (z : Str) : Str := if cutS z none (some 1) == ("-" : Str) then cutS z (some 1) none else z
def digit (c : Nat) : Bool := decide (c ∈ (Str.ofString "0123456789").cps.toList)
def numOf (z : Str) : Option Int :=
  if decide (1 ≤ (figs z).length) && decide ((figs z).length ≤ 4) && (tl (figs z)).all digit then
    match intText? z with
    | some v => if wS v = z then some v else none
    | none => none
  else none
theorem digit_iff (c : Nat) : digit c = true ↔ 48 ≤ c ∧ c ≤ 57 := by
  have e : (Str.ofString "0123456789").cps.toList = [48, 49, 50, 51, 52, 53, 54, 55, 56, 57] := by decide +kernel
  unfold digit
  rw [e, decide_eq_true_iff]
  simp only [List.mem_cons, List.mem_nil_iff, or_false]
  omega
theorem tl_cut1 (z : Str) : tl (cutS z (some 1) none) = (tl z).drop 1 := by
  show ((z.cps.toList.drop (HT.sIx z.length 0 (some 1))).take (HT.sIx z.length z.length none - HT.sIx z.length 0 (some 1))) = z.cps.toList.drop 1
  rw [HT.sIx_none, show HT.sIx z.length 0 (some 1) = min 1 z.length from HT.sIx_nat _ 0 1]
  have hl : z.length = z.cps.toList.length := len_tl z
  rcases Nat.eq_zero_or_pos z.length with h | h
  · have : z.cps.toList = [] := List.eq_nil_of_length_eq_zero (by omega)
    rw [this]
    simp
  · rw [Nat.min_eq_left h]
    exact List.take_of_length_le (by rw [List.length_drop]; omega)
theorem tl_cut0 (z : Str) : tl (cutS z none (some 1)) = (tl z).take 1 := by
  show ((z.cps.toList.drop (HT.sIx z.length 0 none)).take (HT.sIx z.length z.length (some 1) - HT.sIx z.length 0 none)) = z.cps.toList.take 1
  rw [HT.sIx_none, show HT.sIx z.length z.length (some 1) = min 1 z.length from HT.sIx_nat _ _ 1, List.drop_zero, Nat.sub_zero]
  have hl : z.length = z.cps.toList.length := len_tl z
  rcases Nat.eq_zero_or_pos z.length with h | h
  · have : z.cps.toList = [] := List.eq_nil_of_length_eq_zero (by omega)
    rw [this]
    simp
  · rw [Nat.min_eq_left h]
theorem minus_iff (z : Str) : (cutS z none (some 1) == ("-" : Str)) = decide ((tl z).take 1 = [45]) := by
  rw [Bool.eq_iff_iff, beq_iff_eq, decide_eq_true_iff, ← tl_cut0]
  constructor
  · intro h
    rw [h]
    rfl
  · intro h
    exact ext_tl h
theorem numL_num (n : Nat) : (numL n).all digit = true := List.all_eq_true.mpr fun c hc => (digit_iff c).mpr (numL_digits n c hc)
theorem tl_figs {i : Int} : tl (figs (wS i)) = numL i.natAbs := by
  unfold figs
  rw [minus_iff, tl_wS]
  unfold wL
  by_cases h : 0 ≤ i
  · rw [if_pos h]
    have e : ¬ (numL i.toNat).take 1 = [45] := fun z => by
      have hm : 45 ∈ numL i.toNat := List.mem_of_mem_take (by rw [z]; exact List.mem_singleton.mpr rfl)
      exact numL_free (by decide) hm
    rw [if_neg (by simpa using e), tl_wS]
    unfold wL
    rw [if_pos h]
    congr 1
    omega
  · rw [if_neg h, if_pos (by simp), tl_cut1, tl_wS]
    unfold wL
    rw [if_neg h]
    show numL (-i).toNat = _
    congr 1
    omega
theorem numOf_wS {i : Int} (h : -9999 ≤ i ∧ i ≤ 9999) : numOf (wS i) = some i := by
  have e := tl_figs (i := i)
  have el : (figs (wS i)).length = (numL i.natAbs).length := by rw [len_tl, e]
  have h1 : 1 ≤ (numL i.natAbs).length := by
    cases hh : numL i.natAbs with
    | nil => exact absurd hh (numL_ne _)
    | cons _ _ => simp
  have h2 := numL_len (n := i.natAbs) (k := 4) (by decide) (by omega)
  unfold numOf
  rw [el, e, numL_num, decide_eq_true h1, decide_eq_true h2, int_wS h]
  simp
theorem sc_number_of : FnScope ["word", "figures", "sign"] ["word"] (defScope s_number_of) := ⟨rfl, rfl, rfl, by decide +kernel, rfl, by decide +kernel, by decide +kernel⟩
def oN : Option Int → V := oV
def spNumberOf (_K : PySem.W.Frag) : Sp := fun vs H Q _ => ∃ (z : Str), vs = [.str z] ∧ z.length ≤ 400000 ∧ ∀ (H' : Hp), Fx [] H H' → Q (oV (numOf z)) H'
theorem figs_len {z : Str} (h : z.length ≤ 400000) : (figs z).length ≤ 400000 := by
  unfold figs
  split
  · rw [len_tl, tl_cut1, List.length_drop, ← len_tl]
    omega
  · exact h
theorem intText_len {z : Str} (h : z.length ≤ 400000) : z.length ≤ 400040 := by omega
theorem fold_lt : ∀ (l : List Nat) (a : Nat), (∀ c ∈ l, 48 ≤ c ∧ c ≤ 57) → l.foldl (fun acc c => acc * 10 + (c - 48)) a < (a + 1) * 10 ^ l.length
  | [], a, _ => by simp
  | c :: l, a, h => by
    have h1 := h c List.mem_cons_self
    have h2 := fold_lt l (a * 10 + (c - 48)) fun d hd => h d (List.mem_cons_of_mem _ hd)
    show l.foldl _ (a * 10 + (c - 48)) < (a + 1) * 10 ^ (l.length + 1)
    refine Nat.lt_of_lt_of_le h2 ?_
    rw [Nat.pow_succ, Nat.mul_comm (10 ^ l.length) 10, ← Nat.mul_assoc]
    exact Nat.mul_le_mul_right _ (by omega)
theorem num_val {z : Str} (h1 : 1 ≤ (figs z).length) (h2 : (figs z).length ≤ 4) (h3 : (tl (figs z)).all digit = true) : ∃ v, intText? z = some v ∧ v.natAbs ≤ 9999 ∧ z.length ≤ 5 := by
  have hd : NumText.AllDigits (tl (figs z)) := fun c hc => (digit_iff c).mp (List.all_eq_true.mp h3 c hc)
  have hne : tl (figs z) ≠ [] := fun e => by
    rw [len_tl, e] at h1
    exact absurd h1 (by decide)
  have hv : NumText.digitsVal (tl (figs z)) ≤ 9999 := by
    have := fold_lt (tl (figs z)) 0 hd
    have hp : 10 ^ (tl (figs z)).length ≤ 10 ^ 4 := Nat.pow_le_pow_right (by decide) (by rw [← len_tl]; exact h2)
    have e : NumText.digitsVal (tl (figs z)) = (tl (figs z)).foldl (fun acc c => acc * 10 + (c - 48)) 0 := rfl
    rw [e]
    omega
  cases c : (cutS z none (some 1) == ("-" : Str)) with
  | true =>
    have ef : figs z = cutS z (some 1) none := by unfold figs; rw [if_pos c]
    rw [minus_iff, decide_eq_true_iff] at c
    have ez : tl z = 45 :: tl (figs z) := by
      rw [ef, tl_cut1]
      have := List.take_append_drop 1 (tl z)
      rw [c] at this
      exact this.symm
    have hz : z.length ≤ 5 := by
      rw [len_tl, ez, List.length_cons, ← len_tl]
      omega
    exact ⟨_, intText_neg ez hd hne (by omega), by omega, hz⟩
  | false =>
    have ef : figs z = z := by unfold figs; rw [if_neg (by rw [c]; decide)]
    rw [ef] at hd hne hv h2
    have hv2 : NumText.digitsVal z.cps.toList ≤ 9999 := hv
    exact ⟨_, intText_digits hd hne (by omega), by omega, by omega⟩
theorem ok_number_of {P : Program} {w : World} {K : PySem.W.Frag} {mg : Str → Option Value} {base : Heap} (T : Tx K mg) : Def P w K mg base CX0 1 "number_of" ["word"] (spNumberOf K) := by
  obtain ⟨fd, F⟩ := T.d_number_of
  refine ⟨_, fd, F.ok sc_number_of (fun vs H Q E h => ?_) (fun cdv A outer s H vs Q E hr h => ?_), F.bindsN fun _ _ _ _ _ _ us hl => match us, hl with | [_], _ => rfl, T.g_number_of, F.kp⟩
  · obtain ⟨z, rfl, _⟩ := h
    rfl
  · obtain ⟨z, rfl, hz, q⟩ := h
    refine ⟨_, PSs.nox (Evl.pss_cut (ps_set (i := 1) sc_number_of.nd rfl (by first | exact Or.inl rfl | exact Or.inr rfl) (pe_ifExp (pt_cmpR op_eq (pe_slice sl_str (pv 0) po_none (po_some pe_int)) pe_str (nomark _)) (pe_slice sl_str (pv 0) (po_some pe_int) po_none) (pv 0)))
        (pss_cons (ps_if (PW.pt (pw_or (pt_not (pt_chain op_le op_le pe_int (pe_callB call_len_str (by rfl) T.f_len (by decide +kernel) (pa_cons (pv 1) pa_nil)) (gC T.c_MOST_FIGURES))) (pw_or1 (pt_not (pt_val (pe_callB (cr_all rfl) (by rfl) T.f_all (by decide +kernel) (pa_cons (pe_lc (own := [("sign", 2)]) (g := (gName 2)) (tt := tYes) rfl sc_number_of.nd (pi_str (pv 1)) (blkOk_by (own := [("sign", 2)]) (N := ["word", "figures", "sign"]) (sc := defScope s_number_of) (by decide +kernel)) (fun _ _ _ _ _ => pg_name (i := 2) sc_number_of.nd rfl (by first | exact Or.inl rfl | exact Or.inr rfl)) (fun _ _ _ _ _ => pts_nil) (fun _ _ _ _ _ => (pe_cmpR op_inS (pv 2) (gS T.s_FIGURES) (by rfl)))) pa_nil)))))))
        (pss_one (ps_ret pe_non))
        pss_nil)
        (pss_one (ps_ret (pe_ifExp (pt_cmpR op_eq (pe_callTy call_str_int (by rfl) T.f_str (by decide +kernel) (pa_cons (pe_callTy call_int_str (by rfl) T.f_int (by decide +kernel) (pa_cons (pv 0) pa_nil)) pa_nil)) (pv 0) (nomark _)) (pe_callTy call_int_str (by rfl) T.f_int (by decide +kernel) (pa_cons (pv 0) pa_nil)) pe_non))))), ?_⟩
    have hzs : z.length ≤ sizeLine := Nat.le_trans hz (by decide)
    refine ⟨fun σ' H' => σ' = [some (.str z), some (.str (figs z)), none] ∧ H' = H, ?_, fun σ' H' hM => ?_⟩
    · refine ⟨_, rfl, 1, rfl, z, rfl, hzs, rd_eqS (σ := L2.start ["word", "figures", "sign"] [.str z]) ⟨_, rfl, ifB (fun c => ?_) (fun c => ?_)⟩⟩
      · have e : figs z = cutS z (some 1) none := by unfold figs; rw [if_pos c]
        exact ⟨_, rfl, 1, rfl, z, rfl, hzs, by rw [e]; rfl, rfl⟩
      · have e : figs z = z := by unfold figs; rw [if_neg (by rw [c]; decide)]
        exact ⟨_, rfl, by rw [e]; rfl, rfl⟩
    obtain ⟨rfl, rfl⟩ := hM
    have hfl := figs_len hz
    have hfs : (figs z).length ≤ sizeLine := Nat.le_trans hfl (by decide)
    have none_case : (decide (1 ≤ (figs z).length) && decide ((figs z).length ≤ 4) && (tl (figs z)).all digit) = false → ∀ H', Fx [] _ H' → Q .non H' := fun e H' f => by
      have h2 : numOf z = none := by
        unfold numOf
        rw [e]
        rfl
      have := q H' f
      rw [h2] at this
      exact this
    refine ⟨_, rfl, figs z, rfl, hfs, _, _, rfl, rfl, _, rfl, ifB (fun c1 => ⟨_, _, rfl, rfl, _, rfl, ifB (fun c2 => ?_) (fun c2 => ?_)⟩) (fun c1 => ⟨_, rfl, ifT rfl ?_⟩)⟩
    · have k2 : decide (((figs z).length : Int) ≤ 4) = false := by simpa using c2
      have k3 : decide ((figs z).length ≤ 4) = false := by
        have := of_decide_eq_false k2
        exact decide_eq_false (by omega)
      exact ifT rfl (none_case (by rw [k3, Bool.and_false, Bool.false_and]) _ .refl)
    · have k1 : decide (1 ≤ (figs z).length) = true := by
        have := of_decide_eq_true c1
        exact decide_eq_true (by omega)
      have k2 : decide ((figs z).length ≤ 4) = true := by
        have k2' : decide (((figs z).length : Int) ≤ 4) = true := by simpa using c2
        have := of_decide_eq_true k2'
        exact decide_eq_true (by omega)
      have hsz : (figs z).cps.size = (figs z).length := rfl
      refine ⟨_, rfl, figs z, rfl, fun D hD => lc_map walk_str (fun i => .bl (digit ((figs z).cps.toList.getD i 0))) (by rw [hsz]; omega) hD (fun _ _ => trivial) (fun _ _ _ _ y => by rw [y.1]; exact .refl) (fun i x H2 H3 Qe Z hi f y k => ?_) (fun H2 f hL => ?_)⟩
      · obtain ⟨rfl, c, hc, rfl⟩ := y
        have ec : (figs z).cps.toList.getD i 0 = c := getD_of (by rw [Array.getElem?_toList]; exact hc)
        rw [ec] at k
        exact ⟨rfl, ifT rfl ⟨_, rfl, c, _, rfl, rfl, k _ .refl⟩⟩
      · have eA : (((List.range (figs z).cps.size).map fun i => digit ((figs z).cps.toList.getD i 0)).all id) = (tl (figs z)).all digit := range_all (by
          have := all_range_get digit 0 (figs z).cps.toList
          rw [Array.length_toList] at this
          exact this)
        refine ⟨D, (List.range (figs z).cps.size).map fun i => digit ((figs z).cps.toList.getD i 0), rfl, SqL.of (by rw [hL, List.map_map]; rfl), ?_⟩
        rw [eA]
        refine ⟨_, rfl, ifB (fun c3 => ?_) (fun c3 => ?_)⟩
        · have k3 : (tl (figs z)).all digit = false := by simpa using c3
          exact none_case (by rw [k3, Bool.and_false]) _ f
        · have k3 : (tl (figs z)).all digit = true := by simpa using c3
          have l1 := of_decide_eq_true k1
          have l2 := of_decide_eq_true k2
          obtain ⟨v, hv, hb, hz5⟩ := num_val l1 l2 k3
          have en : numOf z = if wS v = z then some v else none := by
            unfold numOf
            rw [k1, k2, k3, hv]
            rfl
          have hlog : v.natAbs.log2 < 1920 := log2_ok (i := v) (by omega)
          refine ⟨_, rfl, z, v, rfl, hv, by omega, v, rfl, hlog, _, rfl, rfl, ?_⟩
          rw [dec_str]
          refine ⟨_, rfl, ifB (fun c4 => ?_) (fun c4 => ?_)⟩
          · have e4 : wS v = z := eq_of_beq c4
            rw [en, if_pos e4] at q
            exact ⟨_, rfl, z, v, rfl, hv, by omega, q _ f⟩
          · have e4 : ¬ wS v = z := ne_of_beq_false c4
            rw [en, if_neg e4] at q
            exact q _ f
    · have k1 : decide (1 ≤ (figs z).length) = false := by
        have := of_decide_eq_false c1
        exact decide_eq_false (by omega)
      exact none_case (by rw [k1, Bool.false_and, Bool.false_and]) _ .refl
end Mh
/-! MhThing -/
namespace Mh
open PySem PySem.Spec PyProof.Rows L2 TL
/-! ### what a word writes -/
def allN : List (Option Int) → Option (List Int)
  | [] => some []
  | some n :: r => (allN r).map (n :: ·)
  | none :: _ => none
def thingO (sort z : Str) : Option Thing := if sort == ("n" : Str) then (numOf z).map .n else (allN ((Txt.split z comma).map numOf)).map .k
def thingV : Option Thing → PyData
  | none => .none
  | some t => t.d
theorem allN_map (ns : List Int) : allN (ns.map some) = some ns := by
  induction ns with
  | nil => rfl
  | cons n ns ih =>
    show (allN (ns.map some)).map (n :: ·) = _
    rw [ih]
    rfl
theorem allN_some : ∀ {os : List (Option Int)} {ns : List Int}, allN os = some ns → os = ns.map some
  | [], ns, h => by
    cases h
    rfl
  | some n :: r, ns, h => by
    have h2 : (allN r).map (n :: ·) = some ns := h
    obtain ⟨ms, e1, rfl⟩ := Option.map_eq_some_iff.mp h2
    rw [allN_some e1]
    rfl
  | none :: r, ns, h => nomatch h
theorem allN_none : ∀ {os : List (Option Int)}, allN os = none ↔ none ∈ os
  | [] => by simp [allN]
  | some n :: r => by
    show (allN r).map (n :: ·) = none ↔ _
    rw [Option.map_eq_none_iff, allN_none]
    simp
  | none :: r => by simp [allN]
theorem inV_none (os : List (Option Int)) : inV .non (os.map oV) = (allN os).isNone := by
  rw [Bool.eq_iff_iff, Option.isNone_iff_eq_none, allN_none]
  unfold inV
  rw [List.any_eq_true]
  constructor
  · rintro ⟨y, hy, e⟩
    obtain ⟨o, ho, rfl⟩ := List.mem_map.mp hy
    cases o with
    | none => exact ho
    | some n => cases e
  · intro h
    exact ⟨.non, List.mem_map.mpr ⟨none, h, rfl⟩, rfl⟩
theorem flat_oV (os : List (Option Int)) : (os.map oV).all flatV = true := List.all_eq_true.mpr fun y hy => by
  obtain ⟨o, _, rfl⟩ := List.mem_map.mp hy
  cases o <;> rfl
theorem spl_len (S : List Nat) : ∀ (l : List Nat) (k : Nat) (acc : List Nat), ∀ p ∈ spl S k acc l, p.length ≤ acc.length + l.length
  | [], k, acc, p, h => by
    rw [spl_nil] at h
    rw [List.mem_singleton.mp h]
    exact Nat.le_add_right _ _
  | c :: r, 0, acc, p, h => by
    by_cases e : pre S (c :: r) = true
    · rw [spl_hit e] at h
      rcases List.mem_cons.mp h with rfl | h
      · exact Nat.le_add_right _ _
      · have := spl_len S r _ _ p h
        simp only [List.length_nil, List.length_cons] at this ⊢
        omega
    · rw [spl_miss (by simpa using e)] at h
      have := spl_len S r _ _ p h
      simp only [List.length_append, List.length_cons, List.length_nil] at this ⊢
      omega
  | c :: r, k + 1, acc, p, h => by
    have := spl_len S r k acc p h
    simp only [List.length_cons]
    omega
theorem split_len {z y : Str} (hy : tl y ≠ []) (hk : y.cps.all (· < 256) = true) : ∀ p ∈ Txt.split z y, p.length ≤ z.length := fun p hp => by
  have h := split_spl z y hy (kind_ok hk)
  have hm : tl p ∈ spl (tl y) 0 [] (tl z) := by
    rw [← h]
    exact List.mem_map.mpr ⟨p, hp, rfl⟩
  have := spl_len _ _ _ _ _ hm
  rw [← len_tl, ← len_tl] at this
  simpa using this
theorem sc_thing_of : FnScope ["word", "sort", "found", "one"] ["word", "sort"] (defScope s_thing_of) := ⟨rfl, rfl, rfl, by decide +kernel, rfl, by decide +kernel, by decide +kernel⟩
def spThingOf (K : PySem.W.Frag) : Sp := fun vs H Q _ => ∃ (z s : Str), vs = [.str z, .str s] ∧ z.length ≤ 400000 ∧ ∀ (H' : Hp) (v : V), Fx [] H H' → Dp K H' v (thingV (thingO s z)) → Q v H'
theorem ok_thing_of {P : Program} {w : World} {K : PySem.W.Frag} {mg : Str → Option Value} {base : Heap} (T : Tx K mg) : Def P w K mg base CX0 2 "thing_of" ["word", "sort"] (spThingOf K) := by
  obtain ⟨fd, F⟩ := T.d_thing_of
  have G_number_of := ok_number_of (P := P) (w := w) (base := base) T
  refine ⟨_, fd, F.ok sc_thing_of (fun vs H Q E h => ?_) (fun cdv A outer s H vs Q E hr h => ?_), F.bindsN fun _ _ _ _ _ _ us hl => match us, hl with | [_, _], _ => rfl, T.g_thing_of, F.kp⟩
  · obtain ⟨z, s, rfl, _⟩ := h
    rfl
  · obtain ⟨z, so, rfl, hz, q⟩ := h
    refine ⟨_, PSs.nox (pss_cons (ps_if (pt_cmpR op_eq (pv 1) pe_str (nomark _))
        (pss_one (ps_ret (pe_def G_number_of (hr.mono (by omega)) pass0 (pa_cons (pv 0) pa_nil))))
        pss_nil)
        (pss_cons (ps_set (i := 2) sc_thing_of.nd rfl (by first | exact Or.inl rfl | exact Or.inr rfl) (pe_callTy call_tuple_of (by rfl) T.f_tuple (by decide +kernel) (pa_cons (pe_lc (own := [("one", 3)]) (g := (gName 3)) (tt := tYes) rfl sc_thing_of.nd (pi_list (pe_split (pv 0) pe_str)) (blkOk_by (own := [("one", 3)]) (N := ["word", "sort", "found", "one"]) (sc := defScope s_thing_of) (by decide +kernel)) (fun _ _ _ _ _ => pg_name (i := 3) sc_thing_of.nd rfl (by first | exact Or.inl rfl | exact Or.inr rfl)) (fun _ _ _ _ _ => pts_nil) (fun _ _ _ _ _ => (pe_def G_number_of (hr.mono (by omega)) pass0 (pa_cons (pv 3) pa_nil)))) pa_nil)))
        (pss_one (ps_ret (pe_ifExp (pt_cmpR op_in_seq pe_non (pv 2) (by rfl)) pe_non (pv 2)))))), ?_⟩
    refine rd_vS rfl ⟨_, rfl, ifB (fun c => ?_) (fun c => ?_)⟩
    · have e : thingO so z = (numOf z).map .n := by unfold thingO; rw [if_pos c]
      refine ⟨_, rfl, ⟨z, rfl, hz, fun H' f => q H' _ f ?_⟩⟩
      rw [e]
      cases numOf z with
      | none => exact .non
      | some n => exact .int n
    · have e : thingO so z = (allN ((Txt.split z comma).map numOf)).map .k := by unfold thingO; rw [if_neg (by rw [c]; decide)]
      have hcm : tl comma ≠ [] := by decide +kernel
      have hpl := split_len (z := z) hcm (by decide +kernel)
      refine ⟨_, rfl, ⟨_, rfl⟩, z, comma, rfl, rfl, by decide +kernel, Nat.le_trans (m := 500000) (by omega) (by decide), fun p hp => ?_⟩
      have hpn := PyProof.Rows.split_le z comma
      have f1 : Fx [] H (upd H p (.lst ((Txt.split z comma).map V.str))) := Fx.new hp
      have hps : upd H p (.lst ((Txt.split z comma).map V.str)) p = some (.lst ((Txt.split z comma).map V.str)) := upd_same
      generalize upd H p (.lst ((Txt.split z comma).map V.str)) = H1 at f1 hps
      generalize hos : Txt.split z comma = ps at hps hpl hpn e
      refine ⟨p, rfl, ⟨_, SqL.of hps⟩, fun D hD => lc_map (walk_list (xs := ps.map V.str)) (fun i => oV ((ps.map numOf).getD i none)) (by rw [List.length_map]; omega) hD (fun H2 f => SqL.of (f.to hps (fun z => nomatch z))) (fun _ _ _ _ y => YAt.fx y) (fun i x H2 H3 Qe Z hi f y k => ?_) (fun H2 f hL => ?_)⟩
      · obtain ⟨rfl, hxg⟩ := y
        rw [List.getElem?_map] at hxg
        obtain ⟨w, hw, rfl⟩ := Option.map_eq_some_iff.mp hxg
        have ew : (ps.map numOf).getD i none = numOf w := getD_of (by rw [List.getElem?_map, hw]; rfl)
        rw [ew] at k
        have := hpl w (List.mem_of_getElem? hw)
        exact ⟨rfl, ifT rfl ⟨_, rfl, ⟨w, rfl, by omega, fun H' f' => k _ f'⟩⟩⟩
      · have eL : (List.range (ps.map V.str).length).map (fun i => oV ((ps.map numOf).getD i none)) = (ps.map numOf).map oV := by
          rw [List.length_map]
          refine List.ext_getElem? fun j => ?_
          rw [List.getElem?_map, List.getElem?_map, List.getElem?_map]
          by_cases c : j < ps.length
          · rw [List.getElem?_range c, List.getElem?_eq_getElem c]
            have : (ps.map numOf).getD j none = numOf ps[j] := getD_of (by rw [List.getElem?_map, List.getElem?_eq_getElem c]; rfl)
            show some (oV ((ps.map numOf).getD j none)) = some (oV (numOf ps[j]))
            rw [this]
          · rw [List.getElem?_eq_none (by simp; omega), List.getElem?_eq_none (by omega)]
            rfl
        rw [eL] at hL
        refine ⟨D, _, rfl, .inl ⟨SqL.of hL, fun l hl => ?_⟩⟩
        have f2 := (f1.trans f).trans (Fx.new (M := []) (o := HO.tup ((ps.map numOf).map oV)) hl)
        have hl2 : SqT K (upd H2 l (.tup ((ps.map numOf).map oV))) l ((ps.map numOf).map oV) := SqT.of upd_same
        refine ⟨_, rfl, l, _, rfl, .inr hl2, rfl, flat_oV _, ?_⟩
        rw [if_neg (by decide), inV_none]
        refine ⟨_, rfl, ifB (fun c4 => ?_) (fun c4 => ?_)⟩
        · rw [Option.isNone_iff_eq_none] at c4
          rw [e, c4] at q
          exact q _ _ f2 .non
        · cases hA : allN (ps.map numOf) with
          | none => rw [hA] at c4; cases c4
          | some ns =>
            have em := allN_some hA
            rw [e, hA] at q
            refine ⟨_, rfl, q _ _ f2 (.tup hl2 ?_)⟩
            rw [em, List.map_map]
            exact Dp.ints ns
end Mh
/-! MhZipS -/
/-! zip(list, text): the list as it stands at each turn, the text's signs. -/
namespace Mh
open PySem PySem.Spec PyProof PyProof.Rows L2
def ItzX (K : PySem.W.Frag) (a : Addr) (x : Str) : It :=
  ⟨fun i H => ∃ (xs : List V) (v : V), SqL K H a xs ∧ xs[i]? = some v ∧ i < x.cps.size,
    fun i H v H' => ∃ T y c, v = .ref T ∧ H T = none ∧ H' = upd H T (.tup [y, .str ⟨#[c]⟩]) ∧ (∀ xs, SqL K H a xs → xs[i]? = some y) ∧ x.cps[i]? = some c,
    fun i H => ∃ xs : List V, SqL K H a xs ∧ i ≤ xs.length ∧ i ≤ x.cps.size ∧ (i = xs.length ∨ i = x.cps.size)⟩
def ZsA (z TI TO i1 i2 a : Addr) : Prop := ZipSep2 z TI TO i1 i2 [i1, a] [i2]
theorem zs_new (n a : Nat) (h : a < n) : ZsA (n + 4) (n + 2) (n + 3) n (n + 1) a := by
  unfold ZsA
  constructor <;> first
    | (simp; done)
    | (simp; omega)
    | (intro e; have e : (n : Nat) + _ = _ := e; omega)
    | (simp only [List.mem_cons, List.mem_nil_iff, or_false, not_or]; constructor <;> (intro e; have e : (_ : Nat) = _ := e; omega))
theorem turn_zipX {P : Program} {w : World} {K : PySem.W.Frag} {elts : List Expr} {kk : Nat} {tpos : Pos} {a z TI TO i1 i2 : Addr} {x : Str} {t : Tok} (D : ZsA z TI TO i1 i2 a) (hai : a ≠ i1) :
    Turn P w K (.Tuple elts kk tpos) (ItzX K a x) [z, TI, TO, i1, i2] z (fun i h => IsZip h z TI TO .none ∧ IsTupOf2 h TI (.ref i1) (.ref i2) ∧ (∃ x y, IsTupOf2 h TO x y) ∧ h.IsListIter i1 a i ∧ h.IsStrIter i2 (strIterType x) x t i) where
  mem := by simp
  obj := fun i h st c hc => by
    obtain ⟨hz, hTI, ⟨x, y, hTO⟩, ⟨o1, e1, _, d1⟩, ⟨o2, e2, _, d2⟩⟩ := st
    have e' : c = z ∨ c = TI ∨ c = TO ∨ c = i1 ∨ c = i2 := by simpa using hc
    rcases e' with q | q | q | q | q
    · rw [q]; exact ⟨_, hz, fun v q => nomatch q⟩
    · rw [q]; exact ⟨_, hTI, fun v q => nomatch q⟩
    · rw [q]; exact ⟨_, hTO, fun v q => nomatch q⟩
    · rw [q]; exact ⟨o1, e1, fun v q => by rw [d1] at q; cases q⟩
    · rw [q]; exact ⟨o2, e2, fun v q => by rw [d2] at q; cases q⟩
  keep := fun i h h' st k => by
    obtain ⟨hz, hTI, ⟨x, y, hTO⟩, h1, ⟨o2, e2, r2⟩⟩ := st
    exact ⟨k z (by simp) _ hz, k TI (by simp) _ hTI, ⟨x, y, k TO (by simp) _ hTO⟩, h1.at fun o q => k i1 (by simp) o q, ⟨o2, k i2 (by simp) o2 e2, r2⟩⟩
  item := by
    intro X hP hw hK hc i pins s σ H E I hf st hg
    subst hP hw hK
    obtain ⟨hz, hTI, ⟨x0, y0, hTO⟩, h1, h2⟩ := st
    obtain ⟨xs, v, hqx, hx, hlt2⟩ := hg
    obtain ⟨its, rv, p, _⟩ := I.list hqx
    obtain ⟨u, hu, ru⟩ := rv.get hx
    have hzl : z < s.heap.objs.size := Heap.lt_size hz
    have D1 := Draws.list (prog := X.prog) (w := X.w) (A := X.A.in1) (by first | exact I.ok.hd hc | simpa using I.ok.hd hc) i1 a hai its.toArray
    have D2 := Draws.text (prog := X.prog) (w := X.w) (A := X.A.in1) (by first | exact I.ok.hd hc | simpa using I.ok.hd hc) i2 x t
    have hlt : i < its.toArray.size := by
      obtain ⟨q, _⟩ := List.getElem?_eq_some_iff.mp hu
      simpa using q
    refine wpAny_pyNext_zipD2_item D D1 D2 hz hTI hTO ⟨h1, p.isList⟩ h2 hlt hlt2 fun u1 u2 h' tk g1 g2 z' TO' s1' s2' hT hsz hk => ?_
    obtain ⟨c, t2, hcx, rfl⟩ := g2
    have e1 : u1 = u := by
      have g1' : its.toArray[i]? = some u1 := g1
      rw [List.getElem?_toArray, hu] at g1'
      exact ((Option.some.inj g1').symm)
    subst e1
    refine ⟨_, rfl, wpAny_letOwnedTupleGo_zip (s := { s with heap := h', toks := tk }) z' fun h'' z'' sb => ?_⟩
    have hT2 : h''.get? s.heap.objs.size = some { cls := .type "tuple", data := .seq #[u1, .str ⟨#[c]⟩ t2] } := (sb.2 _ (Nat.ne_of_gt hzl)).trans hT
    have new : ObjOk X.prog X.w (upd H s.heap.objs.size (.tup [v, .str ⟨#[c]⟩])) h'' s.heap.objs.size (.tup [v, .str ⟨#[c]⟩]) :=
      ⟨by show 2 ≤ sizeLine; decide, [u1, .str ⟨#[c]⟩ t2], .cons ru (.cons ⟨t2, rfl⟩ .nil), ⟨_, hT2, rfl, _, rfl⟩⟩
    have I1 : Inv X pins σ (upd H s.heap.objs.size (.tup [v, .str ⟨#[c]⟩])) { s with heap := h'', toks := tk } :=
      I.turnedNew (t' := tk) (ch := [z, TI, TO, i1, i2]) (fun c o hb q => (sb.2 c (fun q' => hb (by simp [q']))).trans (hk c o (fun q' => hb (by simp [q'])) (fun q' => hb (by simp [q'])) (fun q' => hb (by simp [q'])) (fun q' => hb (by simp [q'])) q)) hf (Nat.le_refl _) new
    refine ⟨.ref s.heap.objs.size, _, I1, rfl, ⟨_, v, c, rfl, I.hok.fresh (Nat.le_refl _), rfl, fun l hl => by rw [I.list_inj hl hqx]; exact hx, hcx⟩, ⟨z'', ?_, ⟨u1, .str ⟨#[c]⟩ t2, ?_⟩, ?_, ?_⟩, fun c hcm => ?_⟩
    · exact (sb.2 _ D.TIz).trans (hk _ _ D.TIz D.TITO D.TIi1 D.TIi2 hTI)
    · exact (sb.2 _ D.TOz).trans TO'
    · exact s1'.1.at fun o q => (sb.2 _ D.zi1.symm).trans q
    · obtain ⟨o2, e2, r2⟩ := s2'
      exact ⟨o2, (sb.2 _ D.zi2.symm).trans e2, r2⟩
    · have hlt : c < s.heap.objs.size := by
        have e' : c = z ∨ c = TI ∨ c = TO ∨ c = i1 ∨ c = i2 := by simpa using hcm
        rcases e' with q | q | q | q | q
        · rw [q]; exact hzl
        · rw [q]; exact Heap.lt_size hTI
        · rw [q]; exact Heap.lt_size hTO
        · rw [q]; obtain ⟨_, e1, _⟩ := h1; exact Heap.lt_size e1
        · rw [q]; obtain ⟨_, e2, _⟩ := h2; exact Heap.lt_size e2
      rw [upd_ne (Nat.ne_of_lt hlt)]
      exact (hf c hcm).1
  done := by
    intro X hP hw hK hc i pins s σ H E I hf st hg
    subst hP hw hK
    obtain ⟨hz, hTI, ⟨x0, y0, hTO⟩, h1, h2⟩ := st
    obtain ⟨xs, hqx, l1, l2, he⟩ := hg
    obtain ⟨its, rv, p, _⟩ := I.list hqx
    have e1 := rv.length
    have D1 := Draws.list (prog := X.prog) (w := X.w) (A := X.A.in1) (by first | exact I.ok.hd hc | simpa using I.ok.hd hc) i1 a hai its.toArray
    have D2 := Draws.text (prog := X.prog) (w := X.w) (A := X.A.in1) (by first | exact I.ok.hd hc | simpa using I.ok.hd hc) i2 x t
    have sz : its.toArray.size = its.length := by simp
    exact wpAny_pyNext_zipD2_end D D1 D2 hz hTI hTO ⟨h1, p.isList⟩ h2 (by omega) l2 (he.imp (fun e => by omega) id) fun h' tk hk => ⟨rfl, I.turnedL (t' := tk) (ch := [z, TI, TO, i1, i2]) (fun c o hb q =>
      hk c o (fun q' => hb (by simp [q'])) (fun q' => hb (by simp [q'])) (fun q' => hb (by simp [q'])) (fun q' => hb (by simp [q'])) q) hf⟩
  self := fun A i s Q E st h => wpAny_pyIter_zip st.1 h
def iZipX (K : PySem.W.Frag) (ta : TA) : TI := fun σ H R => ta σ H fun vs H1 => ∃ a x xs, vs = [.ref a, .str x] ∧ SqL K H1 a xs ∧ R (ItzX K a x) H1
theorem pi_zipX {X : Cx} {e e2 : Expr} {ta : TA} {p pos tpos : Pos} {elts : List Expr} {kk : Nat} (hg : Gl X "zip") (hm : X.mg "zip" = none) (ha : PA X [e, e2] ta)
    (hs : starEach [e, e2] X.env = (false, eval e X.env) :: starEach [e2] X.env := by rfl) (hpl : (backTo pos (starEach [e2] X.env)).any (·.1) = false := by rfl) :
    PI X (.Tuple elts kk tpos) (.Call (.Name "zip" p) [e, e2] [] pos) (iZipX X.K ta) := by
  refine ⟨fun pins s σ H R I h => ?_⟩
  refine Call_ (ld_blt I hg hm PyProof.Rows.boot_zip (PyProof.Rows.callWith_type1 (thn (ha.run pos pins s σ H _ I h) fun us s1 ⟨vs, H1, I1, r1, q1⟩ => ?_) hs hpl))
  obtain ⟨a, x, xs, ex, hqx, q⟩ := q1
  subst ex
  cases r1 with
  | cons r rr =>
    cases rr with
    | cons r' rr =>
      cases rr
      cases r
      obtain ⟨t, rfl⟩ := r'
      obtain ⟨its, rv, p1, _⟩ := I1.list hqx
      have la : a < s1.heap.objs.size := p1.lt
      refine zip_begins2 (begins_list a its.toArray) (begins_text x t) p1.isList trivial fun h' hz hTI hTO h1 h2 hsz hk => wpAny_pyIter_zip hz ?_
      have I2 : Inv X pins σ H1 { s1 with heap := h' } := I1.kept (t' := s1.toks) hk
      refine ⟨s1.heap.objs.size + 4, [s1.heap.objs.size + 4, s1.heap.objs.size + 2, s1.heap.objs.size + 3, s1.heap.objs.size, s1.heap.objs.size + 1], _, _, H1, rfl, I2, turn_zipX (t := t) (zs_new s1.heap.objs.size a la) (Nat.ne_of_lt la), ⟨hz, hTI, ⟨_, _, hTO⟩, ⟨_, h1, rfl, rfl⟩, ⟨_, h2, rfl, rfl⟩⟩, fun c hcm => ?_, q⟩
      have e' : c = s1.heap.objs.size + 4 ∨ c = s1.heap.objs.size + 2 ∨ c = s1.heap.objs.size + 3 ∨ c = s1.heap.objs.size ∨ c = s1.heap.objs.size + 1 := by simpa using hcm
      have hle : s1.heap.objs.size ≤ c := by
        rcases e' with z | z | z | z | z
        · rw [z]; exact Nat.le_add_right _ _
        · rw [z]; exact Nat.le_add_right _ _
        · rw [z]; exact Nat.le_add_right _ _
        · rw [z]; exact Nat.le_refl _
        · rw [z]; exact Nat.le_add_right _ _
      exact I1.fpOk hle (I1.hok.fresh hle)
def YZx (xs : List V) (x : Str) (i : Nat) (H : Hp) (v : V) (H' : Hp) : Prop := ∃ T y c, v = .ref T ∧ H T = none ∧ H' = upd H T (.tup [y, .str ⟨#[c]⟩]) ∧ xs[i]? = some y ∧ x.cps[i]? = some c
theorem walk_zipX {K : PySem.W.Frag} {a : Addr} {x : Str} {xs : List V} {n : Nat} (hn : n = min xs.length x.cps.size) : Walk (ItzX K a x) n (fun H => SqL K H a xs) (YZx xs x) := by
  subst hn
  refine ⟨fun i _ hi q => ?_, fun _ q => ⟨xs, q, by omega, by omega, by omega⟩, fun i H v H' _ q y => ?_⟩
  · have h1 : i < xs.length := by omega
    exact ⟨xs, xs[i], q, by simp [h1], by omega⟩
  · obtain ⟨T, z, c, h1, h2, h3, h4, h5⟩ := y
    exact ⟨T, z, c, h1, h2, h3, h4 xs q, h5⟩
end Mh
/-! MhTabO -/
namespace Mh
open PySem PySem.Spec PyProof.Rows L2
/-! ### a dict of the written part at any text -/
theorem keyOf_str {e : DictEntry} {k : Str} {n : Int} (h : He.keyOf e = some (k, n)) : ∃ t, e.key = .str k t := by
  unfold He.keyOf at h
  split at h
  · rename_i x t q
    obtain ⟨h1, _⟩ := Prod.mk.inj (Option.some.inj h)
    exact ⟨t, by rw [q, h1]⟩
  · cases h
theorem keys_find {P : Params} {z : Str} : ∀ {l : List DictEntry} {ks : List Str}, l.map He.keyOf = He.keysIn P ks → z ∉ ks → l.find? (·.key.isStr z) = none ∧ l.any (·.refKey) = false
  | [], _, _, _ => ⟨rfl, rfl⟩
  | e :: r, [], h, _ => by cases h
  | e :: r, k :: ks, h, hz => by
    have h1 : He.keyOf e :: r.map He.keyOf = some (k, PyData.keyHash P k) :: He.keysIn P ks := h
    injection h1 with h2 h3
    obtain ⟨t, ht⟩ := keyOf_str h2
    obtain ⟨i1, i2⟩ := keys_find h3 fun m => hz (List.mem_cons_of_mem _ m)
    have n1 : e.key.isStr z = false := by
      rw [ht]
      cases q : (Value.str k t).isStr z with
      | false => rfl
      | true =>
        exfalso
        have q : (k == z) = true := q
        have := eq_of_beq q
        exact hz (this ▸ List.mem_cons_self)
    refine ⟨?_, ?_⟩
    · rw [List.find?_cons, n1]
      exact i1
    · rw [List.any_cons, i2]
      unfold DictEntry.refKey
      rw [ht]
      rfl
theorem nsIn_out {K : PySem.W.Frag} {P : Params} {d : Addr} {ks : List Str} {z : Str} (h : He.dicW K d = some (He.keysIn P ks)) (hz : z ∉ ks) : PySem.W.nsIn K d z = some none := by
  unfold He.dicW at h
  unfold PySem.W.nsIn
  split at h
  · rename_i c es n sl q
    rw [q]
    split at h
    · obtain ⟨i1, i2⟩ := keys_find (Option.some.inj h) hz
      simp only [i1, i2]
      rfl
    · cases h
  · cases h
theorem TabD.out {K : PySem.W.Frag} {w : World} (c : TabD K w) (i : Nat) {x z : Str} {ks : List Str} (h : tabsW[i]? = some (x, ks)) (hz : z ∉ ks) : PySem.W.nsIn K (He.ga K x) z = some none := by
  have e := c.t
  have e2 : (tabsW.map fun t => He.dicW K (He.ga K t.1))[i]? = (tabsW.map fun t => some (He.keysIn w.params t.2))[i]? := by rw [e]
  rw [List.getElem?_map, List.getElem?_map, h] at e2
  exact nsIn_out (Option.some.inj e2) hz
theorem TabD.outM {K : PySem.W.Frag} {w : World} (c : TabD K w) {x z : Str} {ks : List Str} (h : (x, ks) ∈ tabsW) (hz : z ∉ ks) : PySem.W.nsIn K (He.ga K x) z = some none := by
  obtain ⟨i, hi, e⟩ := List.getElem_of_mem h
  exact c.out i (by rw [List.getElem?_eq_getElem hi, e]) hz
end Mh
/-! MhLit -/
namespace L2
open PySem PySem.Spec PyProof.Rows Mh
theorem PE.weak {X : Cx} {e : Expr} {t t' : TE} (h : PE X e t) (w : ∀ σ H Q, t' σ H Q → t σ H Q) : PE X e t' := ⟨fun pins s σ H Q I q => h.run pins s σ H Q I (w σ H Q q)⟩
theorem PA.weak {X : Cx} {es : List Expr} {a a' : TA} (h : PA X es a) (w : ∀ σ H Q, a' σ H Q → a σ H Q) : PA X es a' := ⟨fun p pins s σ H Q I q => h.run p pins s σ H Q I (w σ H Q q)⟩
theorem DpAll.app {K : PySem.W.Frag} {H : Hp} : ∀ {vs us : List V} {ds es : List PyData}, DpAll K H vs ds → DpAll K H us es → DpAll K H (vs ++ us) (ds ++ es)
  | _, _, _, _, .nil, h => h
  | _, _, _, _, .cons r t, h => .cons r (DpAll.app t h)
end L2
namespace Mh
open PySem PySem.Spec PyProof.Rows L2
/-! ### written data, read at once -/
/-- v is d, whatever of the older things is changed -/
def DpF (K : PySem.W.Frag) (H0 H : Hp) (v : V) (d : PyData) : Prop := ∀ (M : List Addr) (H' : Hp), (∀ z ∈ M, H0 z ≠ none) → Fx M H H' → Dp K H' v d
def DpFA (K : PySem.W.Frag) (H0 H : Hp) (vs : List V) (ds : List PyData) : Prop := ∀ (M : List Addr) (H' : Hp), (∀ z ∈ M, H0 z ≠ none) → Fx M H H' → DpAll K H' vs ds
section
variable {K : PySem.W.Frag} {M : List Addr} {H H0 H1 H' : Hp} {v : V} {d : PyData} {vs : List V} {ds : List PyData}
theorem DpF.dp (h : DpF K H0 H v d) : Dp K H v d := h [] H (fun _ m => nomatch m) .refl
theorem DpFA.dp (h : DpFA K H0 H vs ds) : DpAll K H vs ds := h [] H (fun _ m => nomatch m) .refl
theorem Fx.app {M N : List Addr} (f : Fx M H H1) (g : Fx N H1 H') : Fx (M ++ N) H H' := (f.mono fun _ m => List.mem_append_left _ m).trans (g.mono fun _ m => List.mem_append_right _ m)
theorem DpF.mv (h : DpF K H0 H v d) (hM : ∀ z ∈ M, H0 z ≠ none) (f : Fx M H H') : DpF K H0 H' v d := fun N H2 hN g => h (M ++ N) H2 (fun z m => (List.mem_append.mp m).elim (hM z) (hN z)) (f.app g)
theorem DpFA.mv (h : DpFA K H0 H vs ds) (hM : ∀ z ∈ M, H0 z ≠ none) (f : Fx M H H') : DpFA K H0 H' vs ds := fun N H2 hN g => h (M ++ N) H2 (fun z m => (List.mem_append.mp m).elim (hM z) (hN z)) (f.app g)
theorem DpF.up (h : DpF K H0 H v d) (f : Fx [] H H') : DpF K H0 H' v d := h.mv (M := []) (fun _ m => nomatch m) f
theorem DpFA.up (h : DpFA K H0 H vs ds) (f : Fx [] H H') : DpFA K H0 H' vs ds := h.mv (M := []) (fun _ m => nomatch m) f
theorem DpF.since (h : DpF K H1 H v d) (f : Fx M H0 H1) : DpF K H0 H v d := fun N H2 hN g => h N H2 (fun z m e => hN z m (f.d z e)) g
theorem DpFA.since (h : DpFA K H1 H vs ds) (f : Fx M H0 H1) : DpFA K H0 H vs ds := fun N H2 hN g => h N H2 (fun z m e => hN z m (f.d z e)) g
theorem DpF.ofN (h : Dp K H v d) (n : nol d = true) : DpF K H0 H v d := fun _ _ _ g => h.mv g n
theorem DpFA.ofN (h : DpAll K H vs ds) (n : nolA ds = true) : DpFA K H0 H vs ds := fun _ _ _ g => h.mv g n
theorem DpFA.nil : DpFA K H0 H [] [] := fun _ _ _ _ => .nil
theorem DpFA.cons (a : DpF K H0 H v d) (b : DpFA K H0 H vs ds) : DpFA K H0 H (v :: vs) (d :: ds) := fun M H' hM g => .cons (a M H' hM g) (b M H' hM g)
theorem DpFA.app {us : List V} {es : List PyData} (a : DpFA K H0 H vs ds) (b : DpFA K H0 H us es) : DpFA K H0 H (vs ++ us) (ds ++ es) := fun M H' hM g => DpAll.app (a M H' hM g) (b M H' hM g)
theorem DpFA.len (a : DpFA K H0 H vs ds) : vs.length = ds.length := a.dp.len
theorem DpFA.at {i : Nat} (a : DpFA K H0 H vs ds) (e : ds[i]? = some d) : ∃ v, vs[i]? = some v ∧ DpF K H0 H v d := by
  obtain ⟨v, hv, _⟩ := a.dp.at e
  refine ⟨v, hv, fun M H' hM g => ?_⟩
  obtain ⟨d2, h2, h3⟩ := (a M H' hM g).get hv
  rw [e] at h2
  cases h2
  exact h3
theorem DpFA.get {i : Nat} (a : DpFA K H0 H vs ds) (e : vs[i]? = some v) : ∃ d, ds[i]? = some d ∧ DpF K H0 H v d := by
  obtain ⟨d, hd, _⟩ := a.dp.get e
  refine ⟨d, hd, fun M H' hM g => ?_⟩
  obtain ⟨d2, h2, h3⟩ := (a M H' hM g).get e
  rw [hd] at h2
  cases h2
  exact h3
theorem DpF.lst {p : Addr} (h0 : H0 p = none) (hp : H p = some (.lst vs)) (a : DpFA K H0 H vs ds) : DpF K H0 H (.ref p) (.list ds) := fun M H' hM g =>
  .lst (SqL.of (g.to hp fun m => hM p m h0)) (a M H' hM g)
theorem DpF.tup {p : Addr} (hp : SqT K H p vs) (a : DpFA K H0 H vs ds) : DpF K H0 H (.ref p) (.tuple ds) := fun M H' hM g => .tup (g.sqT hp) (a M H' hM g)
end
abbrev LF := L2.St → Hp → PyData → Prop
abbrev LFs := L2.St → Hp → List PyData → Prop
def tDat (K : PySem.W.Frag) (f : LF) : TE := fun σ H Q => ∃ d, f σ H d ∧ ∀ H' v, Fx [] H H' → DpF K H H' v d → Q v H'
def tDats (K : PySem.W.Frag) (f : LFs) : TA := fun σ H Q => ∃ ds, f σ H ds ∧ ∀ H' vs, Fx [] H H' → DpFA K H H' vs ds → Q vs H'
def tInt (f : L2.St → Int → Prop) : TE := fun σ H Q => ∃ n, f σ n ∧ Q (.int n) H
structure PD (X : Cx) (K : PySem.W.Frag) (e : Expr) (f : LF) : Prop where
  run : PE X e (tDat K f)
  mono : ∀ σ H H' d, Fx [] H H' → f σ H d → f σ H' d
structure PDs (X : Cx) (K : PySem.W.Frag) (es : List Expr) (f : LFs) : Prop where
  run : PA X es (tDats K f)
  mono : ∀ σ H H' d, Fx [] H H' → f σ H d → f σ H' d
  len : ∀ σ H ds, f σ H ds → ds.length = es.length
section
variable {X : Cx} {K : PySem.W.Frag} {e e1 e2 : Expr} {es : List Expr} {t t' : TE} {f : LF} {fs : LFs} {j : Option Str} {pos : Pos} {fi fj : L2.St → Int → Prop}
theorem pd_c {v : V} {d : PyData} (h : PE X e (tC v)) (hd : ∀ H, Dp K H v d) (n : nol d = true) : PD X K e (fun _ _ x => x = d) :=
  ⟨h.weak fun σ H Q ⟨x, ex, q⟩ => by subst ex; exact q H v .refl (.ofN (hd H) n), fun _ _ _ _ _ h => h⟩
theorem pdi_c {i : Int} (h : PE X e (tC (.int i))) : PE X e (tInt fun _ n => n = i) := h.weak fun σ H Q ⟨n, en, q⟩ => by subst en; exact q
theorem pdi_var {i : Nat} (h : PE X e (tVar i)) : PE X e (tInt fun σ n => σ[i]? = some (some (.int n))) := h.weak fun σ H Q ⟨n, en, q⟩ => ⟨_, en, q⟩
theorem pdi_neg (ha : PE X e1 (tInt fi)) : PE X (.UnaryOp .USub e1 pos) (tInt fun σ n => ∃ x, n = -x ∧ fi σ x) := (pe_un un_neg ha).weak fun σ H Q ⟨n, ⟨x, en, hx⟩, q⟩ => by subst en; exact ⟨x, hx, x, rfl, q⟩
theorem pdi_add (ha : PE X e1 (tInt fi)) (hb : PE X e2 (tInt fj)) : PE X (.BinOp e1 .Add e2 pos) (tInt fun σ n => ∃ x y, n = x + y ∧ fi σ x ∧ fj σ y) := (pe_op op_add ha hb).weak fun σ H Q ⟨n, ⟨x, y, en, hx, hy⟩, q⟩ => by subst en; exact ⟨x, hx, y, hy, x, y, rfl, rfl, q⟩
theorem pdi_sub (ha : PE X e1 (tInt fi)) (hb : PE X e2 (tInt fj)) : PE X (.BinOp e1 .Sub e2 pos) (tInt fun σ n => ∃ x y, n = x - y ∧ fi σ x ∧ fj σ y) := (pe_op op_sub ha hb).weak fun σ H Q ⟨n, ⟨x, y, en, hx, hy⟩, q⟩ => by subst en; exact ⟨x, hx, y, hy, x, y, rfl, rfl, q⟩
theorem pd_ofi (h : PE X e (tInt fi)) : PD X K e (fun σ _ d => ∃ n, d = .int n ∧ fi σ n) :=
  ⟨h.weak fun σ H Q ⟨d, ⟨n, ed, hn⟩, q⟩ => by subst ed; exact ⟨n, hn, q H _ .refl (.ofN (.int n) rfl)⟩, fun _ _ _ _ _ h => h⟩
theorem pd_var {i : Nat} (h : PE X e (tVar i)) : PD X K e (fun σ H d => ∃ v, σ[i]? = some (some v) ∧ Dp K H v d ∧ nol d = true) :=
  ⟨h.weak fun σ H Q ⟨d, ⟨v, ev, hd, n⟩, q⟩ => ⟨v, ev, q H v .refl (.ofN hd n)⟩, fun _ _ _ _ f ⟨v, ev, hd, n⟩ => ⟨v, ev, hd.mv f n, n⟩⟩
theorem pds_nil : PDs X K [] (fun _ _ ds => ds = []) :=
  ⟨pa_nil.weak fun σ H Q ⟨ds, ed, q⟩ => by subst ed; exact q H [] .refl .nil, fun _ _ _ _ _ h => h, fun _ _ _ h => by subst h; rfl⟩
theorem pds_cons (h : PD X K e f) (hr : PDs X K es fs) (hs : starEach (e :: es) X.env = (false, eval e X.env) :: starEach es X.env := by rfl) : PDs X K (e :: es) (fun σ H ds => ∃ d dr, ds = d :: dr ∧ f σ H d ∧ fs σ H dr) :=
  ⟨(pa_cons h.run hr.run hs).weak fun σ H Q ⟨ds, ⟨d, dr, ed, h1, h2⟩, q⟩ => by
      subst ed
      exact ⟨d, h1, fun H1 v f1 k1 => ⟨dr, hr.mono _ _ _ _ f1 h2, fun H2 vs f2 k2 => q H2 (v :: vs) (f1.trans f2) (.cons (k1.up f2) (k2.since f1))⟩⟩,
    fun σ H H' ds g ⟨d, dr, ed, h1, h2⟩ => ⟨d, dr, ed, h.mono _ _ _ _ g h1, hr.mono _ _ _ _ g h2⟩, fun σ H ds ⟨d, dr, ed, _, h2⟩ => by rw [ed, List.length_cons, List.length_cons, hr.len _ _ _ h2]⟩
theorem pd_tup {x1} (h : PDs X K es fs) (hl : es.length ≤ 1000 := by decide) : PD X K (.Tuple es x1 pos) (fun σ H d => ∃ ds, d = .tuple ds ∧ fs σ H ds) :=
  ⟨(pe_tup h.run).weak fun σ H Q ⟨d, ⟨ds, ed, h1⟩, q⟩ => by
      subst ed
      refine ⟨ds, h1, fun H1 vs f1 k1 => ⟨by rw [k1.len, h.len _ _ _ h1]; exact Nat.le_trans hl (by decide), fun p hp => ?_⟩⟩
      have f2 : Fx [] H1 (upd H1 p (.tup vs)) := Fx.new hp
      exact q _ _ (f1.trans f2) (.tup (SqT.of upd_same) (k1.up f2)),
    fun σ H H' d g ⟨ds, ed, h1⟩ => ⟨ds, ed, h.mono _ _ _ _ g h1⟩⟩
theorem pd_lst (h : PDs X K es fs) (hl : es.length ≤ 1000 := by decide) : PD X K (.List es pos) (fun σ H d => ∃ ds, d = .list ds ∧ fs σ H ds) :=
  ⟨(pe_lst h.run).weak fun σ H Q ⟨d, ⟨ds, ed, h1⟩, q⟩ => by
      subst ed
      refine ⟨ds, h1, fun H1 vs f1 k1 => ⟨by rw [k1.len, h.len _ _ _ h1]; exact Nat.le_trans hl (by decide), fun p hp => ?_⟩⟩
      have f2 : Fx [] H1 (upd H1 p (.lst vs)) := Fx.new hp
      exact q _ _ (f1.trans f2) (.lst (f1.d p hp) upd_same (k1.up f2)),
    fun σ H H' d g ⟨ds, ed, h1⟩ => ⟨ds, ed, h.mono _ _ _ _ g h1⟩⟩
/-- a written list, its items told -/
def tLit (K : PySem.W.Frag) (fs : LFs) : TE := fun σ H Q => ∃ ds, fs σ H ds ∧ ∀ H' vs p, Fx [] H H' → H p = none → H' p = some (.lst vs) → DpFA K H H' vs ds → Q (.ref p) H'
theorem pe_lit (h : PDs X K es fs) (hl : es.length ≤ 1000 := by decide) : PE X (.List es pos) (tLit K fs) :=
  (pe_lst h.run).weak fun σ H Q ⟨ds, h1, q⟩ => by
      refine ⟨ds, h1, fun H1 vs f1 k1 => ⟨by rw [k1.len, h.len _ _ _ h1]; exact Nat.le_trans hl (by decide), fun p hp => ?_⟩⟩
      have f2 : Fx [] H1 (upd H1 p (.lst vs)) := Fx.new hp
      exact q _ vs p (f1.trans f2) (f1.d p hp) upd_same (k1.up f2)
end
end Mh
/-! MhTupA -/
namespace Mh
open PySem PySem.Spec PyProof.Rows L2
/-! ### tuples joined and cut, empty ones and whole ones too -/
theorem kop_catAny {X : Cx} {K : PySem.W.Frag} (h : X.K = K) : OpR X (binaryOp .Add) (rCatA K) := by rw [← h]; exact op_catA
theorem ksl_tupAny {X : Cx} {K : PySem.W.Frag} (h : X.K = K) : SlR X (rSlA K) := by rw [← h]; exact sl_tupA
section
variable {K : PySem.W.Frag} {H : Hp} {Q : VK} {a b : Addr} {xs ys : List V}
theorem rd_catA (ha : SqT K H a xs) (hb : SqT K H b ys) (hl : xs.length + ys.length ≤ sizeLine) (q : ∀ p H', Fx [] H H' → SqT K H' p (xs ++ ys) → Q (.ref p) H') : rCatA K (.ref a) (.ref b) H Q := by
  refine ⟨a, b, xs, ys, rfl, rfl, ha, hb, hl, fun e => q b H .refl (by rw [e]; exact hb), fun _ e => q a H .refl (by rw [e, List.append_nil]; exact ha), fun _ _ p hp => ?_⟩
  exact q p _ (Fx.new hp) (SqT.of upd_same)
theorem cutV_take {n : Nat} : cutV xs none (some (n : Int)) = xs.take n := by
  unfold cutV
  rw [HT.sIx_none, HT.sIx_nat, List.drop_zero, Nat.sub_zero]
  rcases Nat.le_total n xs.length with h | h
  · rw [Nat.min_eq_left h]
  · rw [Nat.min_eq_right h, List.take_length, List.take_of_length_le h]
theorem cutV_drop {n : Nat} (hn : n ≤ xs.length) : cutV xs (some (n : Int)) none = xs.drop n := by
  unfold cutV
  rw [HT.sIx_none, HT.sIx_nat, Nat.min_eq_left hn]
  exact List.take_of_length_le (by rw [List.length_drop]; omega)
theorem rd_takeN {n : Nat} (ha : SqT K H a xs) (q : ∀ p H', Fx [] H H' → SqT K H' p (xs.take n) → Q (.ref p) H') : rSlA K (.ref a) none (some (n : Int)) H Q := by
  refine ⟨a, xs, rfl, ha, fun e => ?_, fun _ p hp => ?_⟩
  · have : xs.length ≤ n := by
      have e2 := e.2
      rw [HT.sIx_nat] at e2
      omega
    exact q a H .refl (by rw [List.take_of_length_le this]; exact ha)
  · rw [cutV_take]
    exact q p _ (Fx.new hp) (SqT.of upd_same)
theorem rd_takeA {n : Nat} (ha : SqT K H a xs) (_hn : n ≤ xs.length) (q : ∀ p H', Fx [] H H' → SqT K H' p (xs.take n) → Q (.ref p) H') : rSlA K (.ref a) none (some (n : Int)) H Q := rd_takeN ha q
theorem rd_dropA {n : Nat} (ha : SqT K H a xs) (hn : n ≤ xs.length) (q : ∀ p H', Fx [] H H' → SqT K H' p (xs.drop n) → Q (.ref p) H') : rSlA K (.ref a) (some (n : Int)) none H Q := by
  refine ⟨a, xs, rfl, ha, fun e => ?_, fun _ p hp => ?_⟩
  · have : n = 0 := by
      have e2 := e.1
      rw [HT.sIx_nat, Nat.min_eq_left hn] at e2
      exact e2
    exact q a H .refl (by rw [this, List.drop_zero]; exact ha)
  · rw [cutV_drop hn]
    exact q p _ (Fx.new hp) (SqT.of upd_same)
theorem DpAll.takeN : ∀ {vs : List V} {ds : List PyData} (n : Nat), DpAll K H vs ds → DpAll K H (vs.take n) (ds.take n)
  | _, _, n, .nil => by rw [List.take_nil, List.take_nil]; exact .nil
  | _, _, 0, .cons r t => .nil
  | _, _, n + 1, .cons r t => .cons r (DpAll.takeN n t)
theorem DpAll.dropN : ∀ {vs : List V} {ds : List PyData} (n : Nat), DpAll K H vs ds → DpAll K H (vs.drop n) (ds.drop n)
  | _, _, n, .nil => by rw [List.drop_nil, List.drop_nil]; exact .nil
  | _, _, 0, .cons r t => .cons r t
  | _, _, n + 1, .cons r t => DpAll.dropN n t
end
theorem Fx.only {M N : List Addr} {H H' : Hp} (f : Fx M H H') (h : ∀ z ∈ M, H z = none ∨ z ∈ N) : Fx N H H' :=
  ⟨fun a o e n => f.k a o e fun m => (h a m).elim (fun z => by rw [e] at z; cases z) n, f.t, f.z, f.d⟩
theorem rg_all {K : PySem.W.Frag} {H : Hp} (a : Int) : ∀ l : List Nat, DpAll K H (l.map fun i => V.int (a + (i : Nat))) (l.map fun (i : Nat) => PyData.int (a + (i : Int)))
  | [] => .nil
  | _ :: l => .cons (.int _) (rg_all a l)
theorem rg_nol (a : Int) : ∀ l : List Nat, nolA (l.map fun (i : Nat) => PyData.int (a + (i : Int))) = true
  | [] => rfl
  | _ :: l => rg_nol a l
theorem DpF.but {K : PySem.W.Frag} {H0 H H' : Hp} {v : V} {d : PyData} {M : List Addr} (k : DpF K H0 H v d) (f : Fx M H H') (h : ∀ z ∈ M, H0 z ≠ none ∨ H z = none) : Dp K H' v d := by
  refine k (M.filter fun z => (H0 z).isSome) H' (fun z m e => ?_) (f.only fun z m => ?_)
  · have := (List.mem_filter.mp m).2
    rw [e] at this
    cases this
  · rcases h z m with q | q
    · refine .inr (List.mem_filter.mpr ⟨m, ?_⟩)
      cases e : H0 z with
      | none => exact absurd e q
      | some o => rfl
    · exact .inl q
theorem DpAll.rep {K : PySem.W.Frag} {H : Hp} {vs : List V} {ds : List PyData} (h : DpAll K H vs ds) : ∀ n : Nat, DpAll K H (List.replicate n vs).flatten (List.replicate n ds).flatten
  | 0 => .nil
  | n + 1 => by
    rw [List.replicate_succ, List.replicate_succ, List.flatten_cons, List.flatten_cons]
    exact DpAll.app h (DpAll.rep h n)
theorem nolA_of : ∀ {ds : List PyData}, (∀ d ∈ ds, nol d = true) → nolA ds = true
  | [], _ => rfl
  | d :: ds, h => by
    show (nol d && nolA ds) = true
    rw [h d List.mem_cons_self, nolA_of fun z m => h z (List.mem_cons_of_mem _ m)]
    rfl
/-- the suite of an if of two tests, walked once -/
theorem ifOr_J {ta tb : TT} {A B : TS} {D : Ends} {σ : L2.St} {H : Hp} (J : Hp → Prop) (hA : ∀ H', J H' → A D σ H') (h : (∀ H', J H' → A D σ H') → tIfS (tOr ta tb) A B D σ H) : tIfS (tOr ta tb) A B D σ H := h hA
/-- tuple(range(a, b)), its bounds known -/
theorem pd_tupRg {X : Cx} {K : PySem.W.Frag} {e : Expr} {te : L2.St → Hp → (Int → Int → Hp → Prop) → Prop} (a b : Int) (h : PE X e (tTupRg te)) (hte : ∀ σ H k, k a b H → te σ H k) (ho : RgOk a b) :
    PD X K e (fun _ _ d => d = .tuple ((List.range (b - a).toNat).map fun (i : Nat) => PyData.int (a + (i : Int)))) := by
  refine ⟨h.weak fun σ H Q ⟨d, ed, q⟩ => ?_, fun _ _ _ _ _ h => h⟩
  subst ed
  refine hte σ H _ ⟨ho, fun p hp => ?_⟩
  have f : Fx [] H (upd H p (.tup (rgV a b))) := Fx.new hp
  refine q _ _ f (DpF.tup (SqT.of upd_same) ?_)
  exact DpFA.ofN (rg_all a _) (rg_nol a _)
/-- list(t), t a tuple by name -/
theorem pd_listOf {X : Cx} {K : PySem.W.Frag} {e : Expr} {i : Nat} (h : PE X e (tCB (fun xs H Q => ∃ p ys, xs = [V.ref p] ∧ (SqL X.K H p ys ∨ SqT X.K H p ys) ∧ ∀ l, H l = none → Q (.ref l) (upd H l (.lst ys))) (tCons (tVar i) tNil))) (hK : X.K = K := by rfl) :
    PD X K e (fun σ H d => ∃ v ds, d = .list ds ∧ σ[i]? = some (some v) ∧ Dp K H v (.tuple ds) ∧ nolA ds = true) := by
  refine ⟨h.weak fun σ H Q ⟨d, ⟨v, ds, ed, ev, hd, n⟩, q⟩ => ?_, fun σ H H' d f ⟨v, ds, ed, ev, hd, n⟩ => ⟨v, ds, ed, ev, hd.mv f n, n⟩⟩
  subst ed
  subst hK
  obtain ⟨a, xs, rfl, hs, hx⟩ := hd.tupI
  refine ⟨_, ev, a, xs, rfl, .inr hs, fun l hl => ?_⟩
  have f : Fx [] H (upd H l (.lst xs)) := Fx.new hl
  exact q _ _ f (DpF.lst hl upd_same (DpFA.ofN (hx.ext f) n))
end Mh
/-! MhPartP -/
namespace Mh
open PySem PySem.Spec PyProof.Rows L2 TL
theorem un65 {k : Nat} {A : Around} (r : Room k A) : A.units + 65 < cLine := by
  have := r.un
  omega
/-! ### what words begin with -/
def formsT : List (Str × Str) := [("any", ""), ("below", "n"), ("rest", "nn"), ("chance", "nn"), ("known", "k")]
def formsA : List (Str × Str) := [("num", "n"), ("plus", "n"), ("times", "n"), ("rest", "n"), ("none", "")]
def formOf (b : Bool) (z : Str) : Option Str := (if b then formsT else formsA).lookup z
def signs (f : Str) : List Str := f.cps.toList.map fun c => ⟨#[c]⟩
def allT : List (Option Thing) → Option (List Thing)
  | [] => some []
  | some n :: r => (allT r).map (n :: ·)
  | none :: _ => none
def partO (b : Bool) : List Str → Option (Part × List Str)
  | [] => none
  | w :: r => match formOf b w with
    | none => none
    | some f => if r.length + 1 ≤ f.length then none else (allT ((r.zip (signs f)).map fun q => thingO q.2 q.1)).map fun ts => (⟨w, ts⟩, r.drop f.length)
theorem partO_cons (b : Bool) (w : Str) (r : List Str) : partO b (w :: r) = match formOf b w with
    | none => none
    | some f => if r.length + 1 ≤ f.length then none else (allT ((r.zip (signs f)).map fun q => thingO q.2 q.1)).map fun ts => (⟨w, ts⟩, r.drop f.length) := rfl
theorem allT_some : ∀ {os : List (Option Thing)} {ns : List Thing}, allT os = some ns → os = ns.map some
  | [], ns, h => by
    cases h
    rfl
  | some n :: r, ns, h => by
    have h2 : (allT r).map (n :: ·) = some ns := h
    obtain ⟨ms, e1, rfl⟩ := Option.map_eq_some_iff.mp h2
    rw [allT_some e1]
    rfl
  | none :: r, ns, h => nomatch h
theorem allT_none : ∀ {os : List (Option Thing)}, allT os = none ↔ none ∈ os
  | [] => by simp [allT]
  | some n :: r => by
    show (allT r).map (n :: ·) = none ↔ _
    rw [Option.map_eq_none_iff, allT_none]
    simp
  | none :: r => by simp [allT]
theorem thing_non (o : Option Thing) : PyData.eqv (thingV o) .none = o.isNone := by
  cases o with
  | none => rfl
  | some t => cases t <;> rfl
theorem things_non (os : List (Option Thing)) : ((os.map thingV).any fun z => PyData.eqv z .none) = (allT os).isNone := by
  rw [Bool.eq_iff_iff, Option.isNone_iff_eq_none, allT_none, List.any_eq_true]
  constructor
  · rintro ⟨y, hy, e⟩
    obtain ⟨o, ho, rfl⟩ := List.mem_map.mp hy
    rw [thing_non, Option.isNone_iff_eq_none] at e
    rw [← e]
    exact ho
  · intro h
    exact ⟨_, List.mem_map.mpr ⟨none, h, rfl⟩, rfl⟩
theorem thingV_small (o : Option Thing) : (thingV o).canLay0 = true ∧ (thingV o).depth ≤ 3 := by
  cases o with
  | none => exact ⟨rfl, by decide⟩
  | some t =>
    cases t with
    | n i => exact ⟨rfl, by show PyData.depth (.int i) ≤ 3; simp [PyData.depth]⟩
    | k ns =>
      have h : ∀ ns : List Int, PyData.canLayAll0 (ns.map .int) = true ∧ PyData.depthAll (ns.map .int) ≤ 1 := by
        intro ns
        induction ns with
        | nil => exact ⟨by simp [PyData.canLayAll0], by simp [PyData.depthAll]⟩
        | cons n ns ih => exact ⟨by simp [PyData.canLayAll0, PyData.canLay0, ih.1], by simp [PyData.depthAll, PyData.depth, ih.2]⟩
      obtain ⟨h1, h2⟩ := h ns
      refine ⟨by show PyData.canLay0 (.tuple (ns.map .int)) = true; simp only [PyData.canLay0]; exact h1, ?_⟩
      show PyData.depth (.tuple (ns.map .int)) ≤ 3
      simp only [PyData.depth]
      omega
theorem things_shaped (os : List (Option Thing)) : SeqAt.shaped (.list (os.map thingV)) = true := by
  have h : PyData.canLayAll0 (os.map thingV) = true ∧ PyData.depthAll (os.map thingV) ≤ 3 := by
    induction os with
    | nil => exact ⟨by simp [PyData.canLayAll0], by simp [PyData.depthAll]⟩
    | cons o os ih =>
      obtain ⟨h1, h2⟩ := thingV_small o
      exact ⟨by simp [PyData.canLayAll0, h1, ih.1], by simp only [List.map_cons, PyData.depthAll]; have := ih.2; omega⟩
  show (PyData.canLay0 (.list (os.map thingV)) && decide (PyData.depth (.list (os.map thingV)) ≤ 64)) = true
  rw [Bool.and_eq_true_iff]
  refine ⟨by simp only [PyData.canLay0]; exact h.1, decide_eq_true ?_⟩
  simp only [PyData.depth]
  have := h.2
  omega
theorem dpStrs {K : PySem.W.Frag} {H : Hp} : ∀ l : List Str, DpAll K H (l.map V.str) (l.map .str)
  | [] => .nil
  | n :: l => .cons (.str n) (dpStrs l)
theorem strs_shaped {ws : List Str} (h : ∀ w ∈ ws, PyData.strOk w = true) : SeqAt.shaped (.list (ws.map .str)) = true := by
  have h : PyData.canLayAll0 (ws.map .str) = true ∧ PyData.depthAll (ws.map .str) ≤ 1 := by
    induction ws with
    | nil => exact ⟨by simp [PyData.canLayAll0], by simp [PyData.depthAll]⟩
    | cons w ws ih =>
      obtain ⟨i1, i2⟩ := ih fun w m => h w (List.mem_cons_of_mem _ m)
      have h0 := h w List.mem_cons_self
      exact ⟨by simp [PyData.canLayAll0, PyData.canLay0, h0, i1], by simp [PyData.depthAll, PyData.depth, i2]⟩
  show (PyData.canLay0 (.list (ws.map .str)) && decide (PyData.depth (.list (ws.map .str)) ≤ 64)) = true
  rw [Bool.and_eq_true_iff]
  refine ⟨by simp only [PyData.canLay0]; exact h.1, decide_eq_true ?_⟩
  simp only [PyData.depth]
  have := h.2
  omega
def FormK (K : PySem.W.Frag) (b : Bool) (z : Str) : Prop := ∃ r, PySem.W.nsIn K (He.ga K (if b then "TESTS" else "ANSWERS")) z = some r ∧ (∀ u, r = some u → ∃ f, formOf b z = some f ∧ RelV (.str f) u) ∧ (r = none → formOf b z = none)
theorem form_kd {K : PySem.W.Frag} {w : World} (TD : TabD K w) (b : Bool) (z : Str) : FormK K b z := by
  have st : ∀ {b : Bool} {z f : Str}, (∃ u, PySem.W.nsIn K (He.ga K (if b then "TESTS" else "ANSWERS")) z = some (some u) ∧ RelV (.str f) u) → formOf b z = some f → FormK K b z := fun ⟨u, h1, h2⟩ e => ⟨some u, h1, fun u' e' => by cases e'; exact ⟨_, e, h2⟩, fun e' => nomatch e'⟩
  cases b with
  | true =>
    by_cases h : z ∈ (["any", "below", "rest", "chance", "known"] : List Str)
    · simp only [List.mem_cons, List.mem_nil_iff, or_false] at h
      rcases h with rfl | rfl | rfl | rfl | rfl
      · exact st TD.v_TESTS_any (by decide +kernel)
      · exact st TD.v_TESTS_below (by decide +kernel)
      · exact st TD.v_TESTS_rest (by decide +kernel)
      · exact st TD.v_TESTS_chance (by decide +kernel)
      · exact st TD.v_TESTS_known (by decide +kernel)
    · refine ⟨none, TD.outM (x := "TESTS") (ks := ["any", "below", "rest", "chance", "known"]) (by decide +kernel) h, (fun u e => nomatch e), fun _ => ?_⟩
      simp only [List.mem_cons, List.mem_nil_iff, or_false, not_or] at h
      obtain ⟨h1, h2, h3, h4, h5⟩ := h
      show List.lookup z formsT = none
      unfold formsT
      simp only [List.lookup, beq_eq_false_iff_ne.mpr h1, beq_eq_false_iff_ne.mpr h2, beq_eq_false_iff_ne.mpr h3, beq_eq_false_iff_ne.mpr h4, beq_eq_false_iff_ne.mpr h5]
  | false =>
    by_cases h : z ∈ (["num", "plus", "times", "rest", "none"] : List Str)
    · simp only [List.mem_cons, List.mem_nil_iff, or_false] at h
      rcases h with rfl | rfl | rfl | rfl | rfl
      · exact st TD.v_ANSWERS_num (by decide +kernel)
      · exact st TD.v_ANSWERS_plus (by decide +kernel)
      · exact st TD.v_ANSWERS_times (by decide +kernel)
      · exact st TD.v_ANSWERS_rest (by decide +kernel)
      · exact st TD.v_ANSWERS_none (by decide +kernel)
    · refine ⟨none, TD.outM (x := "ANSWERS") (ks := ["num", "plus", "times", "rest", "none"]) (by decide +kernel) h, (fun u e => nomatch e), fun _ => ?_⟩
      simp only [List.mem_cons, List.mem_nil_iff, or_false, not_or] at h
      obtain ⟨h1, h2, h3, h4, h5⟩ := h
      show List.lookup z formsA = none
      unfold formsA
      simp only [List.lookup, beq_eq_false_iff_ne.mpr h1, beq_eq_false_iff_ne.mpr h2, beq_eq_false_iff_ne.mpr h3, beq_eq_false_iff_ne.mpr h4, beq_eq_false_iff_ne.mpr h5]
theorem form_len {b : Bool} {z f : Str} (h : formOf b z = some f) : f.length ≤ 2 := by
  have key : ∀ (l : List (Str × Str)), (∀ p ∈ l, p.2.length ≤ 2) → l.lookup z = some f → f.length ≤ 2 := by
    intro l
    induction l with
    | nil => intro _ e; cases e
    | cons p l ih =>
      intro hl e
      obtain ⟨k, v⟩ := p
      rw [List.lookup_cons] at e
      split at e
      · cases e
        exact hl (k, f) List.mem_cons_self
      · exact ih (fun p m => hl p (List.mem_cons_of_mem _ m)) e
  cases b with
  | true => exact key formsT (by decide +kernel) h
  | false => exact key formsA (by decide +kernel) h
end Mh
/-! MhPartOf -/
namespace Mh
open PySem PySem.Spec PyProof.Rows L2 TL
def formV : Option Str → V
  | none => .non
  | some f => .str f
def PartV (K : PySem.W.Frag) (H : Hp) (v : V) : Option (Part × List Str) → Prop
  | none => v = .non
  | some (p, r) => ∃ T pv l, v = .ref T ∧ H T = some (.tup [pv, .ref l]) ∧ Dp K H pv p.d ∧ H l = some (.lst (r.map V.str))
theorem thingV_nol (o : Option Thing) : nol (thingV o) = true := by
  cases o with
  | none => rfl
  | some t =>
    cases t with
    | n i => rfl
    | k ns => exact nol_ints ns
theorem sc_part_of : FnScope ["words", "is_test", "word", "form", "things", "sort"] ["words", "is_test"] (defScope s_part_of) := ⟨rfl, rfl, rfl, by decide +kernel, rfl, by decide +kernel, by decide +kernel⟩
def spPartOf (K : PySem.W.Frag) : Sp := fun vs H Q _ => ∃ (a : Addr) (ws : List Str) (b : Bool), vs = [.ref a, .bl b] ∧ H a = some (.lst (ws.map V.str)) ∧ ws.length ≤ 400002 ∧ (∀ w ∈ ws, w.length ≤ 400000 ∧ PyData.strOk w = true) ∧ ∀ (H' : Hp) (v : V), Fx [] H H' → PartV K H' v (partO b ws) → Q v H'
theorem ok_part_of {P : Program} {w : World} {K : PySem.W.Frag} {mg : Str → Option Value} {base : Heap} (T : Tx K mg) (TD : TabD K w) : Def P w K mg base CX0 3 "part_of" ["words", "is_test"] (spPartOf K) := by
  obtain ⟨fd, F⟩ := T.d_part_of
  have G_thing_of := ok_thing_of (P := P) (w := w) (base := base) T
  refine ⟨_, fd, F.ok sc_part_of (fun vs H Q E h => ?_) (fun cdv A outer s H vs Q E hr h => ?_), F.bindsN fun _ _ _ _ _ _ us hl => match us, hl with | [_, _], _ => rfl, T.g_part_of, F.kp⟩
  · obtain ⟨a, ws, b, rfl, _⟩ := h
    rfl
  · obtain ⟨a, ws, b, rfl, ha, hlen, hws, q⟩ := h
    obtain ⟨es_TESTS, n_TESTS, D_TESTS⟩ := TD.d_TESTS
    obtain ⟨es_ANSWERS, n_ANSWERS, D_ANSWERS⟩ := TD.d_ANSWERS
    refine ⟨_, PSs.nox (Evl.pss_cut (ps_set (i := 2) sc_part_of.nd rfl (by first | exact Or.inl rfl | exact Or.inr rfl) (pe_ifExp (pt_cmpR (op_neD hr.units) (pv 0) (pe_lst pa_nil) (nomark _)) (pe_ix ix_list (pv 0) pe_int (fun _ _ => rfl)) pe_str))
        (Evl.pss_cut (ps_set (i := 3) sc_part_of.nd rfl (by first | exact Or.inl rfl | exact Or.inr rfl) (pe_ifExp (pt_val (pv 1)) (kpe_kdget2 (K := K) rfl rfl D_TESTS (pe_glob (v := V.ref (He.ga K "TESTS")) (by rfl) T.g_TESTS rfl) (pv 2) pe_non ⟨rfl, rfl, rfl, rfl⟩) (kpe_kdget2 (K := K) rfl rfl D_ANSWERS (pe_glob (v := V.ref (He.ga K "ANSWERS")) (by rfl) T.g_ANSWERS rfl) (pv 2) pe_non ⟨rfl, rfl, rfl, rfl⟩)))
        (pss_cons (ps_if (PW.pt (pw_or (pt_cmpR op_isN (pv 3) pe_non (nomark _)) (pw_or1 (pt_cmpR op_le (pe_callB call_len_seq (by rfl) T.f_len (by decide +kernel) (pa_cons (pv 0) pa_nil)) (pe_callB call_len_str (by rfl) T.f_len (by decide +kernel) (pa_cons (pv 3) pa_nil)) (nomark _)))))
        (pss_one (ps_ret pe_non))
        pss_nil)
        (pss_cons (ps_setLc (i := 4) (own := [("word", 2), ("sort", 5)]) (g := (gTup _ 2 (gCons (gName 2) (gCons (gName 5) gNil)))) (tt := tYes) rfl sc_part_of.nd rfl rfl (sw_true rfl rfl rfl (by decide +kernel)) (pi_zipX (by rfl) T.f_zip (pa_cons (pe_slice sl_list (pv 0) (po_some pe_int) po_none) (pa_cons (pv 3) pa_nil))) (blkOk_by (own := [("word", 2), ("sort", 5)]) (N := ["words", "is_test", "word", "form", "things", "sort"]) (sc := defScope s_part_of) (by decide +kernel)) (fun _ _ _ _ _ => pg_tup rfl (pgs_cons (pg_name (i := 2) sc_part_of.nd rfl (by first | exact Or.inl rfl | exact Or.inr rfl)) (pgs_cons (pg_name (i := 5) sc_part_of.nd rfl (by first | exact Or.inl rfl | exact Or.inr rfl)) pgs_nil))) (fun _ _ _ _ _ => pts_nil) (fun _ _ _ _ _ => (pe_def G_thing_of (hr.mono (by omega)) pass0 (pa_cons (pv 2) (pa_cons (pv 5) pa_nil)))))
        (pss_cons (ps_if (pt_cmpR (op_inD (un65 hr)) pe_non (pv 4) (by rfl))
        (pss_one (ps_ret pe_non))
        pss_nil)
        (pss_one (ps_ret (pe_tup (pa_cons (pe_op (kop_catAny (K := K) rfl) (pe_tup (pa_cons (pe_ix ix_list (pv 0) pe_int (fun _ _ => rfl)) pa_nil)) (pe_callTy call_tuple_of (by rfl) T.f_tuple (by decide +kernel) (pa_cons (pv 4) pa_nil))) (pa_cons (pe_slice sl_list (pv 0) (po_some (pe_op op_add pe_int (pe_callB call_len_str (by rfl) T.f_len (by decide +kernel) (pa_cons (pv 3) pa_nil)))) po_none) pa_nil)))))))))), ?_⟩
    have hsh := strs_shaped fun w m => (hws w m).2
    have hda : Dp K H (.ref a) (.list (ws.map .str)) := .lst (SqL.of ha) (dpStrs ws)
    refine ⟨fun σ2 H' => ∃ z, σ2 = [some (.ref a), some (.bl b), some (.str z), none, none, none] ∧ Fx [] H H' ∧ (ws = [] ∧ z = "" ∨ ∃ r, ws = z :: r), ?_, fun σ2 H1 hM => ?_⟩
    · refine ⟨_, rfl, by show 0 ≤ sizeLine; decide, fun l hl => ?_⟩
      have f1 : Fx [] H (upd H l (.lst [])) := Fx.new hl
      refine ⟨_, _, hda.ext f1, .lst (SqL.of upd_same) .nil, hsh, by decide +kernel, ?_⟩
      refine ⟨_, rfl, ifB (fun c => ?_) (fun c => ?_)⟩
      · cases ws with
        | nil => exact absurd c (by decide +kernel)
        | cons z r => exact ⟨_, rfl, a, _, ((0 : Nat) : Int), V.str z, rfl, rfl, SqL.of (f1.to ha fun m => nomatch m), atI_nat rfl, z, rfl, f1, .inr ⟨r, rfl⟩⟩
      · cases ws with
        | nil => exact ⟨"", rfl, f1, .inl ⟨rfl, rfl⟩⟩
        | cons z r =>
          have e : PyData.eqv (.list ((z :: r).map .str)) (.list []) = false := by simp [PyData.eqv, PyData.eqvAll]
          rw [e] at c
          cases c
    obtain ⟨z, rfl, f1, hz⟩ := hM
    refine ⟨fun σ2 H' => σ2 = [some (.ref a), some (.bl b), some (.str z), some (formV (formOf b z)), none, none] ∧ Fx [] H H', ?_, fun σ2 H2 hM => ?_⟩
    · obtain ⟨r, h1, h2, h3⟩ := form_kd TD b z
      have e1 : ∀ u, r = some u → RelV (formV (formOf b z)) u := fun u e => by
        obtain ⟨f, e1, e2⟩ := h2 u e
        rw [e1]
        exact e2
      have e2 : r = none → formV (formOf b z) = .non := fun e => by rw [h3 e]; rfl
      cases b with
      | true => exact ⟨_, rfl, _, rfl, ifT rfl ⟨rfl, _, rfl, z, r, _, rfl, h1, e1, e2, rfl, f1⟩⟩
      | false => exact ⟨_, rfl, _, rfl, ifF rfl ⟨rfl, _, rfl, z, r, _, rfl, h1, e1, e2, rfl, f1⟩⟩
    obtain ⟨rfl, f2⟩ := hM
    cases hf : formOf b z with
    | none =>
      have ep : partO b ws = none := by
        rcases hz with ⟨rfl, _⟩ | ⟨r, rfl⟩
        · rfl
        · rw [partO_cons, hf]
      rw [ep] at q
      exact ⟨_, rfl, rfl, _, rfl, ifT rfl (q _ _ f2 rfl)⟩
    | some f =>
      obtain ⟨r, rfl⟩ : ∃ r, ws = z :: r := by
        rcases hz with ⟨_, rfl⟩ | h
        · cases b <;> exact nomatch (show none = some f from hf)
        · exact h
      have hfl := form_len hf
      rw [partO_cons, hf] at q
      refine ⟨_, rfl, rfl, _, rfl, ifF rfl ?_⟩
      have ha2 : H2 a = some (.lst ((z :: r).map V.str)) := f2.to ha fun m => nomatch m
      refine ⟨_, rfl, a, _, rfl, .inl (SqL.of ha2), _, rfl, f, rfl, Nat.le_trans hfl (by decide), _, _, rfl, rfl, _, rfl, ifB (fun c => ?_) (fun c => ?_)⟩
      · have c2 : r.length + 1 ≤ f.length := by
          have := of_decide_eq_true c
          simp only [List.length_map, List.length_cons] at this
          omega
        simp only [if_pos c2] at q
        exact q _ _ f2 rfl
      have c2 : ¬ r.length + 1 ≤ f.length := by
        have := of_decide_eq_false c
        simp only [List.length_map, List.length_cons] at this
        omega
      simp only [if_neg c2] at q
      -- the things
      refine ⟨_, rfl, ((1 : Nat) : Int), rfl, a, _, rfl, SqL.of ha2, fun pp hpp => ?_⟩
      have ec : cutV ((z :: r).map V.str) (some ((1 : Nat) : Int)) none = r.map V.str := by
        rw [cutV_drop (by rw [List.length_map, List.length_cons]; omega)]
        rfl
      rw [ec]
      have f3 : Fx [] H2 (upd H2 pp (.lst (r.map V.str))) := Fx.new hpp
      have hp3 : upd H2 pp (.lst (r.map V.str)) pp = some (.lst (r.map V.str)) := upd_same
      generalize upd H2 pp (.lst (r.map V.str)) = H3 at f3 hp3
      have hcs : f.cps.size ≤ 2 := hfl
      have hsl : (signs f).length = f.cps.size := by
        unfold signs
        rw [List.length_map]
        exact Array.length_toList
      have hfc : f.length = f.cps.size := rfl
      have hzl : (r.zip (signs f)).length = f.cps.size := by
        rw [List.length_zip, hsl]
        omega
      refine ⟨_, rfl, pp, f, _, rfl, SqL.of hp3, fun D hD => lc_rel (walk_zipX (n := f.cps.size) (by have : f.length = f.cps.size := rfl; rw [List.length_map]; omega)) (fun i acc H6 => Fx [] H3 H6 ∧ DpAll K H6 acc (((r.zip (signs f)).take i).map fun q => thingV (thingO q.2 q.1))) ⟨Fx.new hD, .nil⟩ (fun i acc H6 g => SqL.of (g.1.to hp3 fun m => nomatch m)) (fun i acc x H6 H7 hi hla hWa g y => ?_) (fun acc H6 hla hWa g => ?_)⟩
      · obtain ⟨T', y1, c1, rfl, hT', rfl, hy1, hc1⟩ := y
        rw [List.getElem?_map] at hy1
        obtain ⟨w1, hw1, rfl⟩ := Option.map_eq_some_iff.mp hy1
        have hw2 := hws w1 (List.mem_cons_of_mem _ (List.mem_of_getElem? hw1))
        have hzi : (r.zip (signs f))[i]? = some (w1, ⟨#[c1]⟩) := by
          rw [List.getElem?_zip_eq_some]
          refine ⟨hw1, ?_⟩
          unfold signs
          rw [List.getElem?_map, Array.getElem?_toList, hc1]
          rfl
        refine ⟨T', _, rfl, SqT.of upd_same, rfl, _, _, rfl, _, _, rfl, rfl, rfl, ?_⟩
        refine ⟨_, rfl, _, rfl, w1, _, rfl, hw2.1, fun H8 v8 f8 d8 => ?_⟩
        have f78 : Fx [] H6 H8 := (Fx.new hT').trans f8
        have hD8 := f78.to hWa fun m => nomatch m
        refine Put.ok hla (by omega) hD8 ⟨((g.1.trans f78).loc hD (Chg.lst hD8)), ?_⟩
        have e9 : (r.zip (signs f)).take (i + 1) = (r.zip (signs f)).take i ++ [(w1, ⟨#[c1]⟩)] := by
          rw [List.take_add_one, hzi]
          rfl
        rw [e9, List.map_append]
        have f9 : Fx [D] H8 (upd H8 D (.lst (acc ++ [v8]))) := Fx.set List.mem_cons_self (Chg.lst hD8)
        refine ((g.2.ext f78).snoc d8).mv f9 (nolA_of fun d hd => ?_)
        rcases List.mem_append.mp hd with hd | hd
        · obtain ⟨q0, _, rfl⟩ := List.mem_map.mp hd
          exact thingV_nol _
        · rw [List.mem_singleton.mp hd]
          exact thingV_nol _
      · rw [List.take_of_length_le (by omega)] at g
        have eo : ((r.zip (signs f)).map fun q => thingV (thingO q.2 q.1)) = ((r.zip (signs f)).map fun q => thingO q.2 q.1).map thingV := by rw [List.map_map]; rfl
        rw [eo] at g
        generalize ((r.zip (signs f)).map fun q => thingO q.2 q.1) = os at g q
        have f6 : Fx [] H H6 := (f2.trans f3).trans g.1
        refine ⟨_, rfl, .none, _, .non, .lst (SqL.of hWa) g.2, by decide +kernel, things_shaped os, _, rfl, ?_⟩
        rw [things_non]
        refine ifB (fun c4 => ?_) (fun c4 => ?_)
        · rw [Option.isNone_iff_eq_none] at c4
          rw [c4] at q
          exact q _ _ f6 rfl
        · cases hA : allT os with
          | none => rw [hA] at c4; cases c4
          | some ts =>
            have em := allT_some hA
            rw [hA] at q
            have ha6 : H6 a = some (.lst ((z :: r).map V.str)) := f6.to ha fun m => nomatch m
            have edt : os.map thingV = ts.map Thing.d := by rw [em, List.map_map]; rfl
            rw [edt] at g
            refine ⟨_, rfl, a, _, ((0 : Nat) : Int), V.str z, rfl, rfl, SqL.of ha6, atI_nat rfl, by show 1 ≤ sizeLine; decide, fun p7 hp7 => ?_⟩
            have f7 : Fx [] H6 (upd H6 p7 (.tup [.str z])) := Fx.new hp7
            have hs7 : SqT K (upd H6 p7 (.tup [.str z])) p7 [.str z] := SqT.of upd_same
            have hW7 : upd H6 p7 (.tup [.str z]) D = some (.lst acc) := f7.to hWa fun m => nomatch m
            have g7 := g.2.ext f7
            generalize upd H6 p7 (.tup [.str z]) = H7 at f7 hs7 hW7 g7
            refine ⟨_, rfl, D, _, rfl, .inl ⟨SqL.of hW7, fun p8 hp8 => ?_⟩⟩
            have f8 : Fx [] H7 (upd H7 p8 (.tup acc)) := Fx.new hp8
            have hs8 : SqT K (upd H7 p8 (.tup acc)) p8 acc := SqT.of upd_same
            have g8 := g7.ext f8
            have hs78 := f8.sqT hs7
            generalize upd H7 p8 (.tup acc) = H8 at f8 hs8 g8 hs78
            have hacc : acc.length ≤ 2 := by omega
            refine rd_catA hs78 hs8 (by show 1 + acc.length ≤ sizeLine; exact Nat.le_trans (m := 3) (by omega) (by decide)) fun p9 H9 f9 hs9 => ?_
            have f69 := (f7.trans f8).trans f9
            have ha9 : H9 a = some (.lst ((z :: r).map V.str)) := f69.to ha6 fun m => nomatch m
            have g9 := g8.ext f9
            refine ⟨_, rfl, _, rfl, f, rfl, Nat.le_trans hfl (by decide), _, _, rfl, rfl, _, rfl, a, _, rfl, SqL.of ha9, fun p10 hp10 => ?_⟩
            have ec2 : cutV ((z :: r).map V.str) (some (1 + (f.length : Int))) none = (r.drop f.length).map V.str := by
              have e1 : (1 + (f.length : Int)) = ((1 + f.length : Nat) : Int) := by omega
              rw [e1, cutV_drop (by rw [List.length_map, List.length_cons]; omega), ← List.map_drop, Nat.add_comm, List.drop_succ_cons]
            rw [ec2]
            have f10 : Fx [] H9 (upd H9 p10 (.lst ((r.drop f.length).map V.str))) := Fx.new hp10
            have hp10' : upd H9 p10 (.lst ((r.drop f.length).map V.str)) p10 = some (.lst ((r.drop f.length).map V.str)) := upd_same
            have g10 := g9.ext f10
            have hs10 := f10.sqT hs9
            generalize upd H9 p10 (.lst ((r.drop f.length).map V.str)) = H10 at f10 hp10' g10 hs10
            refine ⟨by show 2 ≤ sizeLine; decide, fun p11 hp11 => ?_⟩
            have f11 : Fx [] H10 (upd H10 p11 (.tup [.ref p9, .ref p10])) := Fx.new hp11
            refine q _ _ (((f6.trans f69).trans f10).trans f11) ⟨p11, .ref p9, p10, rfl, upd_same, ?_, f11.to hp10' fun m => nomatch m⟩
            exact (Dp.tup hs10 (.cons (.str z) g10)).ext f11
end Mh
/-! MhRowT -/
namespace Mh
open PySem PySem.Spec PyProof.Rows L2 TL
/-! ### what is written is read the same -/
def figC (c : Nat) : Prop := c = 44 ∨ c = 45 ∨ 48 ≤ c ∧ c ≤ 57
theorem wL_fig {i : Int} : ∀ c ∈ wL i, figC c := fun c hc => by
  unfold wL at hc
  split at hc
  · exact .inr (.inr (numL_digits _ c hc))
  · rcases List.mem_cons.mp hc with rfl | hc
    · exact .inr (.inl rfl)
    · exact .inr (.inr (numL_digits _ c hc))
theorem joinL_mem {S : List Nat} {c : Nat} : ∀ {ps : List (List Nat)}, c ∈ joinL S ps → c ∈ S ∨ ∃ p ∈ ps, c ∈ p
  | [], h => nomatch h
  | [p], h => .inr ⟨p, List.mem_cons_self, h⟩
  | p :: q :: r, h => by
    have h2 : c ∈ p ++ (S ++ joinL S (q :: r)) := h
    rcases List.mem_append.mp h2 with h2 | h2
    · exact .inr ⟨p, List.mem_cons_self, h2⟩
    · rcases List.mem_append.mp h2 with h2 | h2
      · exact .inl h2
      · rcases joinL_mem h2 with h3 | ⟨p', m, h3⟩
        · exact .inl h3
        · exact .inr ⟨p', List.mem_cons_of_mem _ m, h3⟩
theorem tl_comma : tl comma = [44] := by decide +kernel
theorem tl_blank : tl blank = [32] := by decide +kernel
theorem tl_nl : tl nl = [10] := by decide +kernel
theorem tl_joinT (y : Str) (ps : List Str) : tl (Txt.join y ps) = joinL (tl y) (ps.map tl) := by rw [join_eq, tl_join]
theorem Thing.fig {t : Thing} : ∀ c ∈ tl t.s, figC c := fun c hc => by
  cases t with
  | n i =>
    have hc : c ∈ tl (wS i) := hc
    rw [tl_wS] at hc
    exact wL_fig c hc
  | k ns =>
    have hc : c ∈ tl (Txt.join comma (ns.map wS)) := hc
    rw [tl_joinT, tl_comma] at hc
    rcases joinL_mem hc with h | ⟨p, hp, h⟩
    · exact .inl (List.mem_singleton.mp h)
    · obtain ⟨z, hz, rfl⟩ := List.mem_map.mp hp
      obtain ⟨i, _, rfl⟩ := List.mem_map.mp hz
      rw [tl_wS] at h
      exact wL_fig c h
def wordC (c : Nat) : Prop := 33 ≤ c ∧ c < 128
theorem figC.word {c : Nat} (h : figC c) : wordC c := by
  unfold figC at h
  unfold wordC
  omega
theorem word_ok {z : Str} (h : z ∈ (["any", "below", "rest", "chance", "known", "num", "plus", "times", "none"] : List Str)) : ∀ c ∈ tl z, wordC c := by
  have key : (["any", "below", "rest", "chance", "known", "num", "plus", "times", "none"] : List Str).all (fun z => (tl z).all fun c => decide (33 ≤ c) && decide (c < 128)) = true := by decide +kernel
  intro c hc
  have h1 := List.all_eq_true.mp (List.all_eq_true.mp key z h) c hc
  obtain ⟨h2, h3⟩ := Bool.and_eq_true_iff.mp h1
  exact ⟨of_decide_eq_true h2, of_decide_eq_true h3⟩
theorem Tst.word (t : Tst) : ∀ w ∈ t.part.words, ∀ c ∈ tl w, wordC c := fun w hw => by
  rcases List.mem_cons.mp hw with rfl | hw
  · exact word_ok (by cases t <;> simp [Tst.part])
  · obtain ⟨th, _, rfl⟩ := List.mem_map.mp hw
    exact fun c hc => (Thing.fig c hc).word
theorem Ans.word (t : Ans) : ∀ w ∈ t.part.words, ∀ c ∈ tl w, wordC c := fun w hw => by
  rcases List.mem_cons.mp hw with rfl | hw
  · exact word_ok (by cases t <;> simp [Ans.part])
  · obtain ⟨th, _, rfl⟩ := List.mem_map.mp hw
    exact fun c hc => (Thing.fig c hc).word
theorem rowW_word (r : Tst × Ans) : ∀ w ∈ rowW r, ∀ c ∈ tl w, wordC c := fun w hw => by
  rcases List.mem_append.mp hw with hw | hw
  · exact r.1.word w hw
  · exact r.2.word w hw
theorem rowW_ne (r : Tst × Ans) : rowW r ≠ [] := by
  unfold rowW Part.words
  simp
theorem rowT_sign (r : Tst × Ans) : ∀ c ∈ tl (rowT r), c = 32 ∨ wordC c := fun c hc => by
  have hc : c ∈ tl (Txt.join blank (rowW r)) := hc
  rw [tl_joinT, tl_blank] at hc
  rcases joinL_mem hc with h | ⟨p, hp, h⟩
  · exact .inl (List.mem_singleton.mp h)
  · obtain ⟨z, hz, rfl⟩ := List.mem_map.mp hp
    exact .inr (rowW_word r z hz c h)
theorem rowT_split (r : Tst × Ans) : Txt.split (rowT r) blank = rowW r :=
  split_join tl_blank (by decide +kernel) (rowW_ne r) fun p hp m => by
    have := rowW_word r p hp 32 m
    unfold wordC at this
    omega
theorem machT_split {m : Mch} (h : m ≠ []) : Txt.split (machT m) nl = m.map rowT :=
  split_join tl_nl (by decide +kernel) (by simpa using h) fun p hp hm => by
    obtain ⟨r, _, rfl⟩ := List.mem_map.mp hp
    have := rowT_sign r 10 hm
    unfold wordC at this
    omega
theorem strOk_of {z : Str} (h : ∀ c ∈ tl z, c < 128) : PyData.strOk z = true := by
  unfold PyData.strOk
  rw [Array.all_eq_true']
  intro c hc
  have := h c (by simpa [tl] using hc)
  exact decide_eq_true (by omega)
theorem rowT_ok (r : Tst × Ans) : PyData.strOk (rowT r) = true := strOk_of fun c hc => by
  have := rowT_sign r c hc
  unfold wordC at this
  omega
theorem wS_free {i : Int} : 44 ∉ tl (wS i) := by
  rw [tl_wS]
  exact wL_sane (by decide) (.inl (by decide))
theorem thing_n {i : Int} (h : -9999 ≤ i ∧ i ≤ 9999) : thingO "n" (Thing.n i).s = some (.n i) := by
  unfold thingO
  rw [if_pos (by decide +kernel)]
  show (numOf (wS i)).map Thing.n = _
  rw [numOf_wS h]
  rfl
theorem thing_k {ns : List Int} (hne : ns ≠ []) (h : ∀ i ∈ ns, -9999 ≤ i ∧ i ≤ 9999) : thingO "k" (Thing.k ns).s = some (.k ns) := by
  unfold thingO
  rw [if_neg (by decide +kernel)]
  show (allN ((Txt.split (Txt.join comma (ns.map wS)) comma).map numOf)).map Thing.k = _
  rw [split_join tl_comma (by decide +kernel) (by simpa using hne) fun p hp => by
    obtain ⟨i, _, rfl⟩ := List.mem_map.mp hp
    exact wS_free]
  have e : (ns.map wS).map numOf = ns.map some := by
    rw [List.map_map]
    exact List.map_congr_left fun i hi => numOf_wS (h i hi)
  rw [e, allN_map]
  rfl
theorem part0 {b : Bool} {w : Str} {r : List Str} (hf : formOf b w = some ("" : Str)) : partO b (w :: r) = some (⟨w, []⟩, r) := by
  rw [partO_cons, hf]
  show (if r.length + 1 ≤ Str.length ("" : Str) then none else (allT ((r.zip (signs ("" : Str))).map fun q => thingO q.2 q.1)).map fun ts => ((⟨w, ts⟩ : Part), r.drop (Str.length ("" : Str)))) = _
  have e1 : Str.length ("" : Str) = 0 := by decide +kernel
  have e2 : signs ("" : Str) = [] := by decide +kernel
  rw [e1, e2, if_neg (by omega), List.zip_nil_right]
  rfl
theorem part1 {b : Bool} {w f : Str} {t : Thing} {r : List Str} (hf : formOf b w = some f) (e1 : Str.length f = 1) (e2 : signs f = [f]) (ht : thingO f t.s = some t) : partO b (w :: t.s :: r) = some (⟨w, [t]⟩, r) := by
  rw [partO_cons, hf]
  show (if (t.s :: r).length + 1 ≤ Str.length f then none else (allT (((t.s :: r).zip (signs f)).map fun q => thingO q.2 q.1)).map fun ts => ((⟨w, ts⟩ : Part), (t.s :: r).drop (Str.length f))) = _
  rw [e1, e2, if_neg (by simp only [List.length_cons]; omega), List.zip_cons_cons, List.zip_nil_right]
  simp only [List.map_cons, List.map_nil, ht]
  rfl
theorem part2 {b : Bool} {w : Str} {t u : Thing} {r : List Str} (hf : formOf b w = some ("nn" : Str)) (ht : thingO "n" t.s = some t) (hu : thingO "n" u.s = some u) : partO b (w :: t.s :: u.s :: r) = some (⟨w, [t, u]⟩, r) := by
  rw [partO_cons, hf]
  show (if (t.s :: u.s :: r).length + 1 ≤ Str.length ("nn" : Str) then none else (allT (((t.s :: u.s :: r).zip (signs ("nn" : Str))).map fun q => thingO q.2 q.1)).map fun ts => ((⟨w, ts⟩ : Part), (t.s :: u.s :: r).drop (Str.length ("nn" : Str)))) = _
  have e1 : Str.length ("nn" : Str) = 2 := by decide +kernel
  have e2 : signs ("nn" : Str) = [("n" : Str), "n"] := by decide +kernel
  rw [e1, e2, if_neg (by simp only [List.length_cons]; omega), List.zip_cons_cons, List.zip_cons_cons, List.zip_nil_right]
  simp only [List.map_cons, List.map_nil, ht, hu]
  rfl
theorem Tst.read {t : Tst} (h : t.ok) (r : List Str) : partO true (t.part.words ++ r) = some (t.part, r) := by
  cases t with
  | any => exact part0 (by decide +kernel)
  | below n =>
    have h2 : 0 ≤ n ∧ n ≤ 9999 := h
    exact part1 (f := "n") (by show formOf true "below" = some ("n" : Str); decide +kernel) (by decide +kernel) (by decide +kernel) (thing_n ⟨by omega, by omega⟩)
  | rest m r' =>
    have h1 : 2 ≤ m := h.1
    have h2 : m ≤ 99 := h.2.1
    have h3 : 0 ≤ r' := h.2.2.1
    have h4 : r' ≤ m - 1 := by have := h.2.2.2; omega
    exact part2 (by show formOf true "rest" = some ("nn" : Str); decide +kernel) (thing_n ⟨by omega, by omega⟩) (thing_n ⟨by omega, by omega⟩)
  | chance m r' =>
    have h1 : 2 ≤ m := h.1
    have h2 : m ≤ 99 := h.2.1
    have h3 : 0 ≤ r' := h.2.2.1
    have h4 : r' ≤ m - 1 := by have := h.2.2.2; omega
    exact part2 (by show formOf true "chance" = some ("nn" : Str); decide +kernel) (thing_n ⟨by omega, by omega⟩) (thing_n ⟨by omega, by omega⟩)
  | known ns =>
    obtain ⟨h1, h2, h3, h4⟩ := h
    refine part1 (f := "k") (by show formOf true "known" = some ("k" : Str); decide +kernel) (by decide +kernel) (by decide +kernel) (thing_k (fun e => ?_) fun i hi => ⟨by have := (h3 i hi).1; omega, (h3 i hi).2⟩)
    subst e
    cases h1
theorem Ans.read {a : Ans} (h : a.ok) (r : List Str) : partO false (a.part.words ++ r) = some (a.part, r) := by
  cases a with
  | none => exact part0 (by decide +kernel)
  | rest n =>
    have h1 : 2 ≤ n := h.1
    have h2 : n ≤ 99 := h.2
    exact part1 (f := "n") (by show formOf false "rest" = some ("n" : Str); decide +kernel) (by decide +kernel) (by decide +kernel) (thing_n ⟨by omega, by omega⟩)
  | num n => exact part1 (f := "n") (by show formOf false "num" = some ("n" : Str); decide +kernel) (by decide +kernel) (by decide +kernel) (thing_n h)
  | plus n => exact part1 (f := "n") (by show formOf false "plus" = some ("n" : Str); decide +kernel) (by decide +kernel) (by decide +kernel) (thing_n h)
  | times n => exact part1 (f := "n") (by show formOf false "times" = some ("n" : Str); decide +kernel) (by decide +kernel) (by decide +kernel) (thing_n h)
def rowO (line : Str) : Option (Part × Part) := match partO true (Txt.split line blank) with
  | none => none
  | some (p, r) => match partO false r with
    | some (q, []) => some (p, q)
    | _ => none
theorem rowO_T {r : Tst × Ans} (h1 : r.1.ok) (h2 : r.2.ok) : rowO (rowT r) = some (r.1.part, r.2.part) := by
  unfold rowO
  rw [rowT_split]
  unfold rowW
  rw [r.1.read h1]
  have := r.2.read h2 []
  rw [List.append_nil] at this
  simp only [this]
end Mh
/-! MhRowOf -/
namespace Mh
open PySem PySem.Spec PyProof.Rows L2 TL
theorem spl_mem (S : List Nat) : ∀ (l : List Nat) (k : Nat) (acc : List Nat), ∀ p ∈ spl S k acc l, ∀ c ∈ p, c ∈ acc ∨ c ∈ l
  | [], k, acc, p, h, c, hc => by
    rw [spl_nil] at h
    rw [List.mem_singleton.mp h] at hc
    exact .inl hc
  | x :: r, 0, acc, p, h, c, hc => by
    by_cases e : pre S (x :: r) = true
    · rw [spl_hit e] at h
      rcases List.mem_cons.mp h with rfl | h
      · exact .inl hc
      · rcases spl_mem S r _ _ p h c hc with h1 | h1
        · cases h1
        · exact .inr (List.mem_cons_of_mem _ h1)
    · rw [spl_miss (by simpa using e)] at h
      rcases spl_mem S r _ _ p h c hc with h1 | h1
      · rcases List.mem_append.mp h1 with h1 | h1
        · exact .inl h1
        · rw [List.mem_singleton.mp h1]
          exact .inr List.mem_cons_self
      · exact .inr (List.mem_cons_of_mem _ h1)
  | x :: r, k + 1, acc, p, h, c, hc => by
    rcases spl_mem S r k acc p h c hc with h1 | h1
    · exact .inl h1
    · exact .inr (List.mem_cons_of_mem _ h1)
theorem split_mem {z y : Str} (hy : tl y ≠ []) (hk : y.cps.all (· < 256) = true) : ∀ p ∈ Txt.split z y, ∀ c ∈ tl p, c ∈ tl z := fun p hp c hc => by
  have h := split_spl z y hy (kind_ok hk)
  have hm : tl p ∈ spl (tl y) 0 [] (tl z) := by
    rw [← h]
    exact List.mem_map.mpr ⟨p, hp, rfl⟩
  rcases spl_mem _ _ _ _ _ hm c hc with h1 | h1
  · cases h1
  · exact h1
theorem strOk_iff {z : Str} : PyData.strOk z = true ↔ ∀ c ∈ tl z, c < 0x110000 := by
  unfold PyData.strOk
  rw [Array.all_eq_true']
  constructor
  · intro h c hc
    exact of_decide_eq_true (h c (by simpa [tl] using hc))
  · intro h c hc
    exact decide_eq_true (h c (by simpa [tl] using hc))
theorem split_ok {z y : Str} (hy : tl y ≠ []) (hk : y.cps.all (· < 256) = true) (h : PyData.strOk z = true) : ∀ p ∈ Txt.split z y, PyData.strOk p = true := fun p hp =>
  strOk_iff.mpr fun c hc => strOk_iff.mp h c (split_mem hy hk p hp c hc)
theorem partO_sub {b : Bool} {ws r : List Str} {p : Part} (h : partO b ws = some (p, r)) : r.length ≤ ws.length ∧ ∀ w ∈ r, w ∈ ws := by
  cases ws with
  | nil => cases h
  | cons w0 r0 =>
    rw [partO_cons] at h
    cases hf : formOf b w0 with
    | none => rw [hf] at h; cases h
    | some f =>
      rw [hf] at h
      have h2 : (if r0.length + 1 ≤ f.length then none else (allT ((r0.zip (signs f)).map fun q => thingO q.2 q.1)).map fun ts => ((⟨w0, ts⟩ : Part), r0.drop f.length)) = some (p, r) := h
      split at h2
      · cases h2
      · obtain ⟨ts, _, e⟩ := Option.map_eq_some_iff.mp h2
        cases e
        exact ⟨by rw [List.length_drop, List.length_cons]; omega, fun w m => List.mem_cons_of_mem _ (List.mem_of_mem_drop m)⟩
def RowV (K : PySem.W.Frag) (H : Hp) (v : V) : Option (Part × Part) → Prop
  | none => v = .non
  | some (p, q) => ∃ T, v = .ref T ∧ Dp K H v (.tuple [p.d, q.d])
theorem sc_row_of : FnScope ["line", "test", "answer"] ["line"] (defScope s_row_of) := ⟨rfl, rfl, rfl, by decide +kernel, rfl, by decide +kernel, by decide +kernel⟩
def spRowOf (K : PySem.W.Frag) : Sp := fun vs H Q _ => ∃ (z : Str), vs = [.str z] ∧ z.length ≤ 400000 ∧ PyData.strOk z = true ∧ ∀ (H' : Hp) (v : V), Fx [] H H' → RowV K H' v (rowO z) → Q v H'
theorem ok_row_of {P : Program} {w : World} {K : PySem.W.Frag} {mg : Str → Option Value} {base : Heap} (T : Tx K mg) (TD : TabD K w) : Def P w K mg base CX0 4 "row_of" ["line"] (spRowOf K) := by
  obtain ⟨fd, F⟩ := T.d_row_of
  have G_part_of := ok_part_of (P := P) (w := w) (base := base) T TD
  refine ⟨_, fd, F.ok sc_row_of (fun vs H Q E h => ?_) (fun cdv A outer s H vs Q E hr h => ?_), F.bindsN fun _ _ _ _ _ _ us hl => match us, hl with | [_], _ => rfl, T.g_row_of, F.kp⟩
  · obtain ⟨z, rfl, _⟩ := h
    rfl
  · obtain ⟨z, rfl, hz, hok, q⟩ := h
    refine ⟨_, PSs.nox (pss_cons (ps_set (i := 1) sc_row_of.nd rfl (by first | exact Or.inl rfl | exact Or.inr rfl) (pe_def G_part_of (hr.mono (by omega)) pass0 (pa_cons (pe_split (pv 0) pe_str) (pa_cons pe_bl pa_nil))))
        (Evl.pss_cut (ps_set (i := 2) sc_row_of.nd rfl (by first | exact Or.inl rfl | exact Or.inr rfl) (pe_ifExp (pt_cmpR op_isN (pv 1) pe_non (nomark _)) pe_non (pe_def G_part_of (hr.mono (by omega)) pass0 (pa_cons (pe_ix ix_tup (pv 1) pe_int (fun _ _ => rfl)) (pa_cons pe_bl pa_nil)))))
        (pss_one (ps_ret (pe_ifExp (PW.pt (pw_and (pt_cmpR op_notN (pv 2) pe_non (nomark _)) (pw_and1 (pt_cmpR (op_eqD hr.units) (pe_ix ix_tup (pv 2) pe_int (fun _ _ => rfl)) (pe_lst pa_nil) (nomark _))))) (pe_tup (pa_cons (pe_ix ix_tup (pv 1) pe_int (fun _ _ => rfl)) (pa_cons (pe_ix ix_tup (pv 2) pe_int (fun _ _ => rfl)) pa_nil))) pe_non))))), ?_⟩
    have hbl : tl blank ≠ [] := by decide +kernel
    have hbk : blank.cps.all (· < 256) = true := by decide +kernel
    have hpl := split_len (z := z) hbl hbk
    have hpo := split_ok hbl hbk hok
    have hpn := PyProof.Rows.split_le z blank
    have en : rowO z = match partO true (Txt.split z blank) with
      | none => none
      | some (p, r) => match partO false r with
        | some (q, []) => some (p, q)
        | _ => none := rfl
    rw [en] at q
    refine ⟨_, rfl, ⟨_, rfl⟩, z, blank, rfl, rfl, by decide +kernel, Nat.le_trans (m := 500000) (by omega) (by decide), fun p hp => ?_⟩
    generalize Txt.split z blank = ws at hpl hpo hpn q ⊢
    have f1 : Fx [] H (upd H p (.lst (ws.map V.str))) := Fx.new hp
    have hp1 : upd H p (.lst (ws.map V.str)) p = some (.lst (ws.map V.str)) := upd_same
    generalize upd H p (.lst (ws.map V.str)) = H1 at f1 hp1
    refine ⟨p, ws, true, rfl, hp1, by omega, fun w m => ⟨by have := hpl w m; omega, hpo w m⟩, fun H2 v2 f2 pv => ?_⟩
    cases ht : partO true ws with
    | none =>
      rw [ht] at q pv
      obtain rfl : v2 = .non := pv
      refine ⟨fun σ2 H' => σ2 = [some (.str z), some .non, some .non] ∧ Fx [] H H', ⟨_, rfl, rfl, _, rfl, ifT rfl ⟨rfl, f1.trans f2⟩⟩, fun σ2 H3 hM => ?_⟩
      obtain ⟨rfl, f3⟩ := hM
      exact ⟨_, rfl, rfl, _, rfl, ifF rfl (ifF rfl (q _ _ f3 rfl))⟩
    | some pr =>
      obtain ⟨pt, r⟩ := pr
      obtain ⟨hrl, hrm⟩ := partO_sub ht
      rw [ht] at q pv
      obtain ⟨T1, pv1, l1, rfl, hT1, dp1, hl1⟩ := pv
      refine ⟨fun σ2 H' => ∃ v3, σ2 = [some (.str z), some (.ref T1), some v3] ∧ Fx [] H2 H' ∧ PartV K H' v3 (partO false r), ?_, fun σ2 H3 hM => ?_⟩
      · refine ⟨_, rfl, rfl, _, rfl, ifF rfl ?_⟩
        refine rd_ixT (j := 1) rfl (SqT.of hT1) rfl ?_
        exact ⟨l1, r, false, rfl, hl1, by omega, fun w m => ⟨by have := hpl w (hrm w m); omega, hpo w (hrm w m)⟩, fun H3 v3 f3 pv3 => ⟨_, rfl, f3, pv3⟩⟩
      obtain ⟨v3, rfl, f3, pv3⟩ := hM
      have f03 := (f1.trans f2).trans f3
      cases ha : partO false r with
      | none =>
        rw [ha] at pv3
        obtain rfl : v3 = .non := pv3
        simp only [ha] at q
        exact ⟨_, rfl, rfl, _, rfl, ifF rfl (ifF rfl (q _ _ f03 rfl))⟩
      | some qr =>
        obtain ⟨qt, r2⟩ := qr
        obtain ⟨hr2l, hr2m⟩ := partO_sub ha
        rw [ha] at pv3
        obtain ⟨T2, pv2, l2, rfl, hT2, dp2, hl2⟩ := pv3
        refine ⟨_, rfl, rfl, _, rfl, ifT rfl ?_⟩
        refine rd_ixT (j := 1) rfl (SqT.of hT2) rfl ⟨by show 0 ≤ sizeLine; decide, fun p4 hp4 => ?_⟩
        have f4 : Fx [] H3 (upd H3 p4 (.lst [])) := Fx.new hp4
        refine ⟨_, _, (Dp.lst (SqL.of hl2) (dpStrs r2)).ext f4, .lst (SqL.of upd_same) .nil, strs_shaped fun w m => hpo w (hrm w (hr2m w m)), by decide +kernel, _, rfl, ?_⟩
        generalize upd H3 p4 (.lst []) = H4 at f4
        have f04 := f03.trans f4
        have f34 := f3.trans f4
        cases r2 with
        | nil =>
          simp only [ha] at q
          refine ifT (by decide +kernel) ?_
          refine ⟨_, rfl, T1, _, ((0 : Nat) : Int), pv1, rfl, rfl, f34.sqT (SqT.of hT1), atI_nat rfl, _, rfl, T2, _, ((0 : Nat) : Int), pv2, rfl, rfl, f4.sqT (SqT.of hT2), atI_nat rfl, by show 2 ≤ sizeLine; decide, fun p5 hp5 => ?_⟩
          have f5 : Fx [] H4 (upd H4 p5 (.tup [pv1, pv2])) := Fx.new hp5
          exact q _ _ (f04.trans f5) ⟨p5, rfl, .tup (SqT.of upd_same) (.cons ((dp1.ext f34).ext f5) (.cons ((dp2.ext f4).ext f5) .nil))⟩
        | cons w2 r2 =>
          have e : PyData.eqv (.list ((w2 :: r2).map .str)) (.list []) = false := by simp [PyData.eqv, PyData.eqvAll]
          simp only [ha] at q
          rw [e]
          exact ifF rfl (q _ _ f04 rfl)
end Mh
/-! MhRead -/
namespace Mh
open PySem PySem.Spec PyProof.Rows L2 TL
theorem row_dd (r : Tst × Ans) : PyData.tuple [r.1.part.d, r.2.part.d] = rowD r := by
  show _ = PyData.tuple [r.1.d, r.2.d]
  rw [Tst.part_d, Ans.part_d]
theorem machT_len {m : Mch} (h : m.ok) : (machT m).length ≤ 6000 := by
  have hsum := sum_le (ws := m.map rowT) (m := 488) fun w hw => by
    obtain ⟨r, hr, rfl⟩ := List.mem_map.mp hw
    obtain ⟨o1, o2⟩ := h.rows r hr
    exact rowT_len o1 o2
  rw [List.length_map] at hsum
  have h12 := h.len
  have e : (machT m).length = (joinL (tl nl) ((m.map rowT).map tl)).length := by
    rw [len_tl]
    unfold machT
    rw [tl_joinT]
  have h2 := joinL_len (tl nl) 488 (ps := (m.map rowT).map tl) fun p hp => by
    obtain ⟨z, hz, rfl⟩ := List.mem_map.mp hp
    obtain ⟨r, hr, rfl⟩ := List.mem_map.mp hz
    obtain ⟨o1, o2⟩ := h.rows r hr
    rw [← len_tl]
    exact rowT_len o1 o2
  rw [List.length_map, List.length_map, tl_nl] at h2
  rw [e, tl_nl]
  have : m.length * (488 + [10].length) ≤ 12 * 489 := Nat.mul_le_mul h12 (by decide)
  omega
theorem Mch.ok.take {m : Mch} (h : Mch.ok m) (i : Nat) : Mch.ok (m.take (i + 1)) :=
  ⟨fun e => by
    have h1 := congrArg List.length e
    rw [List.length_take] at h1
    have h2 : 0 < m.length := List.length_pos_iff.mpr h.ne
    simp only [List.length_nil] at h1
    omega, by
    have := h.len
    rw [List.length_take]
    omega, fun r hr => h.rows r (List.mem_of_mem_take hr)⟩
theorem sc_read : FnScope ["text", "rows", "row", "line", "found", "e"] ["text"] (defScope s_read) := ⟨rfl, rfl, rfl, by decide +kernel, rfl, by decide +kernel, by decide +kernel⟩
def spRead (K : PySem.W.Frag) : Sp := fun vs H Q _ => ∃ (m : Mch), vs = [.str (machT m)] ∧ m.ok ∧ ∀ (H' : Hp) (v : V), Fx [] H H' → Dp K H' v (machD m) → Q v H'
theorem ok_read {P : Program} {w : World} {K : PySem.W.Frag} {mg : Str → Option Value} {base : Heap} (T : Tx K mg) (TD : TabD K w) : Def P w K mg base CX0 5 "read" ["text"] (spRead K) := by
  obtain ⟨fd, F⟩ := T.d_read
  have G_row_of := ok_row_of (P := P) (w := w) (base := base) T TD
  have G_need_machine := ok_need_machine (P := P) (w := w) (base := base) T
  refine ⟨_, fd, F.ok sc_read (fun vs H Q E h => ?_) (fun cdv A outer s H vs Q E hr h => ?_), F.bindsN fun _ _ _ _ _ _ us hl => match us, hl with | [_], _ => rfl, T.g_read, F.kp⟩
  · obtain ⟨m, rfl, _⟩ := h
    rfl
  · obtain ⟨m, rfl, hm, q⟩ := h
    refine ⟨_, PSs.nox (pss_cons (ps_set (i := 1) sc_read.nd rfl (by first | exact Or.inl rfl | exact Or.inr rfl) (pe_lst pa_nil))
        (pss_cons (ps_for PassesOwn.never rfl (pi_enum (by rfl) T.f_enumerate (pa_cons (pe_split (pv 0) pe_str) pa_nil)) (pg_tup rfl (pgs_cons (pg_name (i := 2) sc_read.nd rfl (by first | exact Or.inl rfl | exact Or.inr rfl)) (pgs_cons (pg_name (i := 3) sc_read.nd rfl (by first | exact Or.inl rfl | exact Or.inr rfl)) pgs_nil)))
        (pss_cons (ps_set (i := 4) sc_read.nd rfl (by first | exact Or.inl rfl | exact Or.inr rfl) (pe_def G_row_of (hr.mono (by omega)) pass0 (pa_cons (pv 3) pa_nil)))
        (pss_cons (ps_if (pt_cmpR op_isN (pv 4) pe_non (nomark _))
        (pss_one ps_never)
        pss_nil)
        (pss_cons (ps_expr (pe_bm PySem.F.plainAttrs_list PySem.F.slot_list_append PySem.F.type_list_append mt_append (pv 1) (pa_cons (pv 4) pa_nil)))
        (pss_one (ps_try_thru0 (pss_one (ps_expr (pe_def G_need_machine (hr.mono (by omega)) pass0 (pa_cons (pe_callTy call_tuple_of (by rfl) T.f_tuple (by decide +kernel) (pa_cons (pv 1) pa_nil)) pa_nil))))))))))
        (pss_one (ps_ret (pe_callTy call_tuple_of (by rfl) T.f_tuple (by decide +kernel) (pa_cons (pv 1) pa_nil)))))), ?_⟩
    refine ⟨by show 0 ≤ sizeLine; decide, fun R hR => ?_⟩
    have f1 : Fx [] H (upd H R (.lst [])) := Fx.new hR
    have hR1 : upd H R (.lst []) R = some (.lst []) := upd_same
    generalize upd H R (.lst []) = H1 at f1 hR1
    have hlen := machT_len hm
    refine ⟨_, rfl, ⟨_, rfl⟩, machT m, nl, rfl, rfl, by decide +kernel, Nat.le_trans (m := 10000) (by omega) (by decide), fun p hp => ?_⟩
    rw [machT_split hm.ne]
    have hpR : p ≠ R := fun e => by
      subst e
      rw [hR1] at hp
      cases hp
    have f2 : Fx [] H1 (upd H1 p (.lst ((m.map rowT).map V.str))) := Fx.new hp
    have hp2 : upd H1 p (.lst ((m.map rowT).map V.str)) p = some (.lst ((m.map rowT).map V.str)) := upd_same
    have hR2 := f2.to hR1 fun z => nomatch z
    generalize upd H1 p (.lst ((m.map rowT).map V.str)) = H2 at f2 hp2 hR2
    refine ⟨p, _, rfl, SqL.of hp2, for_it (walk_enum (xs := (m.map rowT).map V.str)) (fun i σ' H' => ∃ y2 y3 y4 vs, σ' = [some (.str (machT m)), some (.ref R), y2, y3, y4, none] ∧ Fx [] H H' ∧ H' p = some (.lst ((m.map rowT).map V.str)) ∧ H' R = some (.lst vs) ∧ DpAll K H' vs ((m.take i).map rowD)) ⟨none, none, none, [], rfl, f1.trans f2, hp2, hR2, .nil⟩ (fun i σ' H' _ ⟨_, _, _, _, _, _, hpp, _⟩ => SqL.of hpp) (fun i x σ' H3 H4 hi hP y => ?_) (fun σ' H' hP => ?_)⟩
    · obtain ⟨y2, y3, y4, vs, rfl, f, hpp, hR3, dv⟩ := hP
      obtain ⟨T', u, v, rfl, hT, hu', hv⟩ := YPair.tup y
      cases hu'
      have fy : Fx [] H3 H4 := YPair.fx y
      rw [List.getElem?_map, List.getElem?_map] at hv
      obtain ⟨w1, hw1, rfl⟩ := Option.map_eq_some_iff.mp hv
      obtain ⟨r, hr, rfl⟩ := Option.map_eq_some_iff.mp hw1
      obtain ⟨o1, o2⟩ := hm.rows r (List.mem_of_getElem? hr)
      refine ⟨T', _, rfl, SqT.of hT, rfl, _, _, rfl, _, _, rfl, rfl, ?_⟩
      have hrl := rowT_len o1 o2
      refine ⟨_, rfl, rowT r, rfl, by omega, rowT_ok r, fun H5 v5 f5 rv => ?_⟩
      rw [rowO_T o1 o2] at rv
      obtain ⟨T5, rfl, d5⟩ := rv
      rw [row_dd] at d5
      refine ⟨_, rfl, rfl, _, rfl, ifF rfl ?_⟩
      have f35 := fy.trans f5
      have hR5 := f35.to hR3 fun z => nomatch z
      have hvl : vs.length ≤ 12 := by
        have := dv.len
        have h12 := hm.len
        rw [this, List.length_map, List.length_take]
        omega
      refine ⟨_, rfl, .inl ⟨rfl, _, SqL.of hR5⟩, _, rfl, R, _, _, rfl, rfl, hR5, Nat.lt_of_le_of_lt hvl (by decide), ?_⟩
      have f6 : Fx [R] H5 (upd H5 R (.lst (vs ++ [.ref T5]))) := Fx.set List.mem_cons_self (Chg.lst hR5)
      have fl := (f.trans f35).loc hR (Chg.lst hR5) (o := .lst (vs ++ [.ref T5]))
      have hR6 : upd H5 R (.lst (vs ++ [.ref T5])) R = some (.lst (vs ++ [.ref T5])) := upd_same
      have hnol : nolA ((m.take (i + 1)).map rowD) = true := mach_nol (m.take (i + 1))
      have et : (m.take (i + 1)).map rowD = (m.take i).map rowD ++ [rowD r] := by
        rw [List.take_add_one, hr, List.map_append]
        rfl
      have d6 : DpAll K (upd H5 R (.lst (vs ++ [.ref T5]))) (vs ++ [.ref T5]) ((m.take (i + 1)).map rowD) := by
        refine DpAll.mv ?_ f6 hnol
        rw [et]
        exact (dv.ext f35).snoc d5
      have hp6 : upd H5 R (.lst (vs ++ [.ref T5])) p = some (.lst ((m.map rowT).map V.str)) := by
        rw [upd_ne hpR]
        exact f35.to hpp fun z => nomatch z
      generalize upd H5 R (.lst (vs ++ [.ref T5])) = H6 at f6 fl hR6 d6 hp6
      refine ⟨_, rfl, R, _, rfl, .inl ⟨SqL.of hR6, fun l hl => ?_⟩⟩
      have f7 : Fx [] H6 (upd H6 l (.tup (vs ++ [.ref T5]))) := Fx.new hl
      have hd7 : Dp K (upd H6 l (.tup (vs ++ [.ref T5]))) (.ref l) (machD (m.take (i + 1))) := .tup (SqT.of upd_same) (d6.ext f7)
      dsimp only [tNil]
      rw [List.append_nil]
      refine need_mach (E := E0) (Mch.ok.take hm i) hd7 fun H8 f8 => ?_
      have f68 := f7.trans f8
      exact ⟨_, _, _, _, rfl, fl.trans f68, f68.to hp6 (fun z => nomatch z), f68.to hR6 (fun z => nomatch z), d6.ext f68⟩
    · obtain ⟨y2, y3, y4, vs, rfl, f, hpp, hR3, dv⟩ := hP
      refine ⟨_, rfl, R, _, rfl, .inl ⟨SqL.of hR3, fun l hl => ?_⟩⟩
      have f4 : Fx [] H' (upd H' l (.tup vs)) := Fx.new hl
      refine q _ _ (f.trans f4) (.tup (SqT.of upd_same) ?_)
      have := dv.ext f4
      rw [List.length_map, List.length_map, List.take_length] at this
      exact this
end Mh
/-! MhTxtM -/
namespace Mh
open PySem PySem.Spec PyProof.Rows L2
/-- a text none or one time -/
def rRepS : R2 := fun x y H Q => ∃ (z : Str) (k : Int), x = .str z ∧ y = .int k ∧ ((k = 0 ∧ Q (.str Str.empty) H) ∨ (k = 1 ∧ Q (.str z) H))
theorem op_repS {X : Cx} : OpR X (binaryOp .Mult) rRepS := by
  intro pins s σ H x y v u Q I rx ry h
  obtain ⟨z, k, rfl, rfl, h⟩ := h
  obtain ⟨t, rfl⟩ := rx
  obtain ⟨t2, rfl⟩ := ry
  rcases h with ⟨rfl, q⟩ | ⟨rfl, q⟩
  · exact PySem.P.mul_str_none (by decide) (by decide) ⟨.str Str.empty, H, I.tok _, ⟨_, rfl⟩, q⟩
  · refine PySem.P.mul_str (by decide) (fun _ e => by simp at e) (fun _ e => by simp at e) ?_
    rw [if_neg (by decide), if_pos (by rfl)]
    exact ⟨.str z, H, I, ⟨_, rfl⟩, q⟩
end Mh
/-! MhSeg -/
namespace Mh
open PySem PySem.Spec PyProof.Rows L2 TL
/-! ### texts by the lengths of their rows -/
def Seg (L : Nat) (l : List Nat) : Prop := ∀ p m s, l = p ++ (m ++ s) → 10 ∉ m → m.length ≤ L
section
variable {L M : Nat} {l a b c : List Nat}
theorem Seg.sub (h : Seg L l) (e : l = a ++ (b ++ c)) : Seg L b := fun p m s e2 n => h (a ++ p) m (s ++ c) (by rw [e, e2]; simp) n
theorem Seg.short : Seg l.length l := fun p m s e _ => by rw [e, List.length_append, List.length_append]; omega
theorem Seg.mono (h : Seg L l) (k : L ≤ M) : Seg M l := fun p m s e n => Nat.le_trans (h p m s e n) k
theorem Seg.cat (h : Seg L a) (k : Seg M b) : Seg (L + M) (a ++ b) := fun p m s e n => by
  rcases List.append_eq_append_iff.mp e with ⟨t, e1, e2⟩ | ⟨t, e1, e2⟩
  · have := k t m s e2 n
    omega
  · rcases List.append_eq_append_iff.mp e2 with ⟨u, f1, f2⟩ | ⟨u, f1, f2⟩
    · have := h p m u (by rw [e1, f1]) n
      omega
    · have n1 : 10 ∉ t := fun z => n (by rw [f1]; exact List.mem_append_left _ z)
      have n2 : 10 ∉ u := fun z => n (by rw [f1]; exact List.mem_append_right _ z)
      have h1 := h p t [] (by rw [e1, List.append_nil]) n1
      have h2 := k [] u s f2 n2
      rw [f1, List.length_append]
      omega
theorem Seg.nl (h : Seg L a) (k : Seg L b) : Seg L (a ++ 10 :: b) := fun p m s e n => by
  rcases List.append_eq_append_iff.mp e with ⟨t, e1, e2⟩ | ⟨t, e1, e2⟩
  · cases t with
    | nil =>
      cases m with
      | nil => exact Nat.zero_le _
      | cons x m =>
        injection e2 with e3 e4
        exact absurd (by rw [e3]; exact List.mem_cons_self) n
    | cons x t =>
      injection e2 with e3 e4
      exact k t m s e4 n
  · rcases List.append_eq_append_iff.mp e2 with ⟨u, f1, f2⟩ | ⟨u, f1, f2⟩
    · exact h p m u (by rw [e1, f1]) n
    · cases u with
      | nil =>
        rw [List.append_nil] at f1
        rw [f1] at n ⊢
        exact h p t [] (by rw [e1, List.append_nil]) n
      | cons x u =>
        injection f2 with e3 e4
        exact absurd (by rw [f1, e3]; exact List.mem_append_right _ List.mem_cons_self) n
end
theorem Seg.join {L : Nat} : ∀ {ps : List (List Nat)}, (∀ p ∈ ps, Seg L p) → Seg L (joinL [10] ps)
  | [], _ => fun p m s e _ => by
    have e2 := congrArg List.length e
    rw [List.length_append, List.length_append] at e2
    have e3 : (joinL [10] ([] : List (List Nat))).length = 0 := rfl
    omega
  | [p], h => h p List.mem_cons_self
  | p :: q :: r, h => Seg.nl (h p List.mem_cons_self) (Seg.join fun y m => h y (List.mem_cons_of_mem _ m))
theorem spl_seg {L : Nat} : ∀ (l acc : List Nat), 10 ∉ acc → Seg L (acc ++ l) → ∀ p ∈ spl [10] 0 acc l, p.length ≤ L
  | [], acc, n, h, p, m => by
    rw [spl_nil] at m
    rw [List.mem_singleton.mp m]
    exact h [] acc [] (by simp) n
  | c :: r, acc, n, h, p, m => by
    by_cases e : pre [10] (c :: r) = true
    · rw [spl_hit e] at m
      rcases List.mem_cons.mp m with rfl | m
      · exact h [] p (c :: r) rfl n
      · exact spl_seg r [] (by simp) (h.sub (a := acc ++ [c]) (b := [] ++ r) (c := []) (by simp)) p m
    · have e2 : pre [10] (c :: r) = false := by simpa using e
      rw [spl_miss e2] at m
      refine spl_seg r (acc ++ [c]) (fun z => ?_) (by rw [List.append_assoc]; exact h) p m
      rcases List.mem_append.mp z with z | z
      · exact n z
      · have hc : 10 = c := List.mem_singleton.mp z
        rw [← hc] at e2
        exact absurd e2 (by simp [pre])
theorem lines_le {L : Nat} {z : Str} (h : Seg L (tl z)) : ∀ p ∈ Txt.split z nl, p.length ≤ L := fun p hp => by
  have e := split_spl z nl (by decide +kernel) (kind_ok (by decide +kernel))
  have hm : tl p ∈ spl [10] 0 [] (tl z) := by
    rw [← tl_nl, ← e]
    exact List.mem_map.mpr ⟨p, hp, rfl⟩
  rw [len_tl]
  exact spl_seg _ _ (by simp) h _ hm
/-! ### lengths of what is joined -/
def wsum (ps : List Str) : Nat := (ps.map fun p => p.length + 1).sum
theorem wsum_cons (p : Str) (ps : List Str) : wsum (p :: ps) = p.length + 1 + wsum ps := by unfold wsum; rw [List.map_cons, List.sum_cons]
theorem wsum_app : ∀ (ps qs : List Str), wsum (ps ++ qs) = wsum ps + wsum qs
  | [], qs => by show wsum qs = 0 + wsum qs; omega
  | p :: ps, qs => by rw [List.cons_append, wsum_cons, wsum_cons, wsum_app ps]; omega
theorem wsum_sub {ps qs : List Str} (h : ps.Sublist qs) : wsum ps ≤ wsum qs := by
  induction h with
  | slnil => exact Nat.le_refl _
  | cons p h ih => rw [wsum_cons]; omega
  | cons_cons p h ih => rw [wsum_cons, wsum_cons]; omega
theorem wsum_mem {ps : List Str} {p : Str} (h : p ∈ ps) : p.length + 1 ≤ wsum ps := by
  induction ps with
  | nil => cases h
  | cons q ps ih =>
    rw [wsum_cons]
    rcases List.mem_cons.mp h with rfl | h
    · omega
    · have := ih h
      omega
theorem spl_w (c : Nat) : ∀ (l acc : List Nat), ((spl [c] 0 acc l).map fun p => p.length + 1).sum = acc.length + l.length + 1
  | [], acc => by rw [spl_nil]; simp
  | x :: r, acc => by
    by_cases e : pre [c] (x :: r) = true
    · rw [spl_hit e, List.map_cons, List.sum_cons]
      have := spl_w c r []
      show acc.length + 1 + ((spl [c] 0 [] r).map fun p => p.length + 1).sum = _
      rw [this, List.length_cons, List.length_nil]
      omega
    · rw [spl_miss (by simpa using e), spl_w c r, List.length_append, List.length_cons, List.length_cons, List.length_nil]
      omega
theorem split_w {z y : Str} {c : Nat} (hy : tl y = [c]) (hk : y.cps.all (· < 256) = true) : wsum (Txt.split z y) = z.length + 1 := by
  have e := split_spl z y (by rw [hy]; simp) (kind_ok hk)
  have e2 : wsum (Txt.split z y) = (((Txt.split z y).map tl).map fun p => p.length + 1).sum := by
    unfold wsum
    rw [List.map_map]
    exact congrArg List.sum (List.map_congr_left fun p _ => by rw [len_tl]; rfl)
  rw [e2, e, hy, spl_w, len_tl z]
  simp
theorem joinL_w (c : Nat) : ∀ ps : List (List Nat), (joinL [c] ps).length ≤ (ps.map fun p => p.length + 1).sum
  | [] => Nat.le_refl _
  | [p] => by show p.length ≤ p.length + 1 + 0; omega
  | p :: q :: r => by
    have := joinL_w c (q :: r)
    show (p ++ ([c] ++ joinL [c] (q :: r))).length ≤ _
    rw [List.length_append, List.length_append, List.map_cons, List.sum_cons, List.length_singleton]
    omega
theorem join_w {y : Str} {c : Nat} (hy : tl y = [c]) (ps : List Str) : (Txt.join y ps).length ≤ wsum ps := by
  rw [len_tl, tl_joinT, hy]
  have := joinL_w c (ps.map tl)
  rw [List.map_map] at this
  refine Nat.le_trans this (Nat.le_of_eq ?_)
  unfold wsum
  exact congrArg List.sum (List.map_congr_left fun p _ => by show (tl p).length + 1 = _; rw [len_tl])
theorem join_ok {y : Str} (hy : PyData.strOk y = true) {ps : List Str} (h : ∀ p ∈ ps, PyData.strOk p = true) : PyData.strOk (Txt.join y ps) = true := strOk_iff.mpr fun c hc => by
  rw [tl_joinT] at hc
  rcases joinL_mem hc with hc | ⟨p, m, hc⟩
  · exact strOk_iff.mp hy c hc
  · obtain ⟨q, m2, rfl⟩ := List.mem_map.mp m
    exact strOk_iff.mp (h q m2) c hc
theorem cut_sub (z : Str) (lo hi : Option Int) : ∃ a c, tl z = a ++ (tl (cutS z lo hi) ++ c) := by
  refine ⟨(tl z).take (HT.sIx z.length 0 lo), ((tl z).drop (HT.sIx z.length 0 lo)).drop (HT.sIx z.length z.length hi - HT.sIx z.length 0 lo), ?_⟩
  show tl z = _ ++ (((tl z).drop (HT.sIx z.length 0 lo)).take (HT.sIx z.length z.length hi - HT.sIx z.length 0 lo) ++ _)
  rw [List.take_append_drop, List.take_append_drop]
theorem cut_ok {z : Str} (h : PyData.strOk z = true) (lo hi : Option Int) : PyData.strOk (cutS z lo hi) = true := strOk_iff.mpr fun c hc => by
  obtain ⟨a, d, e⟩ := cut_sub z lo hi
  exact strOk_iff.mp h c (by rw [e]; exact List.mem_append_right _ (List.mem_append_left _ hc))
theorem cut_len (z : Str) (lo hi : Option Int) : (cutS z lo hi).length ≤ z.length := by
  obtain ⟨a, d, e⟩ := cut_sub z lo hi
  rw [len_tl z, e, len_tl, List.length_append, List.length_append]
  omega
theorem cutV_sub {α : Type} (xs : List V) (lo hi : Option Int) : (cutV xs lo hi).Sublist xs := by
  unfold cutV
  exact (List.take_sublist _ _).trans (List.drop_sublist _ _)
/-! ### a text and what it's told otherwise -/
structure TxOk (N L : Nat) (z : Str) : Prop where
  len : z.length ≤ N
  ok : PyData.strOk z = true
  seg : Seg L (tl z)
theorem TxOk.rows {N L M : Nat} {z : Str} (h : TxOk N L z) (hM : L ≤ M) {A B X : List Str} (a : A.Sublist (Txt.split z nl)) (b : B.Sublist (Txt.split z nl)) (ab : wsum A + wsum B ≤ wsum (Txt.split z nl)) (x : ∀ p ∈ X, p.length ≤ M ∧ PyData.strOk p = true) : TxOk (N + 1 + wsum X) M (Txt.join nl (A ++ X ++ B)) := by
  have hw := split_w (z := z) (y := nl) tl_nl (by decide +kernel)
  have hl := lines_le h.seg
  have ho := split_ok (y := nl) (by decide +kernel) (by decide +kernel) h.ok
  have all : ∀ p ∈ A ++ X ++ B, p.length ≤ M ∧ PyData.strOk p = true := fun p m => by
    rcases List.mem_append.mp m with m | m
    · rcases List.mem_append.mp m with m | m
      · exact ⟨Nat.le_trans (hl p (a.subset m)) hM, ho p (a.subset m)⟩
      · exact x p m
    · exact ⟨Nat.le_trans (hl p (b.subset m)) hM, ho p (b.subset m)⟩
  refine ⟨Nat.le_trans (join_w tl_nl _) ?_, join_ok (by decide +kernel) fun p m => (all p m).2, ?_⟩
  · rw [wsum_app, wsum_app]
    have := h.len
    omega
  · rw [tl_joinT, tl_nl]
    exact Seg.join fun p m => by
      obtain ⟨q, m2, rfl⟩ := List.mem_map.mp m
      exact Seg.mono Seg.short (by rw [← len_tl]; exact (all q m2).1)
end Mh
/-! MhLChg -/
namespace Mh
open PySem PySem.Spec PyProof.Rows L2 TL
theorem off_fx5 {dd : Addr} {H0 H : Hp} {s : Dice} (D : Dc dd H0 H s) (n : Int) : Dc dd H0 (upd H dd (.lst (off s n).2.l)) (off s n).2 ∧ Fx [dd] H (upd H dd (.lst (off s n).2.l)) := by
  have f : Fx [dd] H (upd H dd (.lst (off s n).2.l)) := Fx.set List.mem_cons_self (Chg.lst D.h)
  exact ⟨⟨D.f.trans f, upd_same, off_ok D.ok n⟩, f⟩
theorem na1 {a b : Addr} (h : a ≠ b) : a ∉ [b] := fun m => h (List.mem_singleton.mp m)
theorem cutM_to {ls : List Str} {n : Nat} : cutV (ls.map V.str) none (some (n : Int)) = (ls.take n).map V.str := by
  unfold cutV
  rw [HT.sIx_none, HT.sIx_nat, List.drop_zero, Nat.sub_zero, List.map_take]
  rcases Nat.le_total n (ls.map V.str).length with h | h
  · rw [Nat.min_eq_left h]
  · rw [Nat.min_eq_right h, List.take_length, List.take_of_length_le h]
theorem cutM_from {ls : List Str} {n : Nat} : cutV (ls.map V.str) (some (n : Int)) none = (ls.drop n).map V.str := by
  unfold cutV
  rw [HT.sIx_none, HT.sIx_nat, List.map_drop]
  rw [List.take_of_length_le (by rw [List.length_drop]; exact Nat.le_refl _)]
  rcases Nat.le_total n (ls.map V.str).length with h | h
  · rw [Nat.min_eq_left h]
  · rw [Nat.min_eq_right h, List.drop_length, List.drop_eq_nil_of_le h]
theorem cutM_gen (ls : List Str) (lo hi : Option Int) : ∃ B : List Str, cutV (ls.map V.str) lo hi = B.map V.str ∧ B.Sublist ls := by
  unfold cutV
  rw [List.length_map]
  exact ⟨(ls.drop (HT.sIx ls.length 0 lo)).take (HT.sIx ls.length ls.length hi - HT.sIx ls.length 0 lo), by rw [List.map_take, List.map_drop], (List.take_sublist _ _).trans (List.drop_sublist _ _)⟩
theorem cutM_one (ls : List Str) (n : Nat) : ∃ B : List Str, cutV (ls.map V.str) (some (n : Int)) (some ((n : Int) + 1)) = B.map V.str ∧ B.Sublist ls ∧ B.length ≤ 1 := by
  unfold cutV
  rw [List.length_map, HT.sIx_nat, show ((n : Int) + 1) = ((n + 1 : Nat) : Int) from rfl, HT.sIx_nat]
  exact ⟨(ls.drop (min n ls.length)).take (min (n + 1) ls.length - min n ls.length), by rw [List.map_take, List.map_drop], (List.take_sublist _ _).trans (List.drop_sublist _ _), by rw [List.length_take]; omega⟩
theorem wsum_one {B : List Str} {L : Nat} (h : B.length ≤ 1) (k : ∀ p ∈ B, p.length ≤ L) : wsum B ≤ L + 1 := by
  match B, h with
  | [], _ => exact Nat.zero_le _
  | [p], _ =>
    have := k p List.mem_cons_self
    show p.length + 1 + 0 ≤ _
    omega
def OD1 : List Str := ["", "0", "00", "-0", "-1", "-9999", "9999", "10000", "1", "99", "100", "any", "below", "rest", "chance"]
def OD2 : List Str := ["known", "num", "plus", "times", "none", "3,5", "5,3", "3,3", "3,", "1,2,3,4,5,6,7,8"]
def OD3 : List Str := ["1,2,3,4,5,6,7,8,9", "x"]
theorem od_ok : ∀ y ∈ OD1 ++ OD2 ++ OD3, y.length ≤ 17 ∧ PyData.strOk y = true := by decide +kernel
theorem dp_strs {K : PySem.W.Frag} {H : Hp} : ∀ {l : List Str} {vs : List V}, DpAll K H vs (l.map .str) → vs = l.map V.str
  | [], _, h => by cases h; rfl
  | z :: l, _, h => by
    cases h with
    | cons k t =>
      cases k
      rw [dp_strs t]
      rfl
theorem tl_cutTo {z : Str} {n : Nat} : tl (cutS z none (some (n : Int))) = (tl z).take n := by
  show ((tl z).drop (HT.sIx z.length 0 none)).take (HT.sIx z.length z.length (some (n : Int)) - HT.sIx z.length 0 none) = _
  rw [HT.sIx_none, HT.sIx_nat, List.drop_zero, Nat.sub_zero, len_tl]
  rcases Nat.le_total n (tl z).length with h | h
  · rw [Nat.min_eq_left h]
  · rw [Nat.min_eq_right h, List.take_length, List.take_of_length_le h]
theorem tl_cutFrom {z : Str} {n : Nat} : tl (cutS z (some (n : Int)) none) = (tl z).drop n := by
  show ((tl z).drop (HT.sIx z.length 0 (some (n : Int)))).take (HT.sIx z.length z.length none - HT.sIx z.length 0 (some (n : Int))) = _
  rw [HT.sIx_none, HT.sIx_nat, len_tl]
  rw [List.take_of_length_le (by rw [List.length_drop]; exact Nat.le_refl _)]
  rcases Nat.le_total n (tl z).length with h | h
  · rw [Nat.min_eq_left h]
  · rw [Nat.min_eq_right h, List.drop_length, List.drop_eq_nil_of_le h]
theorem app_ok {x y : Str} (hx : PyData.strOk x = true) (hy : PyData.strOk y = true) : PyData.strOk (x ++ y) = true := strOk_iff.mpr fun c hc => by
  rw [tl_append] at hc
  exact (List.mem_append.mp hc).elim (strOk_iff.mp hx c) (strOk_iff.mp hy c)
theorem TxOk.sign {N L : Nat} {z sg : Str} (h : TxOk N L z) (k : Nat) (s1 : sg.length ≤ 1) (s2 : PyData.strOk sg = true) : TxOk (N + 1) (L + 1 + L) (cutS z none (some (k : Int)) ++ sg ++ cutS z (some ((k : Int) + 1)) none) := by
  have eC : tl (cutS z (some ((k : Int) + 1)) none) = (tl z).drop (k + 1) := tl_cutFrom (n := k + 1)
  refine ⟨?_, app_ok (app_ok (cut_ok h.ok _ _) s2) (cut_ok h.ok _ _), ?_⟩
  · rw [len_tl, tl_append, tl_append, tl_cutTo, eC, List.length_append, List.length_append, List.length_take, List.length_drop, ← len_tl, ← len_tl]
    have := h.len
    omega
  · rw [tl_append, tl_append]
    obtain ⟨a, c, e⟩ := cut_sub z none (some (k : Int))
    obtain ⟨a2, c2, e2⟩ := cut_sub z (some ((k : Int) + 1)) none
    exact ((h.seg.sub e).cat (Seg.short.mono (by rw [← len_tl]; exact s1))).cat (h.seg.sub e2)
theorem jsum (ys : List Str) : (ys.map (·.length)).sum + ys.length * 1 = wsum ys := by
  induction ys with
  | nil => rfl
  | cons y ys ih =>
    rw [wsum_cons, List.map_cons, List.sum_cons, List.length_cons]
    omega
theorem wsum_len (ys : List Str) : ys.length ≤ wsum ys := by rw [← jsum]; omega
theorem sc_l_changed : FnScope ["_law_d", "_law_text", "_law_rows", "_law_at", "_law_kind", "_law_words", "_law_j", "_law_odd", "_law_place"] ["_law_d", "_law_text"] (defScope s_l_changed) := ⟨rfl, rfl, rfl, by decide +kernel, rfl, by decide +kernel, by decide +kernel⟩
def spChg (K : PySem.W.Frag) : Sp := fun vs H Q _ => ∃ (dd : Addr) (s : Dice) (z : Str) (N L : Nat), vs = [.ref dd, .str z] ∧ H dd = some (.lst s.l) ∧ s.ok ∧ TxOk N L z ∧ N ≤ 100000 ∧ L ≤ 10000 ∧
  ∀ H' s' z', Dc dd H H' s' → TxOk (N + 4 * L + 60) (2 * L + 40) z' → Q (.str z') H'
theorem ok_l_changed {P : Program} {w : World} {K : PySem.W.Frag} {mg : Str → Option Value} {base : Heap} (T : Tx K mg) : Def P w K mg base CX0 2 "_law_changed" ["_law_d", "_law_text"] (spChg K) := by
  obtain ⟨fd, F⟩ := T.d_l_changed
  have G__law_off := ok_l_off (P := P) (w := w) (base := base) T
  refine ⟨_, fd, F.ok sc_l_changed (fun vs H Q E h => ?_) (fun cdv A outer s H vs Q E hr h => ?_), F.bindsN fun _ _ _ _ _ _ us hl => match us, hl with | [_, _], _ => rfl, T.g_l_changed, F.kp⟩
  · obtain ⟨dd, s, z, N, L, rfl, _⟩ := h
    rfl
  · obtain ⟨dd, s, z, N, L, rfl, hd, hs, hz, hN, hL, q⟩ := h
    refine ⟨_, PSs.nox (pss_cons (ps_set (i := 2) sc_l_changed.nd rfl (by first | exact Or.inl rfl | exact Or.inr rfl) (pe_split (pv 1) pe_str))
        (pss_cons (ps_set (i := 3) sc_l_changed.nd rfl (by first | exact Or.inl rfl | exact Or.inr rfl) (pe_def G__law_off (hr.mono (by omega)) pass0 (pa_cons (pv 0) (pa_cons (pe_callB call_len_seq (by rfl) T.f_len (by decide +kernel) (pa_cons (pv 2) pa_nil)) pa_nil))))
        (pss_cons (ps_set (i := 4) sc_l_changed.nd rfl (by first | exact Or.inl rfl | exact Or.inr rfl) (pe_def G__law_off (hr.mono (by omega)) pass0 (pa_cons (pv 0) (pa_cons pe_int pa_nil))))
        (pss_cons (ps_if (pt_cmpR op_lt (pv 4) pe_int (nomark _))
        (pss_one (ps_ret (pe_join pe_str (pe_op op_cat (pe_op op_cat (pe_slice sl_list (pv 2) po_none (po_some (pv 3))) (pe_ix ix_list (pe_lst (pa_cons (pe_lst pa_nil) (pa_cons (pe_op op_rep (pe_slice sl_list (pv 2) (po_some (pv 3)) (po_some (pe_op op_add (pv 3) pe_int))) pe_int) pa_nil))) (pv 4) (fun _ _ => rfl))) (pe_slice sl_list (pv 2) (po_some (pe_op op_add (pv 3) pe_int)) po_none)))))
        pss_nil)
        (pss_cons (ps_set (i := 5) sc_l_changed.nd rfl (by first | exact Or.inl rfl | exact Or.inr rfl) (pe_split (pe_ix ix_list (pv 2) (pv 3) (fun _ _ => rfl)) pe_str))
        (pss_cons (ps_set (i := 6) sc_l_changed.nd rfl (by first | exact Or.inl rfl | exact Or.inr rfl) (pe_def G__law_off (hr.mono (by omega)) pass0 (pa_cons (pv 0) (pa_cons (pe_callB call_len_seq (by rfl) T.f_len (by decide +kernel) (pa_cons (pv 5) pa_nil)) pa_nil))))
        (pss_cons (ps_set (i := 7) sc_l_changed.nd rfl (by first | exact Or.inl rfl | exact Or.inr rfl) (pe_lit (K := K) (pds_cons (pd_c pe_str (fun _ => .str _) rfl) (pds_cons (pd_c pe_str (fun _ => .str _) rfl) (pds_cons (pd_c pe_str (fun _ => .str _) rfl) (pds_cons (pd_c pe_str (fun _ => .str _) rfl) (pds_cons (pd_c pe_str (fun _ => .str _) rfl) (pds_cons (pd_c pe_str (fun _ => .str _) rfl) (pds_cons (pd_c pe_str (fun _ => .str _) rfl) (pds_cons (pd_c pe_str (fun _ => .str _) rfl) (pds_cons (pd_c pe_str (fun _ => .str _) rfl) (pds_cons (pd_c pe_str (fun _ => .str _) rfl) (pds_cons (pd_c pe_str (fun _ => .str _) rfl) (pds_cons (pd_c pe_str (fun _ => .str _) rfl) (pds_cons (pd_c pe_str (fun _ => .str _) rfl) (pds_cons (pd_c pe_str (fun _ => .str _) rfl) (pds_cons (pd_c pe_str (fun _ => .str _) rfl) pds_nil)))))))))))))))))
        (pss_cons (ps_set (i := 7) sc_l_changed.nd rfl (by first | exact Or.inl rfl | exact Or.inr rfl) (pe_op op_cat (pv 7) (pe_lit (K := K) (pds_cons (pd_c pe_str (fun _ => .str _) rfl) (pds_cons (pd_c pe_str (fun _ => .str _) rfl) (pds_cons (pd_c pe_str (fun _ => .str _) rfl) (pds_cons (pd_c pe_str (fun _ => .str _) rfl) (pds_cons (pd_c pe_str (fun _ => .str _) rfl) (pds_cons (pd_c pe_str (fun _ => .str _) rfl) (pds_cons (pd_c pe_str (fun _ => .str _) rfl) (pds_cons (pd_c pe_str (fun _ => .str _) rfl) (pds_cons (pd_c pe_str (fun _ => .str _) rfl) (pds_cons (pd_c pe_str (fun _ => .str _) rfl) pds_nil)))))))))))))
        (pss_cons (ps_set (i := 7) sc_l_changed.nd rfl (by first | exact Or.inl rfl | exact Or.inr rfl) (pe_op op_cat (pv 7) (pe_lit (K := K) (pds_cons (pd_c pe_str (fun _ => .str _) rfl) (pds_cons (pd_c pe_str (fun _ => .str _) rfl) pds_nil)))))
        (pss_cons (ps_if (pt_cmpR op_lt (pv 4) pe_int (nomark _))
        (pss_cons (ps_set (i := 5) sc_l_changed.nd rfl (by first | exact Or.inl rfl | exact Or.inr rfl) (pe_op op_cat (pe_op op_cat (pe_slice sl_list (pv 5) po_none (po_some (pv 6))) (pe_lst (pa_cons (pe_ix ix_list (pv 7) (pe_def G__law_off (hr.mono (by omega)) pass0 (pa_cons (pv 0) (pa_cons pe_int pa_nil))) (fun _ _ => rfl)) pa_nil))) (pe_slice sl_list (pv 5) (po_some (pe_op op_sub (pe_op op_add (pv 6) (pv 4)) pe_int)) po_none)))
        (pss_one (ps_ret (pe_join pe_str (pe_op op_cat (pe_op op_cat (pe_slice sl_list (pv 2) po_none (po_some (pv 3))) (pe_lst (pa_cons (pe_join pe_str (pv 5)) pa_nil))) (pe_slice sl_list (pv 2) (po_some (pe_op op_add (pv 3) pe_int)) po_none))))))
        pss_nil)
        (pss_cons (ps_set (i := 8) sc_l_changed.nd rfl (by first | exact Or.inl rfl | exact Or.inr rfl) (pe_def G__law_off (hr.mono (by omega)) pass0 (pa_cons (pv 0) (pa_cons (pe_op op_add (pe_callB call_len_str (by rfl) T.f_len (by decide +kernel) (pa_cons (pv 1) pa_nil)) pe_int) pa_nil))))
        (pss_one (ps_ret (pe_op op_add_str (pe_op op_add_str (pe_slice sl_str (pv 1) po_none (po_some (pv 8))) (pe_op op_repS (pe_ix ix_str pe_str (pe_def G__law_off (hr.mono (by omega)) pass0 (pa_cons (pv 0) (pa_cons pe_int pa_nil))) (fun _ _ => rfl)) (pe_callTy call_int1 (by rfl) T.f_int (by decide +kernel) (pa_cons (pe_cmpR op_eq (pv 4) pe_int (nomark _)) pa_nil)))) (pe_slice sl_str (pv 1) (po_some (pe_op op_add (pv 8) pe_int)) po_none))))))))))))))), ?_⟩
    have D0 : Dc dd H H s := ⟨.refl, hd, hs⟩
    have hzl := hz.len
    refine ⟨_, rfl, ⟨_, rfl⟩, z, nl, rfl, rfl, by decide +kernel, Nat.le_trans (m := 500000) (by omega) (by decide), fun p hp => ?_⟩
    have hpn := PyProof.Rows.split_le z nl
    have hw := split_w (z := z) (y := nl) tl_nl (by decide +kernel)
    have hll := lines_le hz.seg
    have hlo := split_ok (y := nl) (by decide +kernel) (by decide +kernel) hz.ok
    have hlen : 0 < (Txt.split z nl).length := by
      cases e : Txt.split z nl with
      | nil => rw [e] at hw; cases hw
      | cons _ _ => simp
    have rows := fun {M A B X} => TxOk.rows (M := M) (A := A) (B := B) (X := X) hz
    generalize Txt.split z nl = ls at hpn hw hll hlo hlen rows
    have f1 : Fx [] H (upd H p (.lst (ls.map V.str))) := Fx.new hp
    have hp1 : upd H p (.lst (ls.map V.str)) p = some (.lst (ls.map V.str)) := upd_same
    have npd : p ≠ dd := D0.ne hp
    have D1 := D0.mv f1
    generalize upd H p (.lst (ls.map V.str)) = H1 at f1 hp1 D1
    refine ⟨.ref dd, rfl, _, rfl, p, _, rfl, .inl (SqL.of hp1), dd, s, ((ls.map V.str).length : Nat), rfl, D1.h, D1.ok, by rw [List.length_map]; omega, by rw [List.length_map]; omega, ?_⟩
    obtain ⟨D2, f2⟩ := off_fx5 D1 (((ls.map V.str).length : Nat) : Int)
    generalize upd H1 dd (.lst (off s (((ls.map V.str).length : Nat) : Int)).2.l) = H2 at D2 f2
    obtain ⟨at_, hat, ea⟩ : ∃ k : Nat, k < ls.length ∧ (off s (((ls.map V.str).length : Nat) : Int)).1 = (k : Int) := by
      have r := off_range s (n := (((ls.map V.str).length : Nat) : Int)) (by rw [List.length_map]; omega)
      rw [List.length_map] at r ⊢
      exact ⟨(off s ((ls.length : Nat) : Int)).1.toNat, by omega, by omega⟩
    rw [ea]
    have hp2 := f2.to hp1 (na1 npd)
    generalize (off s (((ls.map V.str).length : Nat) : Int)).2 = s2 at D2
    clear ea f2 hp1 D1
    refine rd_off rfl D2 ⟨by decide, by decide⟩ fun H3 D3 f3 => ?_
    have hp3 := f3.to hp2 (na1 npd)
    have r7 := off_range s2 (n := 7) (by decide)
    generalize (off s2 7).1 = kd at r7
    generalize (off s2 7).2 = s3 at D3
    clear f3 hp2 D2
    have hpl : ls.length ≤ 100002 := by omega
    have wtd : wsum (ls.take at_) + wsum (ls.drop (at_ + 1)) ≤ wsum ls := by
      have e : wsum ls = wsum (ls.take at_) + wsum (ls.drop at_) := by rw [← wsum_app, List.take_append_drop]
      have h := wsum_sub (show (ls.drop (at_ + 1)).Sublist (ls.drop at_) by rw [← List.drop_drop]; exact List.drop_sublist _ _)
      omega
    have tw := wsum_sub (List.take_sublist at_ ls)
    have dw := wsum_sub (List.drop_sublist (at_ + 1) ls)
    have tl1 := wsum_len (ls.take at_)
    have dl1 := wsum_len (ls.drop (at_ + 1))
    refine ⟨_, rfl, _, _, rfl, rfl, _, rfl, ifB (fun c => ?_) (fun c => ?_)⟩
    · have c : kd < 2 := of_decide_eq_true c
      refine ⟨⟨_, rfl⟩, _, rfl, _, rfl, _, rfl, p, _, rfl, SqL.of hp3, fun q1 hq1 => ?_⟩
      rw [cutM_to]
      have g1 : Fx [] H3 (upd H3 q1 (.lst ((ls.take at_).map V.str))) := Fx.new hq1
      have e1 : upd H3 q1 (.lst ((ls.take at_).map V.str)) q1 = some (.lst ((ls.take at_).map V.str)) := upd_same
      generalize upd H3 q1 (.lst ((ls.take at_).map V.str)) = H4 at g1 e1
      refine ⟨by show 0 ≤ sizeLine; decide, fun q2 hq2 => ?_⟩
      have g2 : Fx [] H4 (upd H4 q2 (.lst [])) := Fx.new hq2
      have e2 : upd H4 q2 (.lst []) q2 = some (.lst []) := upd_same
      generalize upd H4 q2 (.lst []) = H5 at g2 e2
      refine ⟨_, rfl, _, rfl, _, rfl, _, rfl, _, _, rfl, rfl, _, rfl, p, _, rfl, SqL.of ((g1.trans g2).to hp3 fun z => nomatch z), fun q3 hq3 => ?_⟩
      obtain ⟨B, eB, sB, lB⟩ := cutM_one ls at_
      rw [eB]
      have g3 : Fx [] H5 (upd H5 q3 (.lst (B.map V.str))) := Fx.new hq3
      have e3 : upd H5 q3 (.lst (B.map V.str)) q3 = some (.lst (B.map V.str)) := upd_same
      generalize upd H5 q3 (.lst (B.map V.str)) = H6 at g3 e3
      have hlB : (B.map V.str).length ≤ 1 := by rw [List.length_map]; exact lB
      refine ⟨q3, 2, _, rfl, rfl, e3, by decide, by decide, Nat.le_trans (m := 1000) (by show (B.map V.str).length * 2 ≤ 1000; omega) (by decide), fun q4 hq4 => ?_⟩
      rw [show (List.replicate (2 : Int).toNat (B.map V.str)).flatten = (B ++ B).map V.str by rw [List.map_append]; show B.map V.str ++ (B.map V.str ++ []) = _; rw [List.append_nil]]
      have g4 : Fx [] H6 (upd H6 q4 (.lst ((B ++ B).map V.str))) := Fx.new hq4
      have e4 : upd H6 q4 (.lst ((B ++ B).map V.str)) q4 = some (.lst ((B ++ B).map V.str)) := upd_same
      generalize upd H6 q4 (.lst ((B ++ B).map V.str)) = H7 at g4 e4
      refine ⟨by show 2 ≤ sizeLine; decide, fun q5 hq5 => ?_⟩
      have g5 : Fx [] H7 (upd H7 q5 (.lst [.ref q2, .ref q4])) := Fx.new hq5
      have e5 : upd H7 q5 (.lst [.ref q2, .ref q4]) q5 = some (.lst [.ref q2, .ref q4]) := upd_same
      generalize upd H7 q5 (.lst [.ref q2, .ref q4]) = H8 at g5 e5
      have g38 : Fx [] H4 H8 := ((g2.trans g3).trans g4).trans g5
      obtain ⟨X, qx, hqx, eX, hX, wX⟩ : ∃ (X : List Str) (qx : Addr), atI [V.ref q2, .ref q4] kd = some (.ref qx) ∧ H8 qx = some (.lst (X.map V.str)) ∧ (∀ y ∈ X, y.length ≤ L ∧ PyData.strOk y = true) ∧ wsum X ≤ 2 * L + 2 := by
        rcases (show kd = 0 ∨ kd = 1 by omega) with rfl | rfl
        · exact ⟨[], q2, atI_nat (j := 0) rfl, ((g3.trans g4).trans g5).to e2 (fun z => nomatch z), (fun _ m => nomatch m), Nat.zero_le _⟩
        · refine ⟨B ++ B, q4, atI_nat (j := 1) rfl, g5.to e4 (fun z => nomatch z), fun y m => ?_, ?_⟩
          · have m : y ∈ B := (List.mem_append.mp m).elim id id
            exact ⟨hll y (sB.subset m), hlo y (sB.subset m)⟩
          · have := wsum_one lB fun y m => hll y (sB.subset m)
            rw [wsum_app]
            omega
      have xl := wsum_len X
      refine ⟨_, rfl, q5, _, kd, .ref qx, rfl, rfl, SqL.of e5, hqx, ?_⟩
      refine ⟨q1, qx, _, _, rfl, rfl, g38.to e1 (fun z => nomatch z), eX, Nat.le_trans (m := 500000) (by rw [List.length_map, List.length_map]; omega) (by decide), fun q6 hq6 => ?_⟩
      rw [← List.map_append]
      have g6 : Fx [] H8 (upd H8 q6 (.lst ((ls.take at_ ++ X).map V.str))) := Fx.new hq6
      have e6 : upd H8 q6 (.lst ((ls.take at_ ++ X).map V.str)) q6 = some (.lst ((ls.take at_ ++ X).map V.str)) := upd_same
      generalize upd H8 q6 (.lst ((ls.take at_ ++ X).map V.str)) = H9 at g6 e6
      have g39 := (g1.trans g38).trans g6
      refine ⟨_, rfl, _, rfl, _, _, rfl, rfl, _, rfl, p, _, rfl, SqL.of (g39.to hp3 fun z => nomatch z), fun q7 hq7 => ?_⟩
      rw [show cutV (ls.map V.str) (some ((at_ : Int) + 1)) none = (ls.drop (at_ + 1)).map V.str from cutM_from (n := at_ + 1)]
      have g7 : Fx [] H9 (upd H9 q7 (.lst ((ls.drop (at_ + 1)).map V.str))) := Fx.new hq7
      have e7 : upd H9 q7 (.lst ((ls.drop (at_ + 1)).map V.str)) q7 = some (.lst ((ls.drop (at_ + 1)).map V.str)) := upd_same
      generalize upd H9 q7 (.lst ((ls.drop (at_ + 1)).map V.str)) = H10 at g7 e7
      refine ⟨q6, q7, _, _, rfl, rfl, g7.to e6 (fun z => nomatch z), e7, Nat.le_trans (m := 500000) (by rw [List.length_map, List.length_map, List.length_append]; omega) (by decide), fun q8 hq8 => ?_⟩
      rw [← List.map_append]
      have g8 : Fx [] H10 (upd H10 q8 (.lst ((ls.take at_ ++ X ++ ls.drop (at_ + 1)).map V.str))) := Fx.new hq8
      refine ⟨nl, q8, ls.take at_ ++ X ++ ls.drop (at_ + 1), rfl, rfl, .inl (SqL.of upd_same), ?_, q _ s3 _ (D3.mv ((g39.trans g7).trans g8)) ?_⟩
      · rw [show nl.length = 1 from rfl, jsum, wsum_app, wsum_app]
        omega
      · have k := rows (M := L) (X := X) (Nat.le_refl L) (List.take_sublist at_ ls) (List.drop_sublist (at_ + 1) ls) wtd hX
        exact ⟨Nat.le_trans k.len (by omega), k.ok, k.seg.mono (by omega)⟩
    · have c : 2 ≤ kd := by have := of_decide_eq_false c; omega
      clear wtd
      have wtd : wsum (ls.take at_) + wsum (ls.drop (at_ + 1)) ≤ wsum ls := by
        have e : wsum ls = wsum (ls.take at_) + wsum (ls.drop at_) := by rw [← wsum_app, List.take_append_drop]
        have h := wsum_sub (show (ls.drop (at_ + 1)).Sublist (ls.drop at_) by rw [← List.drop_drop]; exact List.drop_sublist _ _)
        omega
      obtain ⟨row, hrow⟩ : ∃ y, ls[at_]? = some y := ⟨_, List.getElem?_eq_getElem hat⟩
      have hrm := List.mem_of_getElem? hrow
      have hrl := hll row hrm
      have hro := hlo row hrm
      refine ⟨_, rfl, _, rfl, p, _, _, .str row, rfl, rfl, SqL.of hp3, atI_nat (by rw [List.getElem?_map, hrow]; rfl), ⟨_, rfl⟩, row, blank, rfl, rfl, by decide +kernel, Nat.le_trans (m := 500000) (by omega) (by decide), fun pw hpw => ?_⟩
      have hwn := PyProof.Rows.split_le row blank
      have hww := split_w (z := row) (y := blank) (c := 32) (by decide +kernel) (by decide +kernel)
      have hwo := split_ok (y := blank) (by decide +kernel) (by decide +kernel) hro
      have hwl : 0 < (Txt.split row blank).length := by
        cases e : Txt.split row blank with
        | nil => rw [e] at hww; cases hww
        | cons _ _ => simp
      generalize Txt.split row blank = ws at hwn hww hwo hwl
      have g1 : Fx [] H3 (upd H3 pw (.lst (ws.map V.str))) := Fx.new hpw
      have e1 : upd H3 pw (.lst (ws.map V.str)) pw = some (.lst (ws.map V.str)) := upd_same
      have nwd : pw ≠ dd := D3.ne hpw
      have D4 := D3.mv g1
      have hp4 := g1.to hp3 fun z => nomatch z
      generalize upd H3 pw (.lst (ws.map V.str)) = H4 at g1 e1 D4 hp4
      clear D3 hp3 g1 hpw
      refine ⟨.ref dd, rfl, _, rfl, pw, _, rfl, .inl (SqL.of e1), dd, s3, ((ws.map V.str).length : Nat), rfl, D4.h, D4.ok, by rw [List.length_map]; omega, by rw [List.length_map]; omega, ?_⟩
      obtain ⟨D5, f5⟩ := off_fx5 D4 (((ws.map V.str).length : Nat) : Int)
      generalize upd H4 dd (.lst (off s3 (((ws.map V.str).length : Nat) : Int)).2.l) = H5 at D5 f5
      obtain ⟨j, hj, ej⟩ : ∃ k : Nat, k < ws.length ∧ (off s3 (((ws.map V.str).length : Nat) : Int)).1 = (k : Int) := by
        have r := off_range s3 (n := (((ws.map V.str).length : Nat) : Int)) (by rw [List.length_map]; omega)
        rw [List.length_map] at r ⊢
        exact ⟨(off s3 ((ws.length : Nat) : Int)).1.toNat, by omega, by omega⟩
      rw [ej]
      have hp5 := f5.to hp4 (na1 npd)
      have e1 := f5.to e1 (na1 nwd)
      generalize (off s3 (((ws.map V.str).length : Nat) : Int)).2 = s4 at D5
      clear ej f5 hp4 D4
      -- odd words
      refine ⟨OD1.map .str, by repeat' first | rfl | refine ⟨_, rfl, ?_⟩ | refine ⟨_, _, rfl, ?_, ?_⟩, fun Ha va pa fa ha0 ha ka => ?_⟩
      refine ⟨_, rfl, OD2.map .str, by repeat' first | rfl | refine ⟨_, rfl, ?_⟩ | refine ⟨_, _, rfl, ?_, ?_⟩, fun Hb vb pb fb hb0 hb kb => ⟨pa, pb, va, vb, rfl, rfl, fb.to ha (fun z => nomatch z), hb, by rw [ka.len, kb.len]; show 25 ≤ sizeLine; decide, fun pc hc => ?_⟩⟩
      have fc : Fx [] Hb (upd Hb pc (.lst (va ++ vb))) := Fx.new hc
      have ec : upd Hb pc (.lst (va ++ vb)) pc = some (.lst (va ++ vb)) := upd_same
      have lab : (va ++ vb).length = 25 := by rw [List.length_append, ka.len, kb.len]; rfl
      generalize upd Hb pc (.lst (va ++ vb)) = Hc at fc ec
      refine ⟨_, rfl, OD3.map .str, by repeat' first | rfl | refine ⟨_, rfl, ?_⟩ | refine ⟨_, _, rfl, ?_, ?_⟩, fun Hd vd pd fd hd0 hd3 kd3 => ⟨pc, pd, va ++ vb, vd, rfl, rfl, fd.to ec (fun z => nomatch z), hd3, by rw [lab, kd3.len]; show 27 ≤ sizeLine; decide, fun po hpo => ?_⟩⟩
      have ev : va ++ vb ++ vd = (OD1 ++ OD2 ++ OD3).map V.str := by
        rw [List.map_append, List.map_append, dp_strs ka.dp, dp_strs kb.dp, dp_strs kd3.dp]
      rw [ev]
      have fo : Fx [] Hd (upd Hd po (.lst ((OD1 ++ OD2 ++ OD3).map V.str))) := Fx.new hpo
      have eo : upd Hd po (.lst ((OD1 ++ OD2 ++ OD3).map V.str)) po = some (.lst ((OD1 ++ OD2 ++ OD3).map V.str)) := upd_same
      have f56 : Fx [] H5 (upd Hd po (.lst ((OD1 ++ OD2 ++ OD3).map V.str))) := (((fa.trans fb).trans fc).trans fd).trans fo
      have nod : po ≠ dd := (D5.mv (((fa.trans fb).trans fc).trans fd)).ne hpo
      generalize upd Hd po (.lst ((OD1 ++ OD2 ++ OD3).map V.str)) = H6 at fo eo f56
      have D6 := D5.mv f56
      have hp6 := f56.to hp5 fun z => nomatch z
      have e1 := f56.to e1 fun z => nomatch z
      clear D5 hp5 f56 fo hpo ev fd hd3 hd0 kd3 lab ec fc hc hb hb0 kb ha ha0 ka fa fb
      refine ⟨_, rfl, _, _, rfl, rfl, _, rfl, ifB (fun c5 => ?_) (fun c5 => ?_)⟩
      · refine ⟨_, rfl, _, rfl, _, rfl, pw, _, rfl, SqL.of e1, fun q1 hq1 => ?_⟩
        rw [cutM_to]
        have g1 : Fx [] H6 (upd H6 q1 (.lst ((ws.take j).map V.str))) := Fx.new hq1
        have k1 : upd H6 q1 (.lst ((ws.take j).map V.str)) q1 = some (.lst ((ws.take j).map V.str)) := upd_same
        have n1d : q1 ≠ dd := D6.ne hq1
        generalize upd H6 q1 (.lst ((ws.take j).map V.str)) = H7 at g1 k1
        have D7 := D6.mv g1
        refine ⟨_, rfl, rd_off rfl D7 ⟨by decide, by decide⟩ fun H8 D8 f8 => ?_⟩
        obtain ⟨i27, hi27, ei⟩ : ∃ k : Nat, k < 27 ∧ (off s4 27).1 = (k : Int) := ⟨(off s4 27).1.toNat, by have := off_range s4 (n := 27) (by decide); omega, by have := off_range s4 (n := 27) (by decide); omega⟩
        rw [ei]
        obtain ⟨ow, how⟩ : ∃ y, (OD1 ++ OD2 ++ OD3)[i27]? = some y := ⟨_, List.getElem?_eq_getElem (show i27 < 27 from hi27)⟩
        obtain ⟨owl, owo⟩ := od_ok ow (List.mem_of_getElem? how)
        have k1 := f8.to k1 (na1 n1d)
        have eo := f8.to (g1.to eo fun z => nomatch z) (na1 nod)
        have e1 := f8.to (g1.to e1 fun z => nomatch z) (na1 nwd)
        have hp8 := f8.to (g1.to hp6 fun z => nomatch z) (na1 npd)
        generalize (off s4 27).2 = s5 at D8
        clear ei f8 D7 g1 D6 hp6 hq1
        refine ⟨po, _, _, .str ow, rfl, rfl, SqL.of eo, atI_nat (by rw [List.getElem?_map, how]; rfl), by show 1 ≤ sizeLine; decide, fun q2 hq2 => ?_⟩
        have g2 : Fx [] H8 (upd H8 q2 (.lst [.str ow])) := Fx.new hq2
        have k2 : upd H8 q2 (.lst [.str ow]) q2 = some (.lst [.str ow]) := upd_same
        generalize upd H8 q2 (.lst [.str ow]) = H9 at g2 k2
        have tj := wsum_sub (List.take_sublist j ws)
        have tj2 := wsum_len (ws.take j)
        refine ⟨q1, q2, _, _, rfl, rfl, g2.to k1 (fun z => nomatch z), k2, Nat.le_trans (m := 500000) (by rw [List.length_map, List.length_singleton]; omega) (by decide), fun q3 hq3 => ?_⟩
        rw [show (ws.take j).map V.str ++ [V.str ow] = (ws.take j ++ [ow]).map V.str by rw [List.map_append]; rfl]
        have g3 : Fx [] H9 (upd H9 q3 (.lst ((ws.take j ++ [ow]).map V.str))) := Fx.new hq3
        have k3 : upd H9 q3 (.lst ((ws.take j ++ [ow]).map V.str)) q3 = some (.lst ((ws.take j ++ [ow]).map V.str)) := upd_same
        generalize upd H9 q3 (.lst ((ws.take j ++ [ow]).map V.str)) = H10 at g3 k3
        refine ⟨_, rfl, _, rfl, _, rfl, _, _, rfl, rfl, _, _, rfl, rfl, _, rfl, pw, _, rfl, SqL.of ((g2.trans g3).to e1 fun z => nomatch z), fun q4 hq4 => ?_⟩
        obtain ⟨B, eB, sB⟩ := cutM_gen ws (some ((j : Int) + kd - 3)) none
        rw [eB]
        have bj := wsum_sub sB
        have bj2 := wsum_len B
        have g4 : Fx [] H10 (upd H10 q4 (.lst (B.map V.str))) := Fx.new hq4
        have k4 : upd H10 q4 (.lst (B.map V.str)) q4 = some (.lst (B.map V.str)) := upd_same
        generalize upd H10 q4 (.lst (B.map V.str)) = H11 at g4 k4
        refine ⟨q3, q4, _, _, rfl, rfl, g4.to k3 (fun z => nomatch z), k4, Nat.le_trans (m := 500000) (by rw [List.length_map, List.length_map, List.length_append, List.length_singleton]; omega) (by decide), fun q5 hq5 => ?_⟩
        rw [← List.map_append]
        have hsub : ∀ y ∈ ws.take j ++ [ow] ++ B, PyData.strOk y = true := fun y m => by
          rcases List.mem_append.mp m with m | m
          · rcases List.mem_append.mp m with m | m
            · exact hwo y (List.mem_of_mem_take m)
            · rw [List.mem_singleton.mp m]; exact owo
          · exact hwo y (sB.subset m)
        have hsum : wsum (ws.take j ++ [ow] ++ B) ≤ 2 * L + 20 := by
          rw [wsum_app, wsum_app]
          have : wsum [ow] = ow.length + 1 + 0 := rfl
          omega
        generalize ws.take j ++ [ow] ++ B = ws2 at hsub hsum
        have g5 : Fx [] H11 (upd H11 q5 (.lst (ws2.map V.str))) := Fx.new hq5
        have k5 : upd H11 q5 (.lst (ws2.map V.str)) q5 = some (.lst (ws2.map V.str)) := upd_same
        have g25 := ((g2.trans g3).trans g4).trans g5
        generalize upd H11 q5 (.lst (ws2.map V.str)) = H12 at g5 k5 g25
        have hp12 := g25.to hp8 fun z => nomatch z
        have D12 := D8.mv g25
        clear g25 g5 g4 g3 g2 D8 hp8 k4 k3 k2 eB bj bj2 sB tj tj2 hq2 hq3 hq4 hq5 e1 k1 eo
        -- the row told anew
        have hjl := join_w (y := blank) (c := 32) (by decide +kernel) ws2
        have hjo := join_ok (y := blank) (by decide +kernel) hsub
        refine ⟨⟨_, rfl⟩, _, rfl, _, rfl, _, rfl, p, _, rfl, SqL.of hp12, fun q6 hq6 => ?_⟩
        rw [cutM_to]
        have g6 : Fx [] H12 (upd H12 q6 (.lst ((ls.take at_).map V.str))) := Fx.new hq6
        have k6 : upd H12 q6 (.lst ((ls.take at_).map V.str)) q6 = some (.lst ((ls.take at_).map V.str)) := upd_same
        generalize upd H12 q6 (.lst ((ls.take at_).map V.str)) = H13 at g6 k6
        refine ⟨⟨_, rfl⟩, _, rfl, blank, q5, ws2, rfl, rfl, .inl (SqL.of (g6.to k5 fun z => nomatch z)), by rw [show blank.length = 1 from rfl, jsum]; omega, by show 1 ≤ sizeLine; decide, fun q7 hq7 => ?_⟩
        generalize Txt.join blank ws2 = nr at hjl hjo
        have g7 : Fx [] H13 (upd H13 q7 (.lst [.str nr])) := Fx.new hq7
        have k7 : upd H13 q7 (.lst [.str nr]) q7 = some (.lst [.str nr]) := upd_same
        generalize upd H13 q7 (.lst [.str nr]) = H14 at g7 k7
        refine ⟨q6, q7, _, _, rfl, rfl, g7.to k6 (fun z => nomatch z), k7, Nat.le_trans (m := 500000) (by rw [List.length_map, List.length_singleton]; omega) (by decide), fun q8 hq8 => ?_⟩
        rw [show (ls.take at_).map V.str ++ [V.str nr] = (ls.take at_ ++ [nr]).map V.str by rw [List.map_append]; rfl]
        have g8 : Fx [] H14 (upd H14 q8 (.lst ((ls.take at_ ++ [nr]).map V.str))) := Fx.new hq8
        have k8 : upd H14 q8 (.lst ((ls.take at_ ++ [nr]).map V.str)) q8 = some (.lst ((ls.take at_ ++ [nr]).map V.str)) := upd_same
        generalize upd H14 q8 (.lst ((ls.take at_ ++ [nr]).map V.str)) = H15 at g8 k8
        have g68 := (g6.trans g7).trans g8
        refine ⟨_, rfl, _, rfl, _, _, rfl, rfl, _, rfl, p, _, rfl, SqL.of (g68.to hp12 fun z => nomatch z), fun q9 hq9 => ?_⟩
        rw [show cutV (ls.map V.str) (some ((at_ : Int) + 1)) none = (ls.drop (at_ + 1)).map V.str from cutM_from (n := at_ + 1)]
        have g9 : Fx [] H15 (upd H15 q9 (.lst ((ls.drop (at_ + 1)).map V.str))) := Fx.new hq9
        have k9 : upd H15 q9 (.lst ((ls.drop (at_ + 1)).map V.str)) q9 = some (.lst ((ls.drop (at_ + 1)).map V.str)) := upd_same
        generalize upd H15 q9 (.lst ((ls.drop (at_ + 1)).map V.str)) = H16 at g9 k9
        refine ⟨q8, q9, _, _, rfl, rfl, g9.to k8 (fun z => nomatch z), k9, Nat.le_trans (m := 500000) (by rw [List.length_map, List.length_map, List.length_append, List.length_singleton]; omega) (by decide), fun q10 hq10 => ?_⟩
        rw [← List.map_append]
        have g10 : Fx [] H16 (upd H16 q10 (.lst ((ls.take at_ ++ [nr] ++ ls.drop (at_ + 1)).map V.str))) := Fx.new hq10
        have wnr : wsum [nr] = nr.length + 1 + 0 := rfl
        refine ⟨nl, q10, ls.take at_ ++ [nr] ++ ls.drop (at_ + 1), rfl, rfl, .inl (SqL.of upd_same), ?_, q _ s5 _ (D12.mv ((g68.trans g9).trans g10)) ?_⟩
        · rw [show nl.length = 1 from rfl, jsum, wsum_app, wsum_app]
          omega
        · have k := rows (M := 2 * L + 20) (X := [nr]) (by omega) (List.take_sublist at_ ls) (List.drop_sublist (at_ + 1) ls) wtd fun y m => by rw [List.mem_singleton.mp m]; exact ⟨by omega, hjo⟩
          exact ⟨Nat.le_trans k.len (by omega), k.ok, k.seg.mono (by omega)⟩
      · have hzs : z.length ≤ sizeLine := Nat.le_trans (m := 500000) (by omega) (by decide)
        refine ⟨.ref dd, rfl, _, rfl, z, rfl, hzs, _, _, rfl, rfl, dd, s4, ((z.length : Nat) : Int) + 1, rfl, D6.h, D6.ok, by omega, by omega, ?_⟩
        obtain ⟨D7, f7⟩ := off_fx5 D6 (((z.length : Nat) : Int) + 1)
        generalize upd H6 dd (.lst (off s4 (((z.length : Nat) : Int) + 1)).2.l) = H7 at D7 f7
        obtain ⟨k, hk, ekk⟩ : ∃ k : Nat, k ≤ z.length ∧ (off s4 (((z.length : Nat) : Int) + 1)).1 = (k : Int) := by
          have r := off_range s4 (n := ((z.length : Nat) : Int) + 1) (by omega)
          exact ⟨(off s4 (((z.length : Nat) : Int) + 1)).1.toNat, by omega, by omega⟩
        rw [ekk]
        generalize (off s4 (((z.length : Nat) : Int) + 1)).2 = s5 at D7
        clear ekk f7 D6
        refine ⟨_, rfl, _, rfl, _, rfl, z, rfl, hzs, ?_⟩
        refine rd_off rfl D7 ⟨by decide, by decide⟩ fun H8 D8 f8 => ?_
        obtain ⟨i7, hi7, ei⟩ : ∃ k : Nat, k < 7 ∧ (off s5 7).1 = (k : Int) := ⟨(off s5 7).1.toNat, by have := off_range s5 (n := 7) (by decide); omega, by have := off_range s5 (n := 7) (by decide); omega⟩
        rw [ei]
        have signs : ∀ i < 7, ∃ c, (Str.ofString " -0,5\nA").cps.toList[i]? = some c ∧ PyData.strOk ⟨#[c]⟩ = true := by
          have hl : (Str.ofString " -0,5\nA").cps.toList = [32, 45, 48, 44, 53, 10, 65] := by decide +kernel
          rw [hl]
          intro i hi
          match i, hi with
          | 0, _ => exact ⟨32, rfl, by decide +kernel⟩
          | 1, _ => exact ⟨45, rfl, by decide +kernel⟩
          | 2, _ => exact ⟨48, rfl, by decide +kernel⟩
          | 3, _ => exact ⟨44, rfl, by decide +kernel⟩
          | 4, _ => exact ⟨53, rfl, by decide +kernel⟩
          | 5, _ => exact ⟨10, rfl, by decide +kernel⟩
          | 6, _ => exact ⟨65, rfl, by decide +kernel⟩
        obtain ⟨cc, hcc, hco⟩ := signs i7 hi7
        generalize (off s5 7).2 = s6 at D8
        refine ⟨_, _, cc, rfl, rfl, by show 7 ≤ sizeLine; decide, atI_nat hcc, ?_⟩
        refine ⟨_, rfl, rd_eqI (.inr ⟨_, rfl, ?_⟩)⟩
        obtain ⟨sg, hsg1, hsg2, hrep⟩ : ∃ sg : Str, sg.length ≤ 1 ∧ PyData.strOk sg = true ∧ ∀ (Q : VK) (H : Hp), Q (.str sg) H → rRepS (.str ⟨#[cc]⟩) (.int (if (kd == 5) = true then 1 else 0)) H Q := by
          cases e5 : (kd == 5) with
          | true => exact ⟨⟨#[cc]⟩, Nat.le_refl 1, hco, fun Q H h => ⟨_, _, rfl, rfl, .inr ⟨rfl, h⟩⟩⟩
          | false => exact ⟨Str.empty, Nat.zero_le _, by decide +kernel, fun Q H h => ⟨_, _, rfl, rfl, .inl ⟨rfl, h⟩⟩⟩
        refine hrep _ _ ?_
        have hA := cut_len z none (some (k : Int))
        have hC := cut_len z (some ((k : Int) + 1)) none
        refine ⟨_, _, rfl, rfl, Nat.le_trans (m := 500000) (by omega) (by decide), ?_⟩
        refine ⟨_, rfl, _, rfl, _, _, rfl, rfl, _, rfl, z, rfl, hzs, ?_⟩
        have t := hz.sign k hsg1 hsg2
        refine ⟨_, _, rfl, rfl, Nat.le_trans (m := 500000) ?_ (by decide), q _ s6 _ D8 ⟨Nat.le_trans t.len (by omega), t.ok, t.seg.mono (by omega)⟩⟩
        have hAS : (cutS z none (some (k : Int)) ++ sg).length ≤ z.length + 1 := by
          rw [len_tl, tl_append, List.length_append, ← len_tl, ← len_tl]
          omega
        omega
end Mh
/-! MhLNum -/
namespace Mh
open PySem PySem.Spec PyProof.Rows L2 TL
theorem sc_l_number : FnScope ["_law_word", "_law_figures", "_law_sign"] ["_law_word"] (defScope s_l_number) := ⟨rfl, rfl, rfl, by decide +kernel, rfl, by decide +kernel, by decide +kernel⟩
def spLNum (_K : PySem.W.Frag) : Sp := fun vs H Q _ => ∃ (z : Str), vs = [.str z] ∧ z.length ≤ 400000 ∧ PyData.strOk z = true ∧ ∀ (H' : Hp), Fx [] H H' → Q (oV (numOf z)) H'
theorem ok_l_number {P : Program} {w : World} {K : PySem.W.Frag} {mg : Str → Option Value} {base : Heap} (T : Tx K mg) : Def P w K mg base CX0 1 "_law_number" ["_law_word"] (spLNum K) := by
  obtain ⟨fd, F⟩ := T.d_l_number
  refine ⟨_, fd, F.ok sc_l_number (fun vs H Q E h => ?_) (fun cdv A outer s H vs Q E hr h => ?_), F.bindsN fun _ _ _ _ _ _ us hl => match us, hl with | [_], _ => rfl, T.g_l_number, F.kp⟩
  · obtain ⟨z, rfl, _⟩ := h
    rfl
  · obtain ⟨z, rfl, hz, hok, q⟩ := h
    refine ⟨_, PSs.nox (Evl.pss_cut (ps_set (i := 1) sc_l_number.nd rfl (by first | exact Or.inl rfl | exact Or.inr rfl) (pe_ifExp (pt_cmpR op_eq (pe_slice sl_str (pv 0) po_none (po_some pe_int)) pe_str (nomark _)) (pe_slice sl_str (pv 0) (po_some pe_int) po_none) (pv 0)))
        (pss_cons (ps_if (PW.pt (pw_or (pt_cmpR op_eq (pv 1) pe_str (nomark _)) (pw_or (pt_cmpR op_gt (pe_callB call_len_str (by rfl) T.f_len (by decide +kernel) (pa_cons (pv 1) pa_nil)) pe_int (nomark _)) (pw_or1 (pt_cmpR (op_neD hr.units) (pe_lc (own := [("_law_sign", 2)]) (g := (gName 2)) (tt := _) rfl sc_l_number.nd (pi_str (pv 1)) (blkOk_by (own := [("_law_sign", 2)]) (N := ["_law_word", "_law_figures", "_law_sign"]) (sc := defScope s_l_number) (by decide +kernel)) (fun _ _ _ _ _ => pg_name (i := 2) sc_l_number.nd rfl (by first | exact Or.inl rfl | exact Or.inr rfl)) (fun _ _ _ _ _ => pts_one (pt_cmpR op_notInS (pv 2) pe_str (by rfl))) (fun _ _ _ _ _ => (pv 2))) (pe_lst pa_nil) (nomark _))))))
        (pss_one (ps_ret pe_non))
        pss_nil)
        (pss_one (ps_ret (pe_ifExp (pt_cmpR op_eq (pe_callTy call_str_int (by rfl) T.f_str (by decide +kernel) (pa_cons (pe_callTy call_int_str (by rfl) T.f_int (by decide +kernel) (pa_cons (pv 0) pa_nil)) pa_nil)) (pv 0) (nomark _)) (pe_callTy call_int_str (by rfl) T.f_int (by decide +kernel) (pa_cons (pv 0) pa_nil)) pe_non))))), ?_⟩
    have hzs : z.length ≤ sizeLine := Nat.le_trans hz (by decide)
    refine ⟨fun σ' H' => σ' = [some (.str z), some (.str (figs z)), none] ∧ H' = H, ?_, fun σ' H' hM => ?_⟩
    · refine ⟨_, rfl, 1, rfl, z, rfl, hzs, rd_eqS (σ := L2.start ["_law_word", "_law_figures", "_law_sign"] [.str z]) ⟨_, rfl, ifB (fun c => ?_) (fun c => ?_)⟩⟩
      · have e : figs z = cutS z (some 1) none := by unfold figs; rw [if_pos c]
        exact ⟨_, rfl, 1, rfl, z, rfl, hzs, by rw [e]; rfl, rfl⟩
      · have e : figs z = z := by unfold figs; rw [if_neg (by rw [c]; decide)]
        exact ⟨_, rfl, by rw [e]; rfl, rfl⟩
    obtain ⟨rfl, rfl⟩ := hM
    have hfl := figs_len hz
    have hfs : (figs z).length ≤ sizeLine := Nat.le_trans hfl (by decide)
    have none_case : (decide (1 ≤ (figs z).length) && decide ((figs z).length ≤ 4) && (tl (figs z)).all digit) = false → ∀ H', Fx [] _ H' → Q .non H' := fun e H' f => by
      have h2 : numOf z = none := by
        unfold numOf
        rw [e]
        rfl
      have := q H' f
      rw [h2] at this
      exact this
    refine ⟨_, rfl, rd_eqS (σ := [some (.str z), some (.str (figs z)), none]) ⟨_, rfl, ifB (fun c0 => ?_) (fun c0 => ?_)⟩⟩
    · have e0 : figs z = "" := eq_of_beq c0
      have k1 : decide (1 ≤ (figs z).length) = false := by rw [e0]; decide +kernel
      exact none_case (by rw [k1, Bool.false_and, Bool.false_and]) _ .refl
    have hl1 : 1 ≤ (figs z).length := by
      have e0 : ¬ figs z = "" := ne_of_beq_false c0
      rcases Nat.eq_zero_or_pos (figs z).length with h | h
      · refine absurd (ext_tl ?_) e0
        have h2 : tl (figs z) = [] := List.eq_nil_of_length_eq_zero (by rw [← len_tl]; exact h)
        rw [h2]
        decide +kernel
      · exact h
    refine ⟨_, rfl, figs z, rfl, hfs, _, _, rfl, rfl, _, rfl, ifB (fun c1 => ?_) (fun c1 => ?_)⟩
    · have k2 : decide ((figs z).length ≤ 4) = false := by
        have := of_decide_eq_true c1
        exact decide_eq_false (by omega)
      exact none_case (by rw [k2, Bool.and_false, Bool.false_and]) _ .refl
    have hl4 : (figs z).length ≤ 4 := by
      have := of_decide_eq_false c1
      omega
    have hfo : PyData.strOk (figs z) = true := by
      unfold figs
      split
      · exact cut_ok hok _ _
      · exact hok
    have hsz : (figs z).cps.size = (figs z).length := rfl
    refine ⟨_, rfl, figs z, rfl, fun D hD => lc_rel walk_str (fun i acc H2 => Fx [] H' H2 ∧ acc = (((tl (figs z)).take i).filter fun c => !digit c).map fun c => V.str ⟨#[c]⟩) ⟨Fx.new hD, rfl⟩ (fun _ _ _ _ => trivial) (fun i acc x H2 H3 hi hl2 hDa r y => ?_) (fun acc H2 hl2 hDa r => ?_)⟩
    · obtain ⟨f, rfl⟩ := r
      obtain ⟨rfl, c, hc, rfl⟩ := y
      have hc2 : (tl (figs z))[i]? = some c := by rw [← hc]; exact Array.getElem?_toList
      have et : ((tl (figs z)).take (i + 1)).filter (fun c => !digit c) = ((tl (figs z)).take i).filter (fun c => !digit c) ++ if (!digit c) = true then [c] else [] := by
        rw [List.take_add_one, hc2, List.filter_append]
        congr 1
        show ([c].filter fun c => !digit c) = _
        cases hd : (!digit c) with
        | true => rw [if_pos rfl]; simp [List.filter, hd]
        | false => rw [if_neg (by decide)]; simp [List.filter, hd]
      refine ⟨rfl, _, rfl, c, _, rfl, rfl, _, rfl, ?_⟩
      refine ifB (fun cd => ?_) (fun cd => ?_)
      · have cd : (!digit c) = true := cd
        refine ⟨_, rfl, Put.ok hl2 (by omega) hDa ⟨f.loc hD (Chg.lst hDa), ?_⟩⟩
        rw [et, if_pos cd, List.map_append]
        rfl
      · have cd : (!digit c) = false := cd
        refine Pvl.skip hl2 hDa ⟨f, ?_⟩
        rw [et, if_neg (by rw [cd]; decide), List.append_nil]
    · obtain ⟨f, rfl⟩ := r
      rw [List.take_of_length_le (by rw [← len_tl]; exact Nat.le_refl _)] at hDa
      refine ⟨by show 0 ≤ sizeLine; decide, fun e he => ?_⟩
      have f2 : Fx [] H2 (upd H2 e (.lst [])) := Fx.new he
      have hD2 := f2.to hDa fun z => nomatch z
      have he2 : upd H2 e (.lst []) e = some (.lst []) := upd_same
      generalize upd H2 e (.lst []) = H3 at f2 hD2 he2
      have f3 := f.trans f2
      generalize hbs : (tl (figs z)).filter (fun c => !digit c) = bs at hD2
      have eb : bs.map (fun c => V.str ⟨#[c]⟩) = (bs.map fun c => (⟨#[c]⟩ : Str)).map V.str := by rw [List.map_map]; rfl
      rw [eb] at hD2
      have hbo : ∀ w ∈ bs.map fun c => (⟨#[c]⟩ : Str), PyData.strOk w = true := fun w m => by
        obtain ⟨c, hc, rfl⟩ := List.mem_map.mp m
        rw [← hbs] at hc
        refine strOk_iff.mpr fun x hx => ?_
        have hx : x = c := by
          have : x ∈ [c] := hx
          exact List.mem_singleton.mp this
        rw [hx]
        exact strOk_iff.mp hfo c (List.mem_filter.mp hc).1
      refine ⟨_, .list [], Dp.lst (SqL.of hD2) (dpStrs _), .lst (SqL.of he2) .nil, strs_shaped hbo, by decide +kernel, ?_⟩
      have ev : PyData.eqv (.list ((bs.map fun c => (⟨#[c]⟩ : Str)).map .str)) (.list []) = bs.isEmpty := by
        cases bs with
        | nil => simp [PyData.eqv, PyData.eqvAll]
        | cons _ _ => simp [PyData.eqv, PyData.eqvAll]
      rw [ev]
      have ea : bs.isEmpty = (tl (figs z)).all digit := by
        rw [← hbs]
        generalize tl (figs z) = l
        induction l with
        | nil => rfl
        | cons c l ih =>
          rw [List.all_cons]
          cases hd : digit c with
          | true => rw [Bool.true_and, ← ih]; simp [List.filter, hd]
          | false => simp [List.filter, hd]
      rw [ea]
      refine ⟨_, rfl, ifB (fun c3 => ?_) (fun c3 => ?_)⟩
      · have k3 : (tl (figs z)).all digit = false := by simpa using c3
        exact none_case (by rw [k3, Bool.and_false]) _ f3
      · have k3 : (tl (figs z)).all digit = true := by simpa using c3
        obtain ⟨v, hv, hb, hz5⟩ := num_val hl1 hl4 k3
        have en : numOf z = if wS v = z then some v else none := by
          unfold numOf
          rw [decide_eq_true hl1, decide_eq_true hl4, k3, hv]
          rfl
        have hlog : v.natAbs.log2 < 1920 := log2_ok (i := v) (by omega)
        refine ⟨_, rfl, z, v, rfl, hv, by omega, v, rfl, hlog, _, rfl, rfl, ?_⟩
        rw [dec_str]
        refine ⟨_, rfl, ifB (fun c4 => ?_) (fun c4 => ?_)⟩
        · have e4 : wS v = z := eq_of_beq c4
          rw [en, if_pos e4] at q
          exact ⟨_, rfl, z, v, rfl, hv, by omega, q _ f3⟩
        · have e4 : ¬ wS v = z := ne_of_beq_false c4
          rw [en, if_neg e4] at q
          exact q _ f3
end Mh
/-! MhTryA -/
namespace MhN
open PySem PySem.Spec PyProof.Rows L2 Mh
/-! ### a named clause whose suite raises -/
section
variable {X : Cx} {pins : List (Addr × Obj)} {σ : L2.St} {H : Hp} {s : Shared}
/-- an exception whose flight is kept goes on -/
theorem goes_onF {fl : Value} {Wout : WX} {cls : Value} {d : Option Addr} {a T : Addr} {oe oT : Obj} {vs ts : Array Value} {what : String} {Q : Flow → Shared → Prop} (hst : X.stack = X.env :: X.outer) (hfr : X.env.frame = some X.env.locals) (tk : L2.Takes X Wout) (I : Inv X pins σ H s)
    (ga : s.heap.get? a = some oe) (gT : s.heap.get? T = some oT) (za : Zc cls d oe) (da : oe.data = .fields vs) (dT : oT.data = .fields ts) (v1 : vs[1]? = some (.ref T)) (t3 : ts[3]? = some fl) (ne : T ≠ a) (na : H a = none) (nT : H T = none)
    (h0 : ∀ c o, X.s_0.heap.get? c = some o → c ≠ a ∧ c ≠ T) (hp : ∀ p ∈ X.pn ++ pins, p.1 ≠ a ∧ p.1 ≠ T) (hw : Wout cls d σ H) : wpAny (model X.prog X.w) X.A (passOn what (.ref a) X.env) Q X.xe s := by
  obtain ⟨G, in1, out1⟩ := restrict s.heap fun b => decide (b ≠ a ∧ b ≠ T)
  have sub : ∀ b o, G.get? b = some o → s.heap.get? b = some o ∧ b ≠ a ∧ b ≠ T := fun b o e => by
    by_cases c : b ≠ a ∧ b ≠ T
    · exact ⟨by rw [← in1 b (decide_eq_true c)]; exact e, c⟩
    · rw [out1 b (decide_eq_false c)] at e
      exact nomatch e
  have J : Inv X pins σ H { s with heap := G } := I.less (fun b o e => (sub b o e).1) (fun b o n1 n2 e => by rw [in1 b (decide_eq_true ⟨n1, n2⟩)]; exact e) ⟨oe, vs, ga, da⟩ ⟨oT, ts, gT, dT⟩ na nT h0 hp
  have gone : ∀ b, b = a ∨ b = T → (PySem.W.hideAll G (frs X.stack)).get? b = none := fun b c => by
    match q : (PySem.W.hideAll G (frs X.stack)).get? b with
    | none => rfl
    | some o => exact absurd c fun c => c.elim (sub b o (PySem.W.of_hideAll _ q)).2.1 (sub b o (PySem.W.of_hideAll _ q)).2.2
  unfold PySem.passOn
  refine wpAny_bind (wpAny_field ga da v1 ?_)
  rw [if_neg (by simp : ¬ ((Value.ref T == Value.none) = true))]
  have up : wpAny (model X.prog X.w) X.A (setFlight (.ref a) X.env.frame) (fun _ s2 => wpAny (model X.prog X.w) X.A (throw (.ref a) : Sem Flow) Q X.xe s2) X.xe s := by
    rw [hfr]
    refine HandSPX.setFlight_anyZ (base := PySem.W.hideAll G (frs X.stack)) (l := X.env :: X.outer) (Z := Zc cls d) (fl := fl) (fun b o q => (sub b o (PySem.W.of_hideAll _ q)).1) (by rw [← hst]; exact funFrames_none I.stack fun b m => PySem.W.hideAll_none _ m) ⟨oe, vs, T, oT, ts, ga, za, da, v1, gone T (.inr rfl), ne, gT, dT, t3⟩ fun h2 k1 k2 k3 u2 => ?_
    exact wpAny_throw (tk _ _ ⟨a, _, { s with heap := G }, pins, σ, H, cls, d, rfl, J, fun b o e m => PySem.W.hideAll_get _ e m, (Heap.UpToSlots.of_keeps fun b o e => (sub b o e).1).trans u2, .inr (.inr (by rw [← hst] at k2; exact ⟨k1, gone a (.inl rfl), k2, k3⟩)), na, rfl, I.bare, hw⟩)
  first
    | exact wpAny_bind (wpAny_pure (wpAny_bind up))
    | exact wpAny_bind up
theorem out_suite {n : Str} {i : Nat} {pos : Pos} {Wout : WX} {E0 N : Value → Shared → Prop} {u : Value} (hst : X.stack = X.env :: X.outer) (hfr : X.env.frame = some X.env.locals) (hex : X.ex = []) (hN : X.N.Nodup) (hi : X.N[i]? = some n) (hln : X.env.kindOf n = some .local)
    (tk : L2.Takes (X.wish E0) Wout) (hW : ∀ cls d σ H, Wout cls d σ H → Wout cls d (σ.set i none) H) (h0N : ∀ x s', E0 x s' → N x s') (xx : L2.XE X Wout u s) : AsSuiteRaised (model X.prog X.w) X.A X.env n pos N u s := by
  obtain ⟨a, B, sI, pins, σ2, H2, cls, d, rfl, J, nb, up, sky, na, os, ag, hw⟩ := xx
  have ok := J.ok
  have fA : X.A.frames = some (X.env :: X.outer) := by rw [ok.frames, hst]
  have held : ∀ h1, HandSPX.HeldZ B (X.env :: X.outer) a (Zc cls d) X.env.locals h1 → s.heap.UpToSlots h1 → wpAny (model X.prog X.w) X.A (do bindName X.env n .none; unbindBehindTheSuite X.env n pos)
      (fun _ s₂ => wpAny (model X.prog X.w) X.A (passOn "try.except-as" (.ref a) X.env : Sem Flow) (fun _ _ => False) N s₂)
      (fun y s₂ => wpAny (model X.prog X.w) X.A (setFlight (.ref a) none) (fun _ s₃ => N y s₃) N s₂) { s with heap := h1 } := fun h1 q u1 => by
    have I : Inv X pins σ2 H2 { s with heap := h1 } := J.landed nb q.1 (up.trans u1) os ag
    obtain ⟨_, gB, ff, oe, vs, T, oT, ts, ga, za, da, v1, gT, ne, hT, dT, t3⟩ := q
    have fa := off_frames ff ga da
    have fT := off_frames ff hT dT
    have inF : ∀ b ∈ X.fs, b ∈ frs (X.env :: X.outer) := fun b m => by
      obtain ⟨e, me, q⟩ := List.mem_filterMap.mp m
      exact List.mem_filterMap.mpr ⟨e, List.mem_cons_of_mem _ me, q⟩
    have lF : X.env.locals ∈ frs (X.env :: X.outer) := List.mem_filterMap.mpr ⟨X.env, List.mem_cons_self, hfr⟩
    have nT : H2 T = none := (J.inGround nb).gone gT
    have apart : ∀ b o, sI.heap.get? b = some o → b ≠ a ∧ b ≠ T := fun b o e => by
      by_cases m : b ∈ frs X.stack
      · rw [hst] at m
        exact ⟨fun z => fa (z ▸ m), fun z => fT (z ▸ m)⟩
      · have q := nb b o e m
        exact ⟨fun z => (by rw [z, gB] at q; cases q), fun z => (by rw [z, gT] at q; cases q)⟩
    have h0 : ∀ c o, X.s_0.heap.get? c = some o → c ≠ a ∧ c ≠ T := fun c o e => by
      obtain ⟨o2, q⟩ := J.base.there c o e (by rw [hex]; exact fun z => nomatch z)
      exact apart c o2 q
    have hp : ∀ p ∈ X.pn ++ pins, p.1 ≠ a ∧ p.1 ≠ T := fun p m => apart p.1 p.2 (J.pin p m).1
    have I2 : Inv X (pins ++ [(a, oe), (T, oT)]) σ2 H2 { s with heap := h1 } := I.pins_of fun p m => (List.mem_append.mp m).elim (fun z => I.pin p (List.mem_append_right _ z)) fun z => by
      rcases List.mem_cons.mp z with rfl | z
      · exact ⟨ga, na, fun c => fa (by rw [show a = X.env.locals from c]; exact lF), fun c => fa (inF _ c), fun v c => by rw [show oe.data = .cell v from c] at da; exact nomatch da⟩
      · rw [List.mem_singleton.mp z]
        exact ⟨hT, nT, fun c => fT (by rw [show T = X.env.locals from c]; exact lF), fun c => fT (inF _ c), fun v c => by rw [show oT.data = .cell v from c] at dT; exact nomatch dT⟩
    refine gone_ok I2 hN hi hln fun s7 I7 => ?_
    have pa := I7.pin (a, oe) (List.mem_append_right _ (List.mem_append_right _ List.mem_cons_self))
    have pT := I7.pin (T, oT) (List.mem_append_right _ (List.mem_append_right _ (List.mem_cons_of_mem _ List.mem_cons_self)))
    exact wpAny_mono (goes_onF (X := X.wish E0) (what := "try.except-as") (Q := fun _ _ => False) hst hfr tk (I7.unpinned.wish E0) pa.1 pT.1 za da dT v1 t3 ne pa.2.1 pT.2.1 h0 hp (hW _ _ _ _ hw)) (fun _ _ z => z) fun x s' z => h0N x s' z
  show wpAny (model X.prog X.w) X.A (noteFrame (.ref a) X.env) _ N s
  have sky : Sky B (X.env :: X.outer) a (Zc cls d) X.env.locals s.heap := by rw [← hst]; exact sky
  rcases sky with ⟨b1, b2, b3, oe, vs, b4, b5, b6, b7⟩ | fl | q
  · exact HandSPX.look_newZ Zc.steady fA b3 hfr b4 b1 b2 b6 b7 b5 held
  · exact HandSPX.looks_onZ Zc.steady fA hfr fl held
  · exact HandSPX.againZ hfr q.2.2.2 (held _ q (.refl _))
/-- no end but an exception -/
def noEnd : Ends := { nx := fun _ _ => False, rt := fun _ _ => False }
/-- what the clause is for: its suite reads on -/
def wHit (K : PySem.W.Frag) (c : Value) (i : Nat) (ts : Addr → Value → Option Addr → TS) : WX := fun cls d σ H => PySem.W.exmOne K cls c = some true ∧ ∀ a, H a = none → ts a cls d noEnd (σ.set i (some (.ref a))) H
theorem ps_try_asX {x n : Str} {c : Value} {i : Nat} {body suite : List Stmt} {b₀ : Stmt} {np pos pos' : Pos} {tb : WX → TS} {ts : Addr → Value → Option Addr → TS} {Wout : WX} (hst : X.stack = X.env :: X.outer) (hfr : X.env.frame = some X.env.locals) (hex : X.ex = []) (hN : X.N.Nodup) (hi : X.N[i]? = some n) (hln : X.env.kindOf n = some .local) (hc : Names X x c)
    (hpa : ∀ hd : Option Value, PassesOwnAt (model X.prog X.w) (X.A.mark hd) X.A X.env X.xe) (tk : L2.Takes X Wout) (hW : ∀ cls d σ H, Wout cls d σ H → Wout cls d (σ.set i none) H)
    (hb : ∀ (W : WX) (pn : List (Addr × Obj)) (xe : Value → Shared → Prop), L2N.Takes (X.tr pn xe) W → PassesOwn (model X.prog X.w) X.A X.env xe → PSs (X.tr pn xe) body (tb W))
    (hsu : ∀ (a : Addr) (oe : Obj) (cls : Value) (d : Option Addr) (pn : List (Addr × Obj)) (xe : Value → Shared → Prop), L2N.Zn cls d oe → (∃ vs, oe.data = .fields vs) → L2.Takes ((X.suite a ((a, oe) :: pn)).wish xe) Wout → PSs ((X.suite a ((a, oe) :: pn)).wish xe) (b₀ :: suite) (ts a cls d)) :
    PS X (.Try body [.ExceptHandler (some (.Name x np)) (some n) (b₀ :: suite) pos'] [] [] pos) (fun D σ H => tb (wHit X.K c i ts) D σ H) := by
  refine ⟨fun pins s σ H D I h => ?_⟩
  have ok := I.ok
  have fA : X.A.frames = some (X.env :: X.outer) := by rw [ok.frames, hst]
  refine wpAny_Try_except ?_
  refine wpAny_mono ((hb (wHit X.K c i ts) (X.pn ++ pins) (fun e s₁ => wpAny (model X.prog X.w) X.A (noteFrame e X.env) (fun _ s₂ => wpAny (model X.prog X.w) X.A (setFlight e none) (fun _ s₃ =>
    wpAny (model X.prog X.w) X.A (handleBy e X.env [.ExceptHandler (some (.Name x np)) (some n) (b₀ :: suite) pos']) (SP X pins D) X.xe s₃) X.xe s₂) X.xe s₁) (fun u s' xx => ?_) PassesOwn.looking).run [] s σ H D (I.toTry _) h) (fun f s1 z => ?_) (fun e s1 he => he)
  · obtain ⟨a, B, sI, pins2, σ2, H2, cls, d, rfl, J0, nb, up, sky, na, os, ag, hit, hts⟩ := xx
    have J : Inv X pins σ2 H2 sI := J0.ofTry ok
    have sky' : Sky B (X.env :: X.outer) a (L2N.Zn cls d) X.env.locals s'.heap := by rw [← hst]; exact sky
    show wpAny (model X.prog X.w) X.A (noteFrame (.ref a) X.env) _ _ _
    refine L2N.Sky.land L2N.Zn.steady fA hfr sky' fun h3 fl up3 => ?_
    have I3 : Inv X pins σ2 H2 { s' with heap := h3 } := J.landed nb fl.1 (up.trans up3) os ag
    have lF : X.env.locals ∈ frs (X.env :: X.outer) := List.mem_filterMap.mpr ⟨X.env, List.mem_cons_self, hfr⟩
    have inF : ∀ b ∈ X.fs, b ∈ frs (X.env :: X.outer) := fun b m => by
      obtain ⟨e, me, q⟩ := List.mem_filterMap.mp m
      exact List.mem_filterMap.mpr ⟨e, List.mem_cons_of_mem _ me, q⟩
    obtain ⟨oe3, vs3, g3, z3, d3⟩ := fl.there
    have f3 := off_frames fl.2.2.1 g3 d3
    have nl : a ≠ X.env.locals := fun z => f3 (by rw [z]; exact lF)
    have nf : a ∉ X.fs := fun z => f3 (inF _ z)
    have S3 := I3.suite g3 d3 na nl nf
    refine wpAny_handleBy_cons (codeAny_handlers_test ?_) (by intro q; cases q)
    have LM := PySem.W.exm_one (M := model X.prog X.w) I3.kIn (show PySem.W.Looks (model X.prog X.w) h3 (typeOf (.ref a)) cls from fun A Q E s k q => wpAny_typeOf_ref (k _ _ g3) (by rw [z3.1]; exact q)) hit
    have named : ∀ {Q E : Value → Shared → Prop}, Q c { s' with heap := h3 } → wpAny (model X.prog X.w) (X.A.mark (some (.ref a))) (eval (.Name x np) X.env) Q E { s' with heap := h3 } := fun {Q E} q => by
      obtain ⟨hg, hdb, hm | ⟨hm, hv, hnn⟩⟩ := hc
      · exact ld_glob (X := X.suite a ((a, oe3) :: (X.pn ++ pins))) S3 hg hm q hdb
      · exact ld_blt (X := X.suite a ((a, oe3) :: (X.pn ++ pins))) S3 hg hm hv q hnn hdb
    refine named (LM.here ?_)
    refine codeAny_handlers_suite_as ?_
    refine HandSPX.lands_againZ fl fun h4 fl4 up4 => ?_
    have I4 : Inv X pins σ2 H2 { s' with heap := h4 } := J.landed nb fl4.1 ((up.trans up3).trans up4) os ag
    obtain ⟨oe4, vs4, g4, z4, d4⟩ := fl4.there
    have S4 := I4.suite g4 d4 na nl nf
    refine store_ok (X := X.suite a ((a, oe4) :: (X.pn ++ pins))) (v := .ref a) S4 hN hi (.inl hln) rfl (fun s5 S5 => ?_) (.inr hln)
    have tkX : L2.Takes (L2H.suiteX X a ((a, oe4) :: (X.pn ++ pins))) Wout := fun u2 s2 x2 => by
      obtain ⟨a2, B2, sI2, pn2, σ3, H3, cls2, d2, e2, K2, nb2, up2, sky2, na2, os2, ag2, w2⟩ := x2
      exact tk u2 s2 ⟨a2, B2, sI2, pins, σ3, H3, cls2, d2, e2, L2H.unsuiteX K2 ok, nb2, up2, sky2, na2, os2, ag2, w2⟩
    have tkY : ∀ xe, (∀ u s, L2.XE ((X.suite a ((a, oe4) :: (X.pn ++ pins))).wish xe) Wout u s → xe u s) → L2.Takes ((X.suite a ((a, oe4) :: (X.pn ++ pins))).wish xe) Wout := fun xe q u s2 x2 => q u s2 x2
    refine wpAny_mono ((hsu a oe4 cls d (X.pn ++ pins) (AsSuiteRaised (model X.prog X.w) (X.A.mark (some (.ref a))) X.env n pos' (notedBy (model X.prog X.w) (X.A.mark (some (.ref a))) X.env (cameBackBy (model X.prog X.w) X.A X.env X.xe))) z4 ⟨_, d4⟩ (tkY _ fun u s2 x2 => ?_)).run [] s5 _ H2 noEnd (S5.wish _) (hts a na)) (fun g s6 q => ?_) (fun x6 s6 q => q)
    · exact out_suite (X := (X.suite a ((a, oe4) :: (X.pn ++ pins))).wish _) (E0 := X.xe) hst hfr hex hN hi hln tkX hW (hpa _) x2
    · cases g with
      | next => exact q.elim fun _ ⟨_, _, w⟩ => w.elim
      | brk => exact q.elim fun _ ⟨_, _, w⟩ => w.elim
      | cont => exact q.elim fun _ ⟨_, _, w⟩ => w.elim
      | ret u => exact q.elim fun _ ⟨_, _, _, _, w⟩ => w.elim
  · cases f with
    | next => exact z.elim fun σ1 ⟨H1, I1, q1⟩ => wpAny_execs_nil ⟨σ1, H1, I1.ofTry ok, q1⟩
    | brk => exact z.elim fun σ1 ⟨H1, I1, q1⟩ => ⟨σ1, H1, I1.ofTry ok, q1⟩
    | cont => exact z.elim fun σ1 ⟨H1, I1, q1⟩ => ⟨σ1, H1, I1.ofTry ok, q1⟩
    | ret u => exact z.elim fun v ⟨σ1, H1, I1, r1, q1⟩ => ⟨v, σ1, H1, I1.ofTry ok, r1, q1⟩
end
end MhN
/-! MhSuite -/
namespace Mh
open PySem PySem.Spec PyProof.Rows L2
/-! ### within an except suite -/
/-- the caught one's class and own dict -/
structure Cau (K : PySem.W.Frag) (cls : Value) (d : Option Addr) (D : Addr) (H : Hp) : Prop where
  e : cls = .ref D
  c : ExcC K D
  h : d = none ∨ ∃ dd fs, d = some dd ∧ H dd = some (.xd fs)
theorem Cau.fx {K : PySem.W.Frag} {cls : Value} {d : Option Addr} {D : Addr} {H H' : Hp} (x : Cau K cls d D H) (f : Fx [] H H') : Cau K cls d D H' :=
  ⟨x.e, x.c, x.h.imp id fun ⟨dd, fs, a, b⟩ => ⟨dd, fs, a, f.to b fun z => nomatch z⟩⟩
def rIsX (K : PySem.W.Frag) (cls : Value) (d : Option Addr) (a : Addr) : List V → Hp → VK → Prop := fun xs H Q => ∃ D, Cau K cls d D H ∧ ∃ (c : V) (cv : Value) (b : Bool), xs = [.ref a, c] ∧ (∀ u, RelV c u → u = cv) ∧ PySem.W.kitOne K (.ref D) cv = some b ∧ Q (.bl b) H
theorem inst_of {X : Cx} {a : Addr} {oe : Obj} {cls : Value} {d : Option Addr} {pn pins : List (Addr × Obj)} {σ : L2.St} {H : Hp} {s : Shared} {D : Addr} (I : Inv (X.suite a ((a, oe) :: pn)) pins σ H s) (hz : Zc cls d oe) (hf : ∃ vs, oe.data = .fields vs) (C : Cau X.K cls d D H) : ∃ od, PySem.W.InstAt s.heap a oe D od := by
  obtain ⟨hget, _⟩ := I.pin (a, oe) (List.mem_append.mpr (.inl List.mem_cons_self))
  obtain ⟨vs, hv⟩ := hf
  have hcls : oe.cls = .ref D := hz.1.trans C.e
  have hnot : PySem.W.notCls oe = true := by unfold PySem.W.notCls; rw [hv] <;> rfl
  rcases C.h with h | ⟨dd, fs, h, hd⟩
  · exact ⟨none, hget, hcls, hnot, by rw [hz.2, h]; trivial⟩
  · obtain ⟨mA, ⟨od, es, ep, ho, _⟩, _⟩ := (show ObjOk X.prog X.w H s.heap dd (.xd fs) from I.hok dd _ hd)
    exact ⟨some od, hget, hcls, hnot, by rw [hz.2, h]; exact ho⟩
/-- isinstance(e, C), e caught -/
theorem call_isX {X : Cx} {a : Addr} {oe : Obj} {cls : Value} {d : Option Addr} {pn : List (Addr × Obj)} (hz : Zc cls d oe) (hf : ∃ vs, oe.data = .fields vs) : CallR (X.suite a ((a, oe) :: pn)) (.builtin "isinstance") (rIsX X.K cls d a) := by
  intro pins s σ H xs us Q I r h
  obtain ⟨D, C, c, cv, b, rfl, hcv, e, q⟩ := h
  obtain ⟨u1, u2, rfl, r1, r2⟩ := vals2 r
  obtain rfl : u1 = Value.ref a := r1
  have ec := hcv _ r2
  subst ec
  obtain ⟨od, J⟩ := inst_of I hz hf C
  have hfo : PySem.W.findObj X.K D od "__class__" = some (.bind (.builtin "getset_descriptor.__get__") (.builtin "object.__class__")) := PySem.W.findObj_dataE (by obtain ⟨cd, hc, _⟩ := PySem.W.any_some C.c.hd; rw [hc]; rfl) C.c.ha C.c.hn C.c.ht
  have hcl : ∃ (dd : Option Addr) (cd : ClassData) (sl : Array (Option Value)) (c0 : Value), X.K.lookup D = some ⟨c0, dd, .cls cd, sl⟩ := by
    obtain ⟨cdD, hcD, _⟩ := PySem.W.any_some C.c.hd
    unfold PySem.W.clsIn at hcD
    split at hcD
    · rename_i ho
      exact ⟨_, _, _, _, ho⟩
    · cases hcD
  obtain ⟨c1, c2, c3, c4, ho⟩ := hcl
  have zit : ∀ (M : Model) (h : Heap), X.K.In h → PySem.W.InstAt h a oe D od → PySem.W.Looks M h (isType (.ref D)) true := fun _ _ k _ A' Q' E' s' kk q => by
    unfold isType loadHead
    exact wpAny_bind (wpAny_loadPart (kk _ _ (k _ _ ho)) (wpAny_pure q))
  have zne : ∀ (h : Heap) (tp : Addr) (dd : Option Addr) (its : List Value) (n : Nat) (sl : Array (Option Value)), X.K.In h → h.get? tp = some ⟨.type "tuple", dd, .seq its.toArray n, sl⟩ → (Value.ref D == .ref tp) = false := fun h tp dd its n sl k htp => by
    refine Bool.eq_false_iff.mpr fun q => ?_
    have e : D = tp := Value.ref.inj (beq_iff_eq.mp q)
    subst e
    have z := (k _ _ ho).symm.trans htp
    cases z
  have Z : PySem.W.KitX X.K (.ref a) (.ref D) (fun h => PySem.W.InstAt h a oe D od) := ⟨fun _ _ _ I => I.type, zit, zne, fun k I q => PySem.W.kx_classE k I C.c.hg C.c.hk C.c.hs hfo C.c.hm q⟩
  exact PySem.W.kia_one Z I.kIn J e (fun z => nomatch z) fun tk => ⟨.bl b, H, I.kept (t' := tk) fun _ _ z => z, rfl, q⟩
/-- e.f, e caught -/
def tXf2 (K : PySem.W.Frag) (a : Addr) (cls : Value) (d : Option Addr) (f : Str) (te : TE) : TE := fun σ H Q => te σ H fun x H1 => x = .ref a ∧ ∃ (D dd : Addr) (fs : List (Str × V)) (v : V), cls = .ref D ∧ ExcC K D ∧ PySem.W.findIn K (.ref D) f = some none ∧ d = some dd ∧ H1 dd = some (.xd fs) ∧ fs.lookup f = some v ∧ Q v H1
theorem pe_xf2 {X : Cx} {a : Addr} {oe : Obj} {cls : Value} {d : Option Addr} {pn : List (Addr × Obj)} {e : Expr} {te : TE} {pos : Pos} {n : Str} (hz : Zc cls d oe) (hf : ∃ vs, oe.data = .fields vs) (he : PE (X.suite a ((a, oe) :: pn)) e te) (hb : attributeBase e n X.env (eval e X.env) = eval e X.env := by rfl) :
    PE (X.suite a ((a, oe) :: pn)) (.Attribute e n pos) (tXf2 X.K a cls d n te) := by
  refine ⟨fun pins s σ H Q I h => attr_of hb (thn (he.run pins s σ H _ I h) fun u s1 hh => ?_)⟩
  obtain ⟨x, H1, I1, rx, ex, D, dd, fs, v, ec, hC, hno, ed, ea, l, q⟩ := hh
  subst ex
  obtain rfl : u = Value.ref a := rx
  obtain ⟨mA, hns, hr⟩ := (show ObjOk X.prog X.w H1 s1.heap dd (.xd fs) from I1.hok dd _ ea)
  obtain ⟨od, ho, hl⟩ := lookIn_ns hns
  obtain ⟨u, hu, ru⟩ := RelO.some_of (v := v) (o := mA n) (by rw [← l]; exact hr n)
  obtain ⟨ha, _⟩ := I1.pin (a, oe) (List.mem_append_left _ List.mem_cons_self)
  obtain ⟨vs, hv⟩ := hf
  have J : PySem.W.InstAt s1.heap a oe D (some od) := ⟨ha, hz.1.trans ec, by unfold PySem.W.notCls; rw [hv] <;> rfl, by rw [hz.2, ed]; exact ho⟩
  exact HandSPX.exc_get I1.kIn J hC.hg hC.hk hC.hs (PySem.W.findObj_own hC.hd hno rfl (by rw [hl, hu])) (handed_of ru) ⟨v, H1, I1.tok _, ru, q⟩
/-! ### list.count, flat items -/
def cntV (y : V) (ys : List V) : Nat := ys.countP fun z => eqV z y
def rCntF (K : PySem.W.Frag) : V → List V → Hp → VK → Prop := fun x xs H Q => ∃ (a : Addr) (ys : List V) (y : V), x = V.ref a ∧ xs = [y] ∧ SqL K H a ys ∧ flatV y = true ∧ ys.all flatV = true ∧ Q (.int (cntV y ys : Nat)) H
theorem cnt_of {y : V} : ∀ {ys : List V} {us : List Value}, Vals ys us → ys.all flatV = true → us.countP (eqU y) = cntV y ys
  | _, _, .nil, _ => rfl
  | z :: ys, u :: us, .cons r t, f => by
    rw [List.all_cons, Bool.and_eq_true] at f
    unfold cntV
    rw [List.countP_cons, List.countP_cons, eqU_of r f.1]
    have := cnt_of (y := y) t f.2
    unfold cntV at this
    rw [this]
theorem mt_countF {X : Cx} : MtR X "list.count" (rCntF X.K) := by
  intro pins s σ H x xs v us Q I rx rxs h
  obtain ⟨a, ys, y, rfl, rfl, hs, fy, fys, q⟩ := h
  cases rx
  obtain ⟨uy, rfl, ry⟩ := vals1 rxs
  obtain ⟨its, rv, ⟨⟨cls, dd, data, sl⟩, n, ho, hc, hdn, hd⟩, hlen⟩ := I.list hs
  simp only at hc hd
  subst hc hd
  refine call_meets PySem.F.slot_list_count ⟨_, ho, rfl⟩ PySem.F.entry_list_count (PySem.F.args_list_count_2 _ _) (SeqAt.list_countAt a its.toArray n dd sl uy (eqU y)) ⟨ho, fun u' hu' => mem_eqAt ry fy rv fys u' (by simpa using hu'), ?_⟩
  have ec : its.toArray.toList.countP (eqU y) = cntV y ys := cnt_of rv fys
  refine ⟨.int (cntV y ys : Nat), H, I.tok _, ⟨s.toks, ?_⟩, q⟩
  show Value.int ((its.toArray.toList.countP (eqU y) : Nat) : Int) s.toks = Value.int ((cntV y ys : Nat) : Int) s.toks
  rw [ec]
/-! ### rules whose readings name no context -/
section
variable {X : Cx} {K : PySem.W.Frag}
theorem xcall_isX {a : Addr} {oe : Obj} {cls : Value} {d : Option Addr} {pn : List (Addr × Obj)} (h : X.K = K) (hz : Zc cls d oe) (hf : ∃ vs, oe.data = .fields vs) : CallR (X.suite a ((a, oe) :: pn)) (.builtin "isinstance") (rIsX K cls d a) := by
  subst h
  exact call_isX hz hf
theorem xpe_xf2 {a : Addr} {oe : Obj} {cls : Value} {d : Option Addr} {pn : List (Addr × Obj)} {e : Expr} {te : TE} {pos : Pos} {n : Str} (h : X.K = K) (hz : Zc cls d oe) (hf : ∃ vs, oe.data = .fields vs) (he : PE (X.suite a ((a, oe) :: pn)) e te) (hb : attributeBase e n X.env (eval e X.env) = eval e X.env := by rfl) :
    PE (X.suite a ((a, oe) :: pn)) (.Attribute e n pos) (tXf2 K a cls d n te) := by
  subst h
  exact pe_xf2 hz hf he hb
theorem xmt_countF (h : X.K = K) : MtR X "list.count" (rCntF K) := by
  subst h
  exact mt_countF
theorem xmt_index (h : X.K = K) : MtR X "list.index" (rIndex K) := by
  subst h
  exact mt_index
theorem xpe_bm {o e : Expr} {es : List Expr} {to : TE} {t : TA} {name : Str} {apos cpos : Pos} {T id : String} {r : V → List V → Hp → VK → Prop} (h : X.K = K) (pa : PlainAttrs T) (slot : Slot T name id) (hty : typeOf (.builtin id) = pure (.type "method_descriptor")) (hm : MtR X id r) (ho : PE X o to) (ha : PA X (e :: es) t)
    (hbase : attributeBase o name X.env (eval o X.env) = eval o X.env := by rfl)
    (hfew : ((backTo cpos (starEach (e :: es) X.env)).all (fun x => !x.1) && (backToKw cpos (keywordEach [] X.env)).all (fun x => x.1.isSome)
      && decide ((e :: es).length + ([] : List Keyword).length + (if ([] : List Keyword).isEmpty then 0 else 1) < 30)) = true := by rfl)
    (hline : (apos.endLine == cpos.line) = true := by rfl) (hs : starEach (e :: es) X.env = (false, eval e X.env) :: starEach es X.env := by rfl) (hplain : (backTo cpos (starEach es X.env)).any (·.1) = false := by rfl) :
    PE X (.Call (.Attribute o name apos) (e :: es) [] cpos) (tBM K T r to t) := by
  subst h
  exact pe_bm pa slot hty hm ho ha hbase hfew hline hs hplain
end
end Mh
/-! MhWord -/
namespace Mh
open PySem PySem.Spec PyProof.Rows L2
/-! ### the word of what is refused -/
def WDS : List Str := ["question", "seed", "name", "many", "taken", "nomachine", "notask", "score", "norun", "notranked", "share", "notahead", "nopage", "machine", "text", "task", "deed"]
def wd (x : Str) : Str := WDS.getD (EXS.idxOf x) ""
def kindsX (x : Str) : List V := EXS.map fun y => V.bl (decide (x = y))
theorem kinds_cnt : ∀ x ∈ EXS, cntV (.bl true) (kindsX x) = 1 := by decide +kernel
theorem kinds_at : ∀ x ∈ EXS, (kindsX x)[EXS.idxOf x]? = some (.bl true) := by decide +kernel
theorem kinds_no : ∀ x ∈ EXS, ((kindsX x).take (EXS.idxOf x)).all (fun z => !eqV z (.bl true)) = true := by decide +kernel
theorem kinds_flat (x : Str) : (kindsX x).all flatV = true := rfl
theorem idx_lt : ∀ x ∈ EXS, EXS.idxOf x < 17 := by decide +kernel
theorem wds_at : ∀ x ∈ EXS, (WDS.map V.str)[EXS.idxOf x]? = some (.str (wd x)) := by decide +kernel
/-- the field in which the number is kept -/
def xfd (x : Str) : Option Str := if x = "BadMachine" ∨ x = "BadText" then some "row" else if x = "BadTask" ∨ x = "BadDeed" then some "number" else none
theorem wd_in1 : ∀ x ∈ EXS, inV (.str (wd x)) [.str "machine", .str "text"] = decide (xfd x = some "row") := by decide +kernel
theorem wd_in2 : ∀ x ∈ EXS, inV (.str (wd x)) [.str "task", .str "deed"] = decide (xfd x = some "number") := by decide +kernel
theorem xfd_none : ∀ x ∈ EXS, decide (xfd x = some "row") = false → decide (xfd x = some "number") = false → xfd x = none := by decide +kernel
structure Refd (K : PySem.W.Frag) (mg : Str → Option Value) (x : Str) (r : Int) (cls : Value) (d : Option Addr) (H : Hp) : Prop where
  m : x ∈ EXS
  k : ExK K mg x
  c : cls = xC K x
  f : match xfd x with
    | none => d = none ∧ r = 0
    | some f => PySem.W.findIn K (xC K x) f = some none ∧ ∃ dd, d = some dd ∧ H dd = some (.xd [(f, .int r)])
theorem Refd.cau {K : PySem.W.Frag} {mg : Str → Option Value} {x : Str} {r : Int} {cls : Value} {d : Option Addr} {H : Hp} (R : Refd K mg x r cls d H) : Cau K cls d (He.ga K x) H := by
  refine ⟨R.c, R.k.c, ?_⟩
  have := R.f
  split at this
  · exact .inl this.1
  · obtain ⟨_, dd, e, h⟩ := this
    exact .inr ⟨dd, _, e, h⟩
def spWordOf (P : Program) (w : World) (K : PySem.W.Frag) (mg : Str → Option Value) (base : Heap) : Sp := fun vs H Q _ => ∃ (f : Addr) (sp : Hp → VK → XK → Prop), vs = [.ref f] ∧ LHeld P w K mg base 15 f sp ∧
  ∀ (Q' : VK) (E' : XK), (∀ v H', Q .non H' → Q' v H') → (∀ cls d H', (∃ x r, Refd K mg x r cls d H' ∧ ∀ H'' p, Fx [] H' H'' → H' p = none → H'' p = some (.tup [.str (wd x), .int r]) → Q (.ref p) H'') → E' cls d H') → sp H Q' E'
theorem sc_l_word_of : FnScope ["_law_work", "_law_kinds", "_law_names", "_law_name", "e"] ["_law_work"] (defScope s_l_word_of) := ⟨rfl, rfl, rfl, by decide +kernel, rfl, by decide +kernel, by decide +kernel⟩
theorem ok_l_word_of {P : Program} {w : World} {K : PySem.W.Frag} {mg : Str → Option Value} {base : Heap} (T : Tx K mg) : Def P w K mg base CX0 17 "_law_word_of" ["_law_work"] (spWordOf P w K mg base) := by
  obtain ⟨fd, F⟩ := T.d_l_word_of
  refine ⟨_, fd, F.ok sc_l_word_of (fun vs H Q E h => ?_) (fun cdv A outer s H vs Q E hr h => ?_), F.bindsN fun _ _ _ _ _ _ us hl => match us, hl with | [_], _ => rfl, T.g_l_word_of, F.kp⟩
  · obtain ⟨f, sp, rfl, _⟩ := h
    rfl
  · obtain ⟨f, sp, rfl, L, h⟩ := h
    refine ⟨_, PSs.nox (pss_cons (ps_try_as (i := 4) rfl rfl sc_l_word_of.nd rfl rfl ⟨rfl, by decide, .inl T.g_HallError⟩ L2.takes0 (fun W pn xe tk _ => (pss_one (ps_expr (xpe_callH (P := P) (w := w) (K := K) (mg := mg) (base := base) (k := 15) (i := 0) rfl rfl rfl rfl rfl (hr.mono (by omega)) rfl (by first | exact Or.inl rfl | exact Or.inr (Or.inl rfl)) tk))))
        (fun a oe cls d pn hz hf => (pss_cons (ps_if (pt_not (pt_val (pe_callB (xcall_isX (K := K) rfl hz hf) (by rfl) T.f_isinstance (by decide +kernel) (pa_cons (pv 4) (pa_cons (gT (n := "ValueError") T.f_ValueError) pa_nil)))))
        (pss_one (ps_ret (pe_tup (pa_cons pe_str (pa_cons pe_int pa_nil)))))
        pss_nil)
        (pss_cons (ps_set (i := 1) sc_l_word_of.nd rfl (by first | exact Or.inl rfl | exact Or.inr rfl) (pe_lst (pa_cons (pe_callB (xcall_isX (K := K) rfl hz hf) (by rfl) T.f_isinstance (by decide +kernel) (pa_cons (pv 4) (pa_cons (pe_glob (v := V.ref (He.ga K "BadQuestion")) (by rfl) T.g_BadQuestion rfl) pa_nil))) (pa_cons (pe_callB (xcall_isX (K := K) rfl hz hf) (by rfl) T.f_isinstance (by decide +kernel) (pa_cons (pv 4) (pa_cons (pe_glob (v := V.ref (He.ga K "BadSeed")) (by rfl) T.g_BadSeed rfl) pa_nil))) (pa_cons (pe_callB (xcall_isX (K := K) rfl hz hf) (by rfl) T.f_isinstance (by decide +kernel) (pa_cons (pv 4) (pa_cons (pe_glob (v := V.ref (He.ga K "BadName")) (by rfl) T.g_BadName rfl) pa_nil))) (pa_cons (pe_callB (xcall_isX (K := K) rfl hz hf) (by rfl) T.f_isinstance (by decide +kernel) (pa_cons (pv 4) (pa_cons (pe_glob (v := V.ref (He.ga K "TooMany")) (by rfl) T.g_TooMany rfl) pa_nil))) pa_nil))))))
        (pss_cons (ps_set (i := 1) sc_l_word_of.nd rfl (by first | exact Or.inl rfl | exact Or.inr rfl) (pe_op op_cat (pv 1) (pe_lst (pa_cons (pe_callB (xcall_isX (K := K) rfl hz hf) (by rfl) T.f_isinstance (by decide +kernel) (pa_cons (pv 4) (pa_cons (pe_glob (v := V.ref (He.ga K "Taken")) (by rfl) T.g_Taken rfl) pa_nil))) (pa_cons (pe_callB (xcall_isX (K := K) rfl hz hf) (by rfl) T.f_isinstance (by decide +kernel) (pa_cons (pv 4) (pa_cons (pe_glob (v := V.ref (He.ga K "NoMachine")) (by rfl) T.g_NoMachine rfl) pa_nil))) (pa_cons (pe_callB (xcall_isX (K := K) rfl hz hf) (by rfl) T.f_isinstance (by decide +kernel) (pa_cons (pv 4) (pa_cons (pe_glob (v := V.ref (He.ga K "NoTask")) (by rfl) T.g_NoTask rfl) pa_nil))) pa_nil))))))
        (pss_cons (ps_set (i := 1) sc_l_word_of.nd rfl (by first | exact Or.inl rfl | exact Or.inr rfl) (pe_op op_cat (pv 1) (pe_lst (pa_cons (pe_callB (xcall_isX (K := K) rfl hz hf) (by rfl) T.f_isinstance (by decide +kernel) (pa_cons (pv 4) (pa_cons (pe_glob (v := V.ref (He.ga K "BadScore")) (by rfl) T.g_BadScore rfl) pa_nil))) (pa_cons (pe_callB (xcall_isX (K := K) rfl hz hf) (by rfl) T.f_isinstance (by decide +kernel) (pa_cons (pv 4) (pa_cons (pe_glob (v := V.ref (He.ga K "NoRun")) (by rfl) T.g_NoRun rfl) pa_nil))) (pa_cons (pe_callB (xcall_isX (K := K) rfl hz hf) (by rfl) T.f_isinstance (by decide +kernel) (pa_cons (pv 4) (pa_cons (pe_glob (v := V.ref (He.ga K "NotRanked")) (by rfl) T.g_NotRanked rfl) pa_nil))) pa_nil))))))
        (pss_cons (ps_set (i := 1) sc_l_word_of.nd rfl (by first | exact Or.inl rfl | exact Or.inr rfl) (pe_op op_cat (pv 1) (pe_lst (pa_cons (pe_callB (xcall_isX (K := K) rfl hz hf) (by rfl) T.f_isinstance (by decide +kernel) (pa_cons (pv 4) (pa_cons (pe_glob (v := V.ref (He.ga K "BadShare")) (by rfl) T.g_BadShare rfl) pa_nil))) (pa_cons (pe_callB (xcall_isX (K := K) rfl hz hf) (by rfl) T.f_isinstance (by decide +kernel) (pa_cons (pv 4) (pa_cons (pe_glob (v := V.ref (He.ga K "NotAhead")) (by rfl) T.g_NotAhead rfl) pa_nil))) (pa_cons (pe_callB (xcall_isX (K := K) rfl hz hf) (by rfl) T.f_isinstance (by decide +kernel) (pa_cons (pv 4) (pa_cons (pe_glob (v := V.ref (He.ga K "NoPage")) (by rfl) T.g_NoPage rfl) pa_nil))) pa_nil))))))
        (pss_cons (ps_set (i := 1) sc_l_word_of.nd rfl (by first | exact Or.inl rfl | exact Or.inr rfl) (pe_op op_cat (pv 1) (pe_lst (pa_cons (pe_callB (xcall_isX (K := K) rfl hz hf) (by rfl) T.f_isinstance (by decide +kernel) (pa_cons (pv 4) (pa_cons (pe_glob (v := V.ref (He.ga K "BadMachine")) (by rfl) T.g_BadMachine rfl) pa_nil))) (pa_cons (pe_callB (xcall_isX (K := K) rfl hz hf) (by rfl) T.f_isinstance (by decide +kernel) (pa_cons (pv 4) (pa_cons (pe_glob (v := V.ref (He.ga K "BadText")) (by rfl) T.g_BadText rfl) pa_nil))) (pa_cons (pe_callB (xcall_isX (K := K) rfl hz hf) (by rfl) T.f_isinstance (by decide +kernel) (pa_cons (pv 4) (pa_cons (pe_glob (v := V.ref (He.ga K "BadTask")) (by rfl) T.g_BadTask rfl) pa_nil))) pa_nil))))))
        (pss_cons (ps_expr (xpe_bm (K := K) rfl PySem.F.plainAttrs_list PySem.F.slot_list_append PySem.F.type_list_append mt_append (pv 1) (pa_cons (pe_callB (xcall_isX (K := K) rfl hz hf) (by rfl) T.f_isinstance (by decide +kernel) (pa_cons (pv 4) (pa_cons (pe_glob (v := V.ref (He.ga K "BadDeed")) (by rfl) T.g_BadDeed rfl) pa_nil))) pa_nil)))
        (pss_cons (ps_if (pt_cmpR op_ne (xpe_bm (K := K) rfl PySem.F.plainAttrs_list PySem.F.slot_list_count PySem.F.type_list_count (xmt_countF (K := K) rfl) (pv 1) (pa_cons pe_bl pa_nil)) pe_int (nomark _))
        (pss_one (ps_ret (pe_tup (pa_cons pe_str (pa_cons pe_int pa_nil)))))
        pss_nil)
        (pss_cons (ps_set (i := 2) sc_l_word_of.nd rfl (by first | exact Or.inl rfl | exact Or.inr rfl) (pe_lst (pa_cons pe_str (pa_cons pe_str (pa_cons pe_str (pa_cons pe_str (pa_cons pe_str (pa_cons pe_str (pa_cons pe_str (pa_cons pe_str (pa_cons pe_str (pa_cons pe_str pa_nil))))))))))))
        (pss_cons (ps_set (i := 3) sc_l_word_of.nd rfl (by first | exact Or.inl rfl | exact Or.inr rfl) (pe_ix (kix_list (K := K) rfl) (pe_op op_cat (pv 2) (pe_lst (pa_cons pe_str (pa_cons pe_str (pa_cons pe_str (pa_cons pe_str (pa_cons pe_str (pa_cons pe_str (pa_cons pe_str pa_nil))))))))) (xpe_bm (K := K) rfl PySem.F.plainAttrs_list PySem.F.slot_list_index PySem.F.type_list_index (xmt_index (K := K) rfl) (pv 1) (pa_cons pe_bl pa_nil)) (fun _ _ => rfl)))
        (pss_cons (ps_if (pt_cmpR (kop_in (K := K) rfl) (pv 3) (pe_tup (pa_cons pe_str (pa_cons pe_str pa_nil))) (by rfl))
        (pss_one (ps_ret (pe_tup (pa_cons (pv 3) (pa_cons (xpe_xf2 (K := K) rfl hz hf (pv 4)) pa_nil)))))
        pss_nil)
        (pss_one (ps_ret (pe_tup (pa_cons (pv 3) (pa_cons (pe_ifExp (pt_cmpR (kop_in (K := K) rfl) (pv 3) (pe_tup (pa_cons pe_str (pa_cons pe_str pa_nil))) (by rfl)) (xpe_xf2 (K := K) rfl hz hf (pv 4)) pe_int) pa_nil))))))))))))))))))
        (pss_one (ps_ret pe_non))), ?_⟩
    refine ⟨f, sp, rfl, L, h _ _ (fun v H' q => q) (fun cls d H1 ⟨x, r, R, q⟩ => ⟨true, by rw [R.c]; exact R.k.he, fun _ a ha => ?_, fun z => nomatch z⟩)⟩
    have C := R.cau
    have is : ∀ (y : Str) (Q : VK) (σ : L2.St) (H : Hp), Cau K cls d (He.ga K x) H → σ[4]? = some (some (.ref a)) → y ∈ EXS → Q (.bl (decide (x = y))) H → tCB (rIsX K cls d a) (tCons (tVar 4) (tCons (tC (.ref (He.ga K y))) tNil)) σ H Q := fun y Q σ H C hs hy q =>
      ⟨_, hs, He.ga K x, C, _, _, _, rfl, fun _ e => e, R.k.ki y hy, q⟩
    have st : ∀ (y1 y2 y3 : Str) (Q : VK) (σ : L2.St) (H : Hp) (p : Addr) (xs : List V), Cau K cls d (He.ga K x) H → σ[4]? = some (some (.ref a)) → σ[1]? = some (some (.ref p)) → y1 ∈ EXS → y2 ∈ EXS → y3 ∈ EXS → H p = some (.lst xs) → xs.length ≤ 100 →
        (∀ H' q, Fx [] H H' → H q = none → H' q = some (.lst (xs ++ [.bl (decide (x = y1)), .bl (decide (x = y2)), .bl (decide (x = y3))])) → Q (.ref q) H') →
        tOp rCat (tVar 1) (tLst (tCons (tCB (rIsX K cls d a) (tCons (tVar 4) (tCons (tC (.ref (He.ga K y1))) tNil))) (tCons (tCB (rIsX K cls d a) (tCons (tVar 4) (tCons (tC (.ref (He.ga K y2))) tNil))) (tCons (tCB (rIsX K cls d a) (tCons (tVar 4) (tCons (tC (.ref (He.ga K y3))) tNil))) tNil)))) σ H Q := fun y1 y2 y3 Q σ H p xs C h4 h1 m1 m2 m3 hp hl q => by
      refine ⟨_, h1, is _ _ _ _ C h4 m1 (is _ _ _ _ C h4 m2 (is _ _ _ _ C h4 m3 ⟨by show 3 ≤ sizeLine; decide, fun b nb => ?_⟩))⟩
      have f1 : Fx [] H (upd H b (.lst [.bl (decide (x = y1)), .bl (decide (x = y2)), .bl (decide (x = y3))])) := Fx.new nb
      refine ⟨_, _, _, _, rfl, rfl, f1.to hp (fun z => nomatch z), upd_same, Nat.le_trans (m := 1000) (by simp only [List.length_cons, List.length_nil]; omega) (by decide), fun c nc => q _ c (f1.trans (Fx.new nc)) (f1.free nc) upd_same⟩
    refine ⟨_, rfl, He.ga K x, C, _, .type "ValueError", true, rfl, fun _ e => e, R.k.ve, _, rfl, ifF rfl ?_⟩
    refine is _ _ _ _ C rfl (by decide +kernel) (is _ _ _ _ C rfl (by decide +kernel) (is _ _ _ _ C rfl (by decide +kernel) (is _ _ _ _ C rfl (by decide +kernel) ⟨by show 4 ≤ sizeLine; decide, fun p1 n1 => ?_⟩)))
    have f1 : Fx [] H1 (upd H1 p1 (.lst [.bl (decide (x = "BadQuestion")), .bl (decide (x = "BadSeed")), .bl (decide (x = "BadName")), .bl (decide (x = "TooMany"))])) := Fx.new n1
    have g1 : upd H1 p1 (.lst [.bl (decide (x = "BadQuestion")), .bl (decide (x = "BadSeed")), .bl (decide (x = "BadName")), .bl (decide (x = "TooMany"))]) p1 = some (.lst [.bl (decide (x = "BadQuestion")), .bl (decide (x = "BadSeed")), .bl (decide (x = "BadName")), .bl (decide (x = "TooMany"))]) := upd_same
    generalize upd H1 p1 (.lst [.bl (decide (x = "BadQuestion")), .bl (decide (x = "BadSeed")), .bl (decide (x = "BadName")), .bl (decide (x = "TooMany"))]) = H2 at f1 g1
    refine st _ _ _ _ _ _ p1 _ (C.fx f1) rfl rfl (by decide +kernel) (by decide +kernel) (by decide +kernel) g1 (by simp) fun H3 p2 f2 n2 g2 => ?_
    have f12 := f1.trans f2
    refine st _ _ _ _ _ _ p2 _ (C.fx f12) rfl rfl (by decide +kernel) (by decide +kernel) (by decide +kernel) g2 (by simp) fun H4 p3 f3 n3 g3 => ?_
    have f13 := f12.trans f3
    refine st _ _ _ _ _ _ p3 _ (C.fx f13) rfl rfl (by decide +kernel) (by decide +kernel) (by decide +kernel) g3 (by simp) fun H5 p4 f4 n4 g4 => ?_
    have f14 := f13.trans f4
    refine st _ _ _ _ _ _ p4 _ (C.fx f14) rfl rfl (by decide +kernel) (by decide +kernel) (by decide +kernel) g4 (by simp) fun H6 p5 f5 n5 g5 => ?_
    have f15 := f14.trans f5
    have m5 := f14.free n5
    refine ⟨_, rfl, .inl ⟨rfl, _, SqL.of g5⟩, is _ _ _ _ (C.fx f15) rfl (by decide +kernel) ⟨p5, _, _, rfl, rfl, g5, by show 16 < sizeLine; decide, ?_⟩⟩
    have f16 := f15.loc (o := .lst (kindsX x)) m5 (Chg.lst g5)
    have g6 : upd H6 p5 (.lst (kindsX x)) p5 = some (.lst (kindsX x)) := upd_same
    refine (show ∀ Hx : Hp, Hx = upd H6 p5 (.lst (kindsX x)) → _ from fun Hx eH => ?_) _ rfl
    rw [← eH] at f16 g6
    clear eH
    refine ⟨_, rfl, .inl ⟨rfl, _, SqL.of g6⟩, p5, _, _, rfl, rfl, SqL.of g6, rfl, kinds_flat x, ?_⟩
    rw [kinds_cnt x R.m]
    refine ⟨rfl, _, rfl, ifF rfl ?_⟩
    refine ⟨by show 10 ≤ sizeLine; decide, fun pn nn => ?_⟩
    have f17 := f16.trans (Fx.new (M := []) (o := .lst ((WDS.take 10).map V.str)) nn)
    have g7 : upd Hx pn (.lst ((WDS.take 10).map V.str)) pn = some (.lst ((WDS.take 10).map V.str)) := upd_same
    have g8 : upd Hx pn (.lst ((WDS.take 10).map V.str)) p5 = some (.lst (kindsX x)) := (Fx.new (M := []) nn).to g6 fun z => nomatch z
    refine (show ∀ Hy : Hp, Hy = upd Hx pn (.lst ((WDS.take 10).map V.str)) → _ from fun Hy eH => ?_) _ rfl
    rw [← eH] at f17 g7 g8
    clear eH
    refine ⟨_, rfl, by show 7 ≤ sizeLine; decide, fun qn nq => ?_⟩
    have h1 : Fx [] Hy (upd Hy qn (.lst ((WDS.drop 10).map V.str))) := Fx.new nq
    refine ⟨_, _, _, _, rfl, rfl, h1.to g7 (fun z => nomatch z), upd_same, by show 17 ≤ sizeLine; decide, fun rn nr => ?_⟩
    have h2 : Fx [] Hy (upd (upd Hy qn (.lst ((WDS.drop 10).map V.str))) rn (.lst (WDS.map V.str))) := h1.trans (Fx.new nr)
    have g9 := h2.to g8 fun z => nomatch z
    have g10 : upd (upd Hy qn (.lst ((WDS.drop 10).map V.str))) rn (.lst (WDS.map V.str)) rn = some (.lst (WDS.map V.str)) := upd_same
    refine (show ∀ Hz : Hp, Hz = upd (upd Hy qn (.lst ((WDS.drop 10).map V.str))) rn (.lst (WDS.map V.str)) → _ from fun Hz eH => ?_) _ rfl
    rw [← eH] at h2 g9 g10
    clear eH
    have f18 := f17.trans h2
    refine ⟨_, rfl, .inl ⟨rfl, _, SqL.of g9⟩, p5, kindsX x, .bl true, EXS.idxOf x, _, rfl, rfl, SqL.of g9, rfl, kinds_flat x, kinds_at x R.m, rfl, fun m z' hm hz => ?_, ?_⟩
    · have h3 := List.all_eq_true.mp (kinds_no x R.m) z' (List.mem_of_getElem? (i := m) (by rw [List.getElem?_take_of_lt hm]; exact hz))
      cases h4 : eqV z' (.bl true) with
      | false => rfl
      | true => rw [h4] at h3; cases h3
    refine ⟨rn, _, ((EXS.idxOf x : Nat) : Int), .str (wd x), rfl, rfl, SqL.of g10, atI_nat (wds_at x R.m), ?_⟩
    refine ⟨_, rfl, by show 2 ≤ sizeLine; decide, fun t1 nt1 => ⟨t1, _, rfl, .inr (SqT.of upd_same), rfl, rfl, _, rfl, ?_⟩⟩
    rw [if_neg (by decide)]
    have f19 := f18.trans (Fx.new (M := []) (o := .tup [.str "machine", .str "text"]) nt1)
    refine (show ∀ Hw : Hp, Hw = upd Hz t1 (.tup [.str "machine", .str "text"]) → _ from fun Hw eH => ?_) _ rfl
    rw [← eH] at f19
    clear eH
    rw [wd_in1 x R.m]
    have hf := R.f
    refine ifB (fun c => ?_) (fun c => ?_)
    · rw [of_decide_eq_true c] at hf
      obtain ⟨hno, dd, ed, hd⟩ := hf
      refine ⟨_, rfl, _, rfl, rfl, He.ga K x, dd, _, .int r, R.c, R.k.c, hno, ed, f19.to hd (fun z => nomatch z), rfl, ?_⟩
      exact ⟨by show 2 ≤ sizeLine; decide, fun p np => q _ p (f19.trans (Fx.new np)) (f19.free np) upd_same⟩
    · refine ⟨_, rfl, _, rfl, by show 2 ≤ sizeLine; decide, fun t2 nt2 => ⟨t2, _, rfl, .inr (SqT.of upd_same), rfl, rfl, _, rfl, ?_⟩⟩
      rw [if_neg (by decide)]
      have f20 := f19.trans (Fx.new (M := []) (o := .tup [.str "task", .str "deed"]) nt2)
      refine (show ∀ Hv : Hp, Hv = upd Hw t2 (.tup [.str "task", .str "deed"]) → _ from fun Hv eH => ?_) _ rfl
      rw [← eH] at f20
      clear eH
      rw [wd_in2 x R.m]
      refine ifB (fun c2 => ?_) (fun c2 => ?_)
      · rw [of_decide_eq_true c2] at hf
        obtain ⟨hno, dd, ed, hd⟩ := hf
        refine ⟨_, rfl, rfl, He.ga K x, dd, _, .int r, R.c, R.k.c, hno, ed, f20.to hd (fun z => nomatch z), rfl, ?_⟩
        exact ⟨by show 2 ≤ sizeLine; decide, fun p np => q _ p (f20.trans (Fx.new np)) (f20.free np) upd_same⟩
      · rw [xfd_none x R.m c c2] at hf
        obtain ⟨_, rfl⟩ := hf
        exact ⟨by show 2 ≤ sizeLine; decide, fun p np => q _ p (f20.trans (Fx.new np)) (f20.free np) upd_same⟩
end Mh
/-! MhRefW -/
namespace Mh
open PySem PySem.Spec PyProof.Rows L2
/-- f, called, refuses by x with the number r, and changes nothing -/
structure RefW (P : Program) (w : World) (K : PySem.W.Frag) (mg : Str → Option Value) (base : Heap) (x : Str) (r : Int) (f : Addr) (H : Hp) : Prop where
  ex : ∃ sp : Hp → VK → XK → Prop, LHeld P w K mg base 15 f sp ∧ ∀ (H1 : Hp) (Q' : VK) (E' : XK), Fx [] H H1 → (∀ cls d H', Fx [] H1 H' → Refd K mg x r cls d H' → E' cls d H') → sp H1 Q' E'
theorem RefW.up {P : Program} {w : World} {K : PySem.W.Frag} {mg : Str → Option Value} {base : Heap} {x : Str} {r : Int} {f : Addr} {H H' : Hp} (a : RefW P w K mg base x r f H) (g : Fx [] H H') : RefW P w K mg base x r f H' :=
  let ⟨sp, L, h⟩ := a.ex; ⟨sp, L, fun H1 Q' E' g1 k => h H1 Q' E' (g.trans g1) k⟩
/-- its word is asked -/
theorem RefW.word {P : Program} {w : World} {K : PySem.W.Frag} {mg : Str → Option Value} {base : Heap} {x : Str} {r : Int} {f : Addr} {H : Hp} (a : RefW P w K mg base x r f H) {Q : VK} {E : XK} (q : ∀ H' p, Fx [] H H' → H p = none → H' p = some (.tup [.str (wd x), .int r]) → Q (.ref p) H') : spWordOf P w K mg base [.ref f] H Q E := by
  obtain ⟨sp, L, h⟩ := a.ex
  exact ⟨f, sp, rfl, L, fun Q' E' _ k => h H Q' E' .refl fun cls d H' g R => k cls d H' ⟨x, r, R, fun H'' p g2 n e => q H'' p (g.trans g2) (g.free n) e⟩⟩
def spAre (P : Program) (w : World) (K : PySem.W.Frag) (mg : Str → Option Value) (base : Heap) : Sp := fun vs H Q _ => ∃ (l : Addr) (fs : List Addr) (x : Str), vs = [.ref l, .str (wd x)] ∧ x ∈ EXS ∧ SqL K H l (fs.map V.ref) ∧ fs.length ≤ 100 ∧ (∀ f ∈ fs, RefW P w K mg base x 0 f H) ∧ ∀ H', Fx [] H H' → Q (.bl true) H'
theorem wd_lay : ∀ x ∈ EXS, (PyData.str (wd x)).canLay0 = true := by decide +kernel
theorem wd_shaped {x : Str} (hx : x ∈ EXS) (r : Int) : SeqAt.shaped (.tuple [.str (wd x), .int r]) = true := by
  unfold SeqAt.shaped
  have h := wd_lay x hx
  simp only [PyData.canLay0, PyData.canLayAll0, PyData.depth, PyData.depthAll, Bool.and_true, Bool.and_eq_true, decide_eq_true_eq] at h ⊢
  exact ⟨h, by simp⟩
theorem nil_eqv : PyData.eqv (.list []) (.list []) = true := by decide +kernel
end Mh
/-! MhRef -/
namespace Mh
open PySem PySem.Spec PyProof.Rows L2 LamX
section
variable {P : Program} {w : World} {K : PySem.W.Frag} {mg : Str → Option Value} {base : Heap}
/-- a def whose code object is known by its place -/
theorem okC {x qual : Str} {params : Arguments} {body : List Stmt} {scope : Scope} {dvs : List V} {kws : List (Str × V)} {p : He.Defn} {fd : FuncData} {CX : CXT} {N ps : List Str} {k : Nat} {sp : Sp} (F : FunD K x qual params body scope dvs kws (He.fAd K p) fd) (S : FnScope N ps scope) (len : ∀ vs H Q E, sp vs H Q E → vs.length = ps.length)
    (hbody : ∀ (A : Around) (outer : List Env) (s : Shared) (H : Hp) (vs : List V) (Q : VK) (E : XK), Room k (A.deeper (envOfC qual scope s.heap.objs.size (He.fAd K p) (.ref (He.cT K p).1))) → sp vs H Q E →
      ∃ t, PSs (cxOf CX P w K mg base N qual scope (He.fAd K p) (.ref (He.cT K p).1) A outer s H E) body t ∧ t { nx := fun _ H' => Q .non H', rt := Q } (start N vs) H) : FnOk P w K mg base CX (k + 1) (He.fAd K p) fd ps sp := by
  obtain ⟨oc, od, dV, kV, doc, pm, an, cdv, ct, osl, rfl, lk, hcd, _, _⟩ := F.ex
  obtain ⟨c, rfl⟩ := He.codeIn_ref hcd
  have e : (He.cT K p).1 = c := He.codeOf_eq lk rfl
  rw [← e] at hcd lk ⊢
  exact fn_of lk hcd S len fun A outer s H vs Q E hr hsp => hbody A outer s H vs Q E hr hsp
theorem Refd.up {x : Str} {r : Int} {cls : Value} {d : Option Addr} {H H' : Hp} (R : Refd K mg x r cls d H) (g : Fx [] H H') : Refd K mg x r cls d H' := by
  refine ⟨R.m, R.k, R.c, ?_⟩
  have h := R.f
  cases e : xfd x with
  | none => rw [e] at h; exact h
  | some f =>
    rw [e] at h
    obtain ⟨a, dd, b, c⟩ := h
    exact ⟨a, dd, b, g.to c fun z => nomatch z⟩
theorem ExN.refd {x f : Str} (F : ExN K mg x f) {r : Int} {H1 : Hp} {d : Addr} (hx : x ∈ EXS := by decide +kernel) (hf : xfd x = some f := by decide +kernel) : Refd K mg x r (xC K x) (some d) (upd H1 d (.xd [(f, .int r)])) :=
  ⟨hx, F.toExK, rfl, by rw [hf]; exact ⟨F.n, d, rfl, upd_same⟩⟩
theorem ExT.refd {x : Str} (F : ExT K mg x) {H : Hp} (hx : x ∈ EXS := by decide +kernel) (hf : xfd x = none := by decide +kernel) : Refd K mg x 0 (xC K x) none H := ⟨hx, F.toExK, rfl, by rw [hf]; exact ⟨rfl, rfl⟩⟩
/-- a lambda whose body refuses -/
theorem LamP.ref {cells : List (Str × Addr)} {fr : List Str} {ds : List V} {t : XK → TE} {f : Addr} {H1 : Hp} {x : Str} {r : Int} (L : LamP P w K mg base 15 cells fr ds t f H1) {val : List (Str × V)} {pn : Pins} (hv : fr.all (fun y => (val.lookup y).isSome) = true) (C : CapP cells val pn) (n : Free H1 pn)
    (h : ∀ (H2 : Hp) (E : XK) (Q : VK), Fx [] H1 H2 → (∀ cls d H', Fx [] H2 H' → Refd K mg x r cls d H' → E cls d H') → t E (ds.map some ++ fr.map fun y => val.lookup y) H2 Q) : RefW P w K mg base x r f (addP pn H1) := by
  obtain ⟨lie, a, b, c⟩ := L.ex
  refine ⟨_, c val pn hv C, fun H2 Q' E' g k => ⟨b [] _ _ a ((Fx.add n).trans g) (fun _ m => nomatch m), Lie.add.fx g, h _ _ _ (Fx.off n g) fun cls d H' g2 R n' => ?_⟩⟩
  exact k _ _ _ (Fx.back (Lie.add.fx g) g2) (R.up (Fx.add n'))
/-- the word of a lambda's own call, asked while the cells are pinned -/
theorem LamP.word {cells : List (Str × Addr)} {fr : List Str} {ds : List V} {t : XK → TE} {f : Addr} {H1 : Hp} (L : LamP P w K mg base 15 cells fr ds t f H1) {val : List (Str × V)} {pn : Pins} (hv : fr.all (fun y => (val.lookup y).isSome) = true) (C : CapP cells val pn) (n : Free H1 pn) {Q : VK} {E : XK}
    (h : ∀ (E' : XK) (Q' : VK), (∀ v H', Q .non H' → Q' v H') → (∀ cls d H' x r, Refd K mg x r cls d H' → (∀ H'' p, Fx [] H' H'' → H' p = none → H'' p = some (.tup [.str (wd x), .int r]) → Q (.ref p) H'') → E' cls d H') → t E' (ds.map some ++ fr.map fun y => val.lookup y) H1 Q') :
    spWordOf P w K mg base [.ref f] (addP pn H1) (fun v H' => Q v (delP pn H')) E := by
  obtain ⟨lie, a, b, c⟩ := L.ex
  refine ⟨f, _, rfl, c val pn hv C, fun Q' E' hq he => ⟨b [] _ _ a (Fx.add n) (fun _ m => nomatch m), Lie.add, ?_⟩⟩
  rw [off_on n]
  refine h _ _ (fun v H' z n' => hq v _ ?_) (fun cls d H' x r R k n' => he _ _ _ ⟨x, r, R.up (Fx.add n'), fun H'' p g np hp => ?_⟩)
  · show Q .non (delP pn (addP pn H'))
    rw [off_on n']
    exact z
  · have hl : pn.lookup p = none := by
      cases e : pn.lookup p with
      | none => rfl
      | some o => rw [addP_in e] at np; cases np
    exact k _ p (Fx.off n' g) (by rwa [addP_out hl] at np) (by rw [delP_out hl]; exact hp)
/-- the same, what is wanted told as it stands -/
theorem LamP.wordR {cells : List (Str × Addr)} {fr : List Str} {ds : List V} {t : XK → TE} {f : Addr} {H1 : Hp} (L : LamP P w K mg base 15 cells fr ds t f H1) {val : List (Str × V)} {pn : Pins} (hv : fr.all (fun y => (val.lookup y).isSome) = true) (C : CapP cells val pn) (n : Free H1 pn) {R : VK} {E : XK}
    (hR : ∀ v H', R v (addP pn (delP pn H')) → R v H')
    (h : ∀ (E' : XK) (Q' : VK), (∀ v H', Free H' pn → R .non (addP pn H') → Q' v H') → (∀ cls d H' x r, Refd K mg x r cls d H' → (∀ H'' p, Free H'' pn → Fx [] H' H'' → H' p = none → H'' p = some (.tup [.str (wd x), .int r]) → R (.ref p) (addP pn H'')) → E' cls d H') → t E' (ds.map some ++ fr.map fun y => val.lookup y) H1 Q') :
    spWordOf P w K mg base [.ref f] (addP pn H1) R E := by
  obtain ⟨lie, a, b, c⟩ := L.ex
  refine ⟨f, _, rfl, c val pn hv C, fun Q' E' hq he => ⟨b [] _ _ a (Fx.add n) (fun _ m => nomatch m), Lie.add, ?_⟩⟩
  rw [off_on n]
  refine h _ _ (fun v H' n1 z n' => hq v _ z) (fun cls d H' x r R2 k n' => he _ _ _ ⟨x, r, R2.up (Fx.add n'), fun H'' p g np hp => hR _ _ ?_⟩)
  have hl : pn.lookup p = none := by
    cases e : pn.lookup p with
    | none => rfl
    | some o => rw [addP_in e] at np; cases np
  exact k _ p Free.del (Fx.off n' g) (by rwa [addP_out hl] at np) (by rw [delP_out hl]; exact hp)
/-- a lambda that refuses, whose work may change M -/
theorem LamP.refM {cells : List (Str × Addr)} {fr : List Str} {ds : List V} {t : XK → TE} {f : Addr} {H1 : Hp} {x : Str} {M : List Addr} {J : Hp → Prop} (L : LamP P w K mg base 15 cells fr ds t f H1) {val : List (Str × V)} {pn : Pins} (hv : fr.all (fun y => (val.lookup y).isSome) = true) (C : CapP cells val pn) (n : Free H1 pn) (hM : ∀ b ∈ M, ∀ p, H1 b ≠ some (.ext p)) (hM2 : ∀ b ∈ M, H1 b ≠ none)
    (jd : ∀ H2, J H2 → J (delP pn H2)) (ja : ∀ H2, Free H2 pn → J H2 → J (addP pn H2))
    (h : ∀ (H2 : Hp) (E : XK) (Q : VK), Fx M H1 H2 → J H2 → (∀ cls d H', Fx M H2 H' → J H' → Refd K mg x 0 cls d H' → E cls d H') → t E (ds.map some ++ fr.map fun y => val.lookup y) H2 Q) :
    ∃ sp : Hp → VK → XK → Prop, LHeld P w K mg base 15 f sp ∧ ∀ (H2 : Hp) (Q' : VK) (E' : XK), Fx M (addP pn H1) H2 → J H2 → (∀ cls d H', Fx M H2 H' → J H' → Refd K mg x 0 cls d H' → E' cls d H') → sp H2 Q' E' := by
  obtain ⟨lie, a, b, c⟩ := L.ex
  have hl : ∀ z ∈ M, pn.lookup z = none := fun z m => by
    cases e : pn.lookup z with
    | none => rfl
    | some o => exact absurd (n z o e) (hM2 z m)
  have lieA : lie (addP pn H1) := b [] _ _ a (Fx.add n) (fun _ m => nomatch m)
  refine ⟨_, c val pn hv C, fun H2 Q' E' g j k => ⟨b M _ _ lieA g (fun z m p e => hM z m p (by rwa [addP_out (hl z m)] at e)), Lie.add.fx g, h _ _ _ (Fx.off n g) (jd _ j) fun cls d H' g2 j2 R n' => ?_⟩⟩
  exact k _ _ _ (Fx.back (Lie.add.fx g) g2) (ja _ n' j2) (R.up (Fx.add n'))
theorem are_vs {l : Addr} {x z : Str} (h : wd x = z) : [V.ref l, V.str z] = [V.ref l, V.str (wd x)] := by rw [h]
theorem are_l {H : Hp} {l : Addr} {xs : List V} {pn : Pins} (n : Free H pn) (h : H l = some (.lst xs)) : SqL K (addP pn H) l xs := (Fx.add (M := []) n).sqL (SqL.of h) fun m => nomatch m
/-- tables stand while a list is changed -/
theorem Tabs.lst {T : List (Addr × Str)} {H H' : Hp} {d : Addr} {l : List V} (t : Tabs T H) (hd : H d = some (.lst l)) (f : Fx [d] H H') : Tabs T H' :=
  Tabs.mv t f (fun p hp m => by obtain ⟨qs, h, _⟩ := t p hp; rw [List.mem_singleton.mp m, hd] at h; cases h) fun c q e m => by rw [List.mem_singleton.mp m, hd] at e; cases e
theorem Tabs.ne {T : List (Addr × Str)} {Pt b : Addr} {q : Str} {H : Hp} {o : HO} (t : Tabs T H) (m : (Pt, q) ∈ T) (e : H b = some o) (n : ∀ z, o ≠ .tbl z) : b ≠ Pt := fun z => by
  subst z
  obtain ⟨qs, h, _⟩ := t _ m
  rw [e] at h
  exact n _ (Option.some.inj h)
/-- what stands is no table -/
theorem Fx.lamTo {T : List (Addr × Str)} {Pt b : Addr} {q : Str} {H H1 : Hp} {o : HO} (g : Fx [Pt] H H1) (t : Tabs T H) (m : (Pt, q) ∈ T) (e : H b = some o) (n : ∀ z, o ≠ .tbl z) : H1 b = some o := by
  obtain ⟨qs, h, _⟩ := t _ m
  refine g.to e fun z => ?_
  have e2 : b = Pt := by simpa using z
  subst e2
  rw [e] at h
  exact n _ (Option.some.inj h)
theorem Fx.lamL {T : List (Addr × Str)} {Pt b : Addr} {q : Str} {H H1 : Hp} {xs : List V} (g : Fx [Pt] H H1) (t : Tabs T H) (m : (Pt, q) ∈ T) (e : SqL K H b xs) : SqL K H1 b xs := by
  rcases e with (e | ⟨o, e⟩) | e
  · exact .inl (.inl (g.lamTo t m e fun z q => nomatch q))
  · exact .inl (.inr ⟨o, g.z _ _ _ e⟩)
  · exact .inr e
end
end Mh
/-! MhXM -/
namespace Mh
open PySem PySem.Spec PyProof.Rows L2
/-! ### need_machine of anything -/
def rowsBad : Nat → List PyData → Option Int
  | _, [] => none
  | i, d :: ds => if i = 12 ∨ rowOk d = false then some (i : Nat) else rowsBad (i + 1) ds
def machBad : PyData → Option Int
  | .tuple (d :: ds) => rowsBad 0 (d :: ds)
  | _ => some (-1)
theorem rowsBad_drop {ds : List PyData} {i : Nat} {d : PyData} (h : ds[i]? = some d) : rowsBad i (ds.drop i) = if i = 12 ∨ rowOk d = false then some ((i : Nat) : Int) else rowsBad (i + 1) (ds.drop (i + 1)) := by
  have hl : i < ds.length := by
    rcases Nat.lt_or_ge i ds.length with h1 | h1
    · exact h1
    · rw [List.getElem?_eq_none h1] at h; cases h
  rw [List.getElem?_eq_getElem hl] at h
  rw [List.drop_eq_getElem_cons hl, Option.some.inj h]
  rfl
theorem rowsBad_ok : ∀ (i : Nat) (ds : List PyData), i + ds.length ≤ 12 → (∀ d ∈ ds, rowOk d = true) → rowsBad i ds = none
  | _, [], _, _ => rfl
  | i, d :: ds, h, g => by
    unfold rowsBad
    rw [List.length_cons] at h
    rw [if_neg (by rw [g d List.mem_cons_self]; intro z; rcases z with z | z; omega; cases z)]
    exact rowsBad_ok (i + 1) ds (by omega) fun d m => g d (List.mem_cons_of_mem _ m)
theorem machBad_ok {m : Mch} (h : m.ok) : machBad (machD m) = none := by
  have hr := mach_rows h
  have hl := h.len
  have hn := h.ne
  unfold machD
  cases m with
  | nil => exact absurd rfl hn
  | cons r m => exact rowsBad_ok 0 _ (by simp only [List.length_cons, List.length_map] at hl ⊢; omega) hr
def spNeedMX (K : PySem.W.Frag) (mg : Str → Option Value) : Sp := fun vs H Q E => ∃ v d, vs = [v] ∧ Dp K H v d ∧ SeqAt.shaped d = true ∧ (machBad d = none → ∀ H', Fx [] H H' → Q .non H') ∧ ∀ r, machBad d = some r → ∀ cls e H', Fx [] H H' → Refd K mg "BadMachine" r cls e H' → E cls e H'
theorem sc_BadMachine_init : FnScope ["self", "row"] ["self", "row"] (defScope s_BadMachine_init) := ⟨rfl, rfl, rfl, by decide +kernel, rfl, by decide +kernel, by decide +kernel⟩
theorem ok_BadMachine_init {P : Program} {w : World} {K : PySem.W.Frag} {mg : Str → Option Value} {base : Heap} (T : Tx K mg) (XD : ExD K) : ∃ fd, FnOk P w K mg base CX0 2 (He.ma K (He.ga K "BadMachine") "__init__") fd ["self", "row"] (spXInit K "BadMachine" "row") ∧ Binds K fd ["self", "row"] [] := by
  obtain ⟨fd, F⟩ := T.d_BadMachine_init
  have xo := xn_BadMachine T XD
  refine ⟨fd, F.ok sc_BadMachine_init (fun vs H Q E h => ?_) (fun cdv A outer s H vs Q E hr h => ?_), F.bindsN fun _ _ _ _ _ _ us hl => match us, hl with | [_, _], _ => rfl⟩
  · obtain ⟨a, v, rfl, _⟩ := h
    rfl
  · obtain ⟨a, v, rfl, ha, q⟩ := h
    refine ⟨_, PSs.nox (pss_cons (ps_expr (pe_hinit (xh T XD) (pa_cons (pv 0) (pa_cons (pv 1) pa_nil)))) (pss_one (ps_ost (pv 0) (pv 1)))), ?_⟩
    exact ⟨_, rfl, _, rfl, a, He.ga K "BadMachine", [v], rfl, by show 1 ≤ 1000; decide, xo.o, ha, ⟨_, rfl, _, rfl, a, He.ga K "BadMachine", rfl, xo.o, xo.n, .inl ⟨ha, fun d hd ne => q d hd ne⟩⟩⟩
theorem okx_need_machine_x {P : Program} {w : World} {K : PySem.W.Frag} {mg : Str → Option Value} {base : Heap} (T : Tx K mg) (XD : ExD K) : Def P w K mg base (L2.CX P w) 4 "need_machine" ["machine"] (spNeedMX K mg) := by
  obtain ⟨fd, F⟩ := T.d_need_machine
  obtain ⟨fd_BadMachine, FI_BadMachine, BI_BadMachine⟩ := ok_BadMachine_init (P := P) (w := w) (base := base) T XD
  have G_is_test := ok_is_test (P := P) (w := w) (base := base) T
  have G_is_answer := ok_is_answer (P := P) (w := w) (base := base) T
  refine ⟨_, fd, F.ok sc_need_machine (fun vs H Q E h => ?_) (fun cdv A outer s H vs Q E hr h => ?_), F.bindsN fun _ _ _ _ _ _ us hl => match us, hl with | [_], _ => rfl, T.g_need_machine, F.kp⟩
  · obtain ⟨v, d, rfl, _⟩ := h
    rfl
  · obtain ⟨v, d, rfl, hd, hsh, qn, qx⟩ := h
    have X1 := xn_BadMachine T XD
    have fin : ∀ (r : Int) H1, machBad d = some r → Fx [] H H1 → ∀ e, H1 e = none → E (xC K "BadMachine") (some e) (upd H1 e (.xd [("row", .int r)])) := fun r H1 hb f e he => qx r hb _ _ _ (f.trans (Fx.new he)) X1.refd
    refine ⟨_, (pss_cons (ps_if (PW.pt (pw_or (pt_not (pt_val (pe_callB call_isiD (by rfl) T.f_isinstance (by decide +kernel) (pa_cons (pv 0) (pa_cons (gT (n := "tuple") T.f_tuple) pa_nil))))) (pw_or1 (pt_cmpR (op_eqD hr.units) (pv 0) (pe_tup pa_nil) (nomark _)))))
        (pss_one (ps_raise rfl (takes_of rfl rfl rfl rfl) (pmk_num (xn_BadMachine T XD) FI_BadMachine BI_BadMachine (hr.mono (by omega)) (pa_cons (pe_un un_neg pe_int) pa_nil))))
        pss_nil)
        (pss_one (ps_for (passes_of rfl) rfl (pi_enumT (by rfl) T.f_enumerate (pa_cons (pv 0) pa_nil)) (pg_tup rfl (pgs_cons (pg_name (i := 1) sc_need_machine.nd rfl (by first | exact Or.inl rfl | exact Or.inr rfl)) (pgs_cons (pg_name (i := 2) sc_need_machine.nd rfl (by first | exact Or.inl rfl | exact Or.inr rfl)) pgs_nil)))
        (pss_cons (ps_if (PW.pt (pw_or (pt_cmpR op_eq (pv 1) (gC T.c_MOST_ROWS) (nomark _)) (pw_or (pt_not (pt_val (pe_callB call_isiD (by rfl) T.f_isinstance (by decide +kernel) (pa_cons (pv 2) (pa_cons (gT (n := "tuple") T.f_tuple) pa_nil))))) (pw_or1 (pt_cmpR op_ne (pe_callB call_len_seq (by rfl) T.f_len (by decide +kernel) (pa_cons (pv 2) pa_nil)) pe_int (nomark _))))))
        (pss_one (ps_raise rfl (takes_of rfl rfl rfl rfl) (pmk_num (xn_BadMachine T XD) FI_BadMachine BI_BadMachine (hr.mono (by omega)) (pa_cons (pv 1) pa_nil))))
        pss_nil)
        (pss_one (ps_if (PW.pt (pw_or (pt_not (pt_val (pe_def G_is_test (hr.mono (by omega)) pass0 (pa_cons (pe_ix ix_tup (pv 2) pe_int (fun _ _ => rfl)) pa_nil)))) (pw_or1 (pt_not (pt_val (pe_def G_is_answer (hr.mono (by omega)) pass0 (pa_cons (pe_ix ix_tup (pv 2) pe_int (fun _ _ => rfl)) pa_nil)))))))
        (pss_one (ps_raise rfl (takes_of rfl rfl rfl rfl) (pmk_num (xn_BadMachine T XD) FI_BadMachine BI_BadMachine (hr.mono (by omega)) (pa_cons (pv 1) pa_nil))))
        pss_nil)))))), ?_⟩
    have hT := hd
    refine rd_isD rfl (by decide) hd ⟨_, rfl, ?_⟩
    cases hd with
    | @tup a xs ds hs ha =>
      have hl := ha.len
      refine ifF rfl ⟨_, rfl, by show 0 ≤ sizeLine; decide, fun p hp => ?_⟩
      have f1 : Fx [] H (upd H p (.tup [])) := Fx.new hp
      refine ⟨.tuple ds, .tuple [], hT.ext f1, .tup (SqT.of upd_same) .nil, hsh, by decide +kernel, _, rfl, ifB (fun c => ?_) (fun c => ?_)⟩
      · cases ds with
        | nil => exact ⟨_, rfl, num_end fun e he => fin _ _ rfl f1 e he⟩
        | cons d ds => simp [PyData.eqv, PyData.eqvAll] at c
      have hne : machBad (.tuple ds) = rowsBad 0 ds := by
        cases ds with
        | nil => simp [PyData.eqv, PyData.eqvAll] at c
        | cons d ds => rfl
      refine ⟨_, rfl, a, xs, rfl, f1.sqT hs, for_it walk_enT (fun i σ' H' => ∃ y1 y2, σ' = [some (.ref a), y1, y2] ∧ Fx [] H H' ∧ rowsBad i (ds.drop i) = machBad (.tuple ds)) ⟨none, none, rfl, f1, hne.symm⟩ (fun i σ' H' _ ⟨_, _, _, f, _⟩ => f.sqT hs) (fun i x σ' H2 H3 hi hP y => ?_) (fun σ' H' hP => ?_)⟩
      · obtain ⟨y1, y2, rfl, f, hb⟩ := hP
        obtain ⟨T', u, v, rfl, hT', hu, hv⟩ := YPair.tup y
        cases hu
        have f3 := f.trans (YPair.fx y)
        obtain ⟨d, g1, g2⟩ := ha.get hv
        have g3 := g2.ext f3
        rw [rowsBad_drop g1] at hb
        refine ⟨T', _, rfl, SqT.of hT', rfl, _, _, rfl, _, _, rfl, rfl, ?_⟩
        have bad : ∀ H4, Fx [] H H4 → i = 12 ∨ rowOk d = false → ∀ e, H4 e = none → E (xC K "BadMachine") (some e) (upd H4 e (.xd [("row", .int ((i : Nat) : Int))])) := fun H4 f4 c => fin _ _ (by rw [← hb, if_pos c]) f4
        refine ⟨_, rfl, rd_eqI ⟨_, rfl, ifB (fun c => ?_) (fun c => ?_)⟩⟩
        · exact ⟨_, rfl, num_end fun e he => bad _ f3 (.inl (by have h0 : (i : Int) = 12 := (by simpa using c); omega)) e he⟩
        refine rd_isD rfl (by decide) g3 ⟨_, rfl, ?_⟩
        have g4 := g3
        cases g3 with
        | @tup b ys dd hb1 hy =>
          have hyl := hy.len
          refine ifF rfl ⟨_, rfl, b, ys, rfl, .inr hb1, rfl, _, rfl, ifB (fun c2 => ?_) (fun c2 => ?_)⟩
          · refine ⟨_, rfl, num_end fun e he => bad _ f3 (.inr ?_) e he⟩
            match dd, hyl with
            | [], _ => rfl
            | [_], _ => rfl
            | [_, _], hyl => simp [hyl] at c2
            | _ :: _ :: _ :: _, _ => rfl
          · match ys, dd, hy, hyl, c2 with
            | [w1, w2], [t, an], .cons k1 (.cons k2 .nil), _, _ =>
              refine rd_ixT (j := 0) rfl hb1 rfl ⟨w1, t, rfl, k1, fun H4 f4 => ⟨_, rfl, ifB (fun c3 => ?_) (fun c3 => ?_)⟩⟩
              · refine ⟨_, rfl, num_end fun e he => bad _ (f3.trans f4) (.inr ?_) e he⟩
                have c3 : isTest t = false := by simpa using c3
                show (isTest t && isAns an) = false
                rw [c3]
                rfl
              · have c3 : isTest t = true := by simpa using c3
                refine rd_ixT (j := 1) rfl (f4.sqT hb1) rfl ⟨w2, an, rfl, k2.ext f4, fun H5 f5 => ⟨_, rfl, ifB (fun c4 => ?_) (fun c4 => ?_)⟩⟩
                · have c4 : isAns an = false := by simpa using c4
                  refine ⟨_, rfl, num_end fun e he => bad _ ((f3.trans f4).trans f5) (.inr ?_) e he⟩
                  show (isTest t && isAns an) = false
                  rw [c4, Bool.and_false]
                · have c4 : isAns an = true := by simpa using c4
                  refine ⟨_, _, rfl, (f3.trans f4).trans f5, ?_⟩
                  rw [← hb, if_neg]
                  intro z
                  rcases z with z | z
                  · rw [z] at c
                    simp at c
                  · have z2 : (isTest t && isAns an) = false := z
                    rw [c3, c4] at z2
                    cases z2
            | [], _, _, _, c2 => simp at c2
            | [_], _, _, _, c2 => simp at c2
            | _ :: _ :: _ :: _, _, _, _, c2 => simp at c2; omega
        | _ => exact ifT rfl ⟨_, rfl, num_end fun e he => bad _ f3 (.inr rfl) e he⟩
      · obtain ⟨y1, y2, rfl, f, hb⟩ := hP
        refine qn ?_ H' f
        rw [← hb, show xs.length = ds.length from hl, List.drop_length]
        rfl
    | _ => exact ifT rfl ⟨_, rfl, num_end fun e he => fin _ _ rfl .refl e he⟩
end Mh
/-! MhNXM -/
--@@NMODE
namespace Mh
open PySem PySem.Spec PyProof.Rows L2
theorem okn_need_machine_x {P : Program} {w : World} {K : PySem.W.Frag} {mg : Str → Option Value} {base : Heap} (T : Tx K mg) (XD : ExD K) : Def P w K mg base (L2N.CX P w) 4 "need_machine" ["machine"] (spNeedMX K mg) := by
  obtain ⟨fd, F⟩ := T.d_need_machine
  obtain ⟨fd_BadMachine, FI_BadMachine, BI_BadMachine⟩ := ok_BadMachine_init (P := P) (w := w) (base := base) T XD
  have G_is_test := ok_is_test (P := P) (w := w) (base := base) T
  have G_is_answer := ok_is_answer (P := P) (w := w) (base := base) T
  refine ⟨_, fd, F.ok sc_need_machine (fun vs H Q E h => ?_) (fun cdv A outer s H vs Q E hr h => ?_), F.bindsN fun _ _ _ _ _ _ us hl => match us, hl with | [_], _ => rfl, T.g_need_machine, F.kp⟩
  · obtain ⟨v, d, rfl, _⟩ := h
    rfl
  · obtain ⟨v, d, rfl, hd, hsh, qn, qx⟩ := h
    have X1 := xn_BadMachine T XD
    have fin : ∀ (r : Int) H1, machBad d = some r → Fx [] H H1 → ∀ e, H1 e = none → E (xC K "BadMachine") (some e) (upd H1 e (.xd [("row", .int r)])) := fun r H1 hb f e he => qx r hb _ _ _ (f.trans (Fx.new he)) X1.refd
    refine ⟨_, (pss_cons (ps_if (PW.pt (pw_or (pt_not (pt_val (pe_callB call_isiD (by rfl) T.f_isinstance (by decide +kernel) (pa_cons (pv 0) (pa_cons (gT (n := "tuple") T.f_tuple) pa_nil))))) (pw_or1 (pt_cmpR (op_eqD hr.units) (pv 0) (pe_tup pa_nil) (nomark _)))))
        (pss_one (L2N.ps_raise rfl (L2N.takes_of rfl rfl rfl rfl) (MhN.pmk_numN (xn_BadMachine T XD) FI_BadMachine BI_BadMachine (hr.mono (by omega)) (pa_cons (pe_un un_neg pe_int) pa_nil))))
        pss_nil)
        (pss_one (ps_for (passes_of rfl) rfl (pi_enumT (by rfl) T.f_enumerate (pa_cons (pv 0) pa_nil)) (pg_tup rfl (pgs_cons (pg_name (i := 1) sc_need_machine.nd rfl (by first | exact Or.inl rfl | exact Or.inr rfl)) (pgs_cons (pg_name (i := 2) sc_need_machine.nd rfl (by first | exact Or.inl rfl | exact Or.inr rfl)) pgs_nil)))
        (pss_cons (ps_if (PW.pt (pw_or (pt_cmpR op_eq (pv 1) (gC T.c_MOST_ROWS) (nomark _)) (pw_or (pt_not (pt_val (pe_callB call_isiD (by rfl) T.f_isinstance (by decide +kernel) (pa_cons (pv 2) (pa_cons (gT (n := "tuple") T.f_tuple) pa_nil))))) (pw_or1 (pt_cmpR op_ne (pe_callB call_len_seq (by rfl) T.f_len (by decide +kernel) (pa_cons (pv 2) pa_nil)) pe_int (nomark _))))))
        (pss_one (L2N.ps_raise rfl (L2N.takes_of rfl rfl rfl rfl) (MhN.pmk_numN (xn_BadMachine T XD) FI_BadMachine BI_BadMachine (hr.mono (by omega)) (pa_cons (pv 1) pa_nil))))
        pss_nil)
        (pss_one (ps_if (PW.pt (pw_or (pt_not (pt_val (pe_def G_is_test (hr.mono (by omega)) pass0 (pa_cons (pe_ix ix_tup (pv 2) pe_int (fun _ _ => rfl)) pa_nil)))) (pw_or1 (pt_not (pt_val (pe_def G_is_answer (hr.mono (by omega)) pass0 (pa_cons (pe_ix ix_tup (pv 2) pe_int (fun _ _ => rfl)) pa_nil)))))))
        (pss_one (L2N.ps_raise rfl (L2N.takes_of rfl rfl rfl rfl) (MhN.pmk_numN (xn_BadMachine T XD) FI_BadMachine BI_BadMachine (hr.mono (by omega)) (pa_cons (pv 1) pa_nil))))
        pss_nil)))))), ?_⟩
    have hT := hd
    refine rd_isD rfl (by decide) hd ⟨_, rfl, ?_⟩
    cases hd with
    | @tup a xs ds hs ha =>
      have hl := ha.len
      refine ifF rfl ⟨_, rfl, by show 0 ≤ sizeLine; decide, fun p hp => ?_⟩
      have f1 : Fx [] H (upd H p (.tup [])) := Fx.new hp
      refine ⟨.tuple ds, .tuple [], hT.ext f1, .tup (SqT.of upd_same) .nil, hsh, by decide +kernel, _, rfl, ifB (fun c => ?_) (fun c => ?_)⟩
      · cases ds with
        | nil => exact ⟨_, rfl, num_end fun e he => fin _ _ rfl f1 e he⟩
        | cons d ds => simp [PyData.eqv, PyData.eqvAll] at c
      have hne : machBad (.tuple ds) = rowsBad 0 ds := by
        cases ds with
        | nil => simp [PyData.eqv, PyData.eqvAll] at c
        | cons d ds => rfl
      refine ⟨_, rfl, a, xs, rfl, f1.sqT hs, for_it walk_enT (fun i σ' H' => ∃ y1 y2, σ' = [some (.ref a), y1, y2] ∧ Fx [] H H' ∧ rowsBad i (ds.drop i) = machBad (.tuple ds)) ⟨none, none, rfl, f1, hne.symm⟩ (fun i σ' H' _ ⟨_, _, _, f, _⟩ => f.sqT hs) (fun i x σ' H2 H3 hi hP y => ?_) (fun σ' H' hP => ?_)⟩
      · obtain ⟨y1, y2, rfl, f, hb⟩ := hP
        obtain ⟨T', u, v, rfl, hT', hu, hv⟩ := YPair.tup y
        cases hu
        have f3 := f.trans (YPair.fx y)
        obtain ⟨d, g1, g2⟩ := ha.get hv
        have g3 := g2.ext f3
        rw [rowsBad_drop g1] at hb
        refine ⟨T', _, rfl, SqT.of hT', rfl, _, _, rfl, _, _, rfl, rfl, ?_⟩
        have bad : ∀ H4, Fx [] H H4 → i = 12 ∨ rowOk d = false → ∀ e, H4 e = none → E (xC K "BadMachine") (some e) (upd H4 e (.xd [("row", .int ((i : Nat) : Int))])) := fun H4 f4 c => fin _ _ (by rw [← hb, if_pos c]) f4
        refine ⟨_, rfl, rd_eqI ⟨_, rfl, ifB (fun c => ?_) (fun c => ?_)⟩⟩
        · exact ⟨_, rfl, num_end fun e he => bad _ f3 (.inl (by have h0 : (i : Int) = 12 := (by simpa using c); omega)) e he⟩
        refine rd_isD rfl (by decide) g3 ⟨_, rfl, ?_⟩
        have g4 := g3
        cases g3 with
        | @tup b ys dd hb1 hy =>
          have hyl := hy.len
          refine ifF rfl ⟨_, rfl, b, ys, rfl, .inr hb1, rfl, _, rfl, ifB (fun c2 => ?_) (fun c2 => ?_)⟩
          · refine ⟨_, rfl, num_end fun e he => bad _ f3 (.inr ?_) e he⟩
            match dd, hyl with
            | [], _ => rfl
            | [_], _ => rfl
            | [_, _], hyl => simp [hyl] at c2
            | _ :: _ :: _ :: _, _ => rfl
          · match ys, dd, hy, hyl, c2 with
            | [w1, w2], [t, an], .cons k1 (.cons k2 .nil), _, _ =>
              refine rd_ixT (j := 0) rfl hb1 rfl ⟨w1, t, rfl, k1, fun H4 f4 => ⟨_, rfl, ifB (fun c3 => ?_) (fun c3 => ?_)⟩⟩
              · refine ⟨_, rfl, num_end fun e he => bad _ (f3.trans f4) (.inr ?_) e he⟩
                have c3 : isTest t = false := by simpa using c3
                show (isTest t && isAns an) = false
                rw [c3]
                rfl
              · have c3 : isTest t = true := by simpa using c3
                refine rd_ixT (j := 1) rfl (f4.sqT hb1) rfl ⟨w2, an, rfl, k2.ext f4, fun H5 f5 => ⟨_, rfl, ifB (fun c4 => ?_) (fun c4 => ?_)⟩⟩
                · have c4 : isAns an = false := by simpa using c4
                  refine ⟨_, rfl, num_end fun e he => bad _ ((f3.trans f4).trans f5) (.inr ?_) e he⟩
                  show (isTest t && isAns an) = false
                  rw [c4, Bool.and_false]
                · have c4 : isAns an = true := by simpa using c4
                  refine ⟨_, _, rfl, (f3.trans f4).trans f5, ?_⟩
                  rw [← hb, if_neg]
                  intro z
                  rcases z with z | z
                  · rw [z] at c
                    simp at c
                  · have z2 : (isTest t && isAns an) = false := z
                    rw [c3, c4] at z2
                    cases z2
            | [], _, _, _, c2 => simp at c2
            | [_], _, _, _, c2 => simp at c2
            | _ :: _ :: _ :: _, _, _, _, c2 => simp at c2; omega
        | _ => exact ifT rfl ⟨_, rfl, num_end fun e he => bad _ f3 (.inr rfl) e he⟩
      · obtain ⟨y1, y2, rfl, f, hb⟩ := hP
        refine qn ?_ H' f
        rw [← hb, show xs.length = ds.length from hl, List.drop_length]
        rfl
    | _ => exact ifT rfl ⟨_, rfl, num_end fun e he => fin _ _ rfl .refl e he⟩
end Mh
/-! MhXRd -/
namespace Mh
open PySem PySem.Spec PyProof.Rows L2 TL
theorem MhN.ps_raiseG {X : Cx} {K : PySem.W.Frag} {cls0 : Value} {W : WX} {e : Expr} {t : L2.St → Hp → XK → Prop} {i : Nat} {n : Str} {cp pos : Pos} {a : Addr} {oe : Obj} (hK : X.K = K) (hz0 : oe.cls = cls0) (hot : L2H.Hot1 X.A (a, oe)) (hp : (a, oe) ∈ X.pn) (hi : X.N[i]? = some n) (hk : X.env.scope.kind = .function) (hl : X.env.kindOf n = some .local) (hv : Vis X.env.scope n) (hd : (n == ("__debug__" : Str)) = false) (tk : L2.Takes X W) (he : L2H.PMk5 X e t) :
    PS X (.Raise (some e) (some (.Name n cp)) pos) (fun _ σ H => MhN.RaisesK K cls0 ∧ σ[i]? = some (some (.ref a)) ∧ t σ H fun cls d H' => W cls d σ H') := MhN.ps_raiseF (p := (a, oe)) hK hz0 hot hp hi hk hl hv hd tk he
/-! ### a text that may be refused -/
theorem sc_BadText_init : FnScope ["self", "row"] ["self", "row"] (defScope s_BadText_init) := ⟨rfl, rfl, rfl, by decide +kernel, rfl, by decide +kernel, by decide +kernel⟩
theorem ok_BadText_init {P : Program} {w : World} {K : PySem.W.Frag} {mg : Str → Option Value} {base : Heap} (T : Tx K mg) (XD : ExD K) : ∃ fd, FnOk P w K mg base CX0 2 (He.ma K (He.ga K "BadText") "__init__") fd ["self", "row"] (spXInit K "BadText" "row") ∧ Binds K fd ["self", "row"] [] := by
  obtain ⟨fd, F⟩ := T.d_BadText_init
  have xo := xn_BadText T XD
  refine ⟨fd, F.ok sc_BadText_init (fun vs H Q E h => ?_) (fun cdv A outer s H vs Q E hr h => ?_), F.bindsN fun _ _ _ _ _ _ us hl => match us, hl with | [_, _], _ => rfl⟩
  · obtain ⟨a, v, rfl, _⟩ := h
    rfl
  · obtain ⟨a, v, rfl, ha, q⟩ := h
    refine ⟨_, PSs.nox (pss_cons (ps_expr (pe_hinit (xh T XD) (pa_cons (pv 0) (pa_cons (pv 1) pa_nil)))) (pss_one (ps_ost (pv 0) (pv 1)))), ?_⟩
    exact ⟨_, rfl, _, rfl, a, He.ga K "BadText", [v], rfl, by show 1 ≤ 1000; decide, xo.o, ha, ⟨_, rfl, _, rfl, a, He.ga K "BadText", rfl, xo.o, xo.n, .inl ⟨ha, fun d hd ne => q d hd ne⟩⟩⟩
theorem okh_BadText_init {P : Program} {w : World} {K : PySem.W.Frag} {mg : Str → Option Value} {base : Heap} (T : Tx K mg) (XD : ExD K) : ∃ fd, L2H.FnH P w K mg base CX0 2 (He.ma K (He.ga K "BadText") "__init__") fd ["self", "row"] (spXInit K "BadText" "row") ∧ Binds K fd ["self", "row"] [] := by
  obtain ⟨fd, F⟩ := T.d_BadText_init
  have xo := xn_BadText T XD
  refine ⟨fd, ?_, F.bindsN fun _ _ _ _ _ _ us hl => match us, hl with | [_, _], _ => rfl⟩
  obtain ⟨oc, od, dV, kV, doc, pm, an, cdv, ct, osl, rfl, lk, hcd, _, _⟩ := F.ex
  refine L2H.fn_ofH lk hcd sc_BadText_init (fun vs H Q E h => ?_) fun A outer s H vs Q E p hot hr h => ?_
  · obtain ⟨a, v, rfl, _⟩ := h
    rfl
  · obtain ⟨a, v, rfl, ha, q⟩ := h
    refine ⟨_, PSs.nox (pss_cons (ps_expr (pe_hinit (xh T XD) (pa_cons (pv 0) (pa_cons (pv 1) pa_nil)))) (pss_one (ps_ost (pv 0) (pv 1)))), ?_⟩
    exact ⟨_, rfl, _, rfl, a, He.ga K "BadText", [v], rfl, by show 1 ≤ 1000; decide, xo.o, ha, ⟨_, rfl, _, rfl, a, He.ga K "BadText", rfl, xo.o, xo.n, .inl ⟨ha, fun d hd ne => q d hd ne⟩⟩⟩
section
variable {X : Cx} {K : PySem.W.Frag} {W : WX} {x f : Str} {p pos : Pos} {e : Expr} {es : List Expr} {ta : TA}
/-- X(n) made while an exception is handled -/
theorem kpmk5_num {k : Nat} {fd : FuncData} (hK : X.K = K) (F : ExN K X.mg x f) (F1 : L2H.FnH X.prog X.w X.K X.mg X.base CX0 k (He.ma K (He.ga K x) "__init__") fd ["self", f] (spXInit K x f)) (hb : Binds X.K fd ["self", f] []) (hr : L2H.RoomH (k + 1) X.A) (hot : L2H.HotC X) (ha : PA X (e :: es) ta) (hg : Gl X x := by rfl)
    (hdb : (x == ("__debug__" : Str)) = false := by decide) (he : starEach (e :: es) X.env = (false, eval e X.env) :: starEach es X.env := by rfl) (hpl : (backTo pos (starEach es X.env)).any (·.1) = false := by rfl) :
    L2H.PMk5 X (.Call (.Name x p) (e :: es) [] pos) (tMkO (He.ga K x) (spXInit K x f) [] ta) := by
  subst hK
  exact L2H.pmk5_oexH F.o F.iC F.tI F1 hr hot hb (fun _ _ _ _ _ _ _ z => z.elim) hg F.g ha hdb he hpl
/-- a def called within a try -/
theorem pe_defS {ps : List Str} {sp : Sp} {k : Nat} (F : Def X.prog X.w X.K X.mg X.base (L2N.CX X.prog X.w) k x ps sp) (hr : Room k X.A) (tk : L2N.Takes X W) (ha : PA X (e :: es) ta) (hg : Gl X x := by rfl) (hdb : (x == ("__debug__" : Str)) = false := by decide)
    (he : starEach (e :: es) X.env = (false, eval e X.env) :: starEach es X.env := by rfl) (hpl : (backTo pos (starEach es X.env)).any (·.1) = false := by rfl) : PE X (.Call (.Name x p) (e :: es) [] pos) (tCallS sp (WE W) ta) := by
  obtain ⟨f, fd, F1, b, g, kp⟩ := F.ex
  exact pe_callS F1 hr hg g kp b (fun σ pins H s e s' I c => tk e s' (L2N.XE.of_call I (fun _ _ _ h => h) c)) ha hdb he hpl
end
/-! ### read of any text -/
def lineB (z : Str) : Bool := match rowO z with
  | none => false
  | some (p, q) => rowOk (.tuple [p.d, q.d])
def lineD (z : Str) : PyData := match rowO z with
  | none => .none
  | some (p, q) => .tuple [p.d, q.d]
def readBad : Nat → List Str → Option Int
  | _, [] => none
  | i, z :: r => if i = 12 ∨ lineB z = false then some (i : Nat) else readBad (i + 1) r
theorem rowOk_line (z : Str) : rowOk (lineD z) = lineB z := by
  unfold lineD lineB
  cases rowO z with
  | none => rfl
  | some p => rfl
theorem readBad_rows : ∀ (ls : List Str) (i : Nat), rowsBad i (ls.map lineD) = readBad i ls
  | [], _ => rfl
  | z :: r, i => by
    show (if i = 12 ∨ rowOk (lineD z) = false then some ((i : Nat) : Int) else rowsBad (i + 1) (r.map lineD)) = _
    rw [rowOk_line, readBad_rows r]
    rfl
theorem readBad_snoc : ∀ (ls : List Str) (i : Nat) (z : Str), readBad i ls = none → readBad i (ls ++ [z]) = if i + ls.length = 12 ∨ lineB z = false then some ((i + ls.length : Nat) : Int) else none
  | [], i, z, _ => by
    show (if i = 12 ∨ lineB z = false then some ((i : Nat) : Int) else none) = _
    rw [List.length_nil, Nat.add_zero]
  | y :: r, i, z, h => by
    have h : (if i = 12 ∨ lineB y = false then some ((i : Nat) : Int) else readBad (i + 1) r) = none := h
    by_cases c : i = 12 ∨ lineB y = false
    · rw [if_pos c] at h; cases h
    · rw [if_neg c] at h
      show (if i = 12 ∨ lineB y = false then some ((i : Nat) : Int) else readBad (i + 1) (r ++ [z])) = _
      rw [if_neg c, readBad_snoc r (i + 1) z h, List.length_cons, show i + 1 + r.length = i + (r.length + 1) by omega]
theorem readBad_drop {ls : List Str} {i : Nat} {z : Str} (h : ls[i]? = some z) : readBad i (ls.drop i) = if i = 12 ∨ lineB z = false then some ((i : Nat) : Int) else readBad (i + 1) (ls.drop (i + 1)) := by
  obtain ⟨hl, e⟩ := List.getElem?_eq_some_iff.mp h
  rw [List.drop_eq_getElem_cons hl, e]
  rfl
theorem exm_self {K : PySem.W.Frag} {mg : Str → Option Value} {x f : Str} (F : ExN K mg x f) : PySem.W.exmOne K (xC K x) (xC K x) = some true := by
  obtain ⟨nm, q, N, bs, bm, sn, sub, ab, col, dd, k0, k1, k2, k3, k5, hC, hbm⟩ := F.o.cls
  have hc : ∃ cd, PySem.W.clsIn K (He.ga K x) = some cd ∧ cd.mro = .ref (He.ga K x) :: bm := ⟨_, by unfold PySem.W.clsIn; rw [hC], rfl⟩
  obtain ⟨cd, e1, e2⟩ := hc
  have hm : PySem.W.subIn K (.ref (He.ga K x)) (.ref (He.ga K x)) = some true := by
    show (PySem.W.clsIn K (He.ga K x)).bind _ = _
    rw [e1]
    show (if cd.mro.isEmpty = true then none else some (cd.mro.contains (.ref (He.ga K x)))) = some true
    rw [e2]
    simp
  have hx : xC K x = .ref (He.ga K x) := rfl
  unfold PySem.W.exmOne
  rw [hx, F.o.exC, if_pos (by rfl)]
  show (if ((PySem.W.clsIn K (He.ga K x)).isSome && PySem.W.typeIn K (.ref (He.ga K x)) == some (.type "type")) = true then _ else _) = _
  rw [e1, F.o.tyC, if_pos (by rfl), hm]
theorem part_small {p : Part} (hw : PyData.strOk p.w = true) : PyData.canLay0 p.d = true ∧ p.d.depth ≤ 5 := by
  have h : PyData.canLayAll0 (p.ts.map Thing.d) = true ∧ PyData.depthAll (p.ts.map Thing.d) ≤ 3 := by
    induction p.ts with
    | nil => exact ⟨by simp [PyData.canLayAll0], by simp [PyData.depthAll]⟩
    | cons o os ih =>
      obtain ⟨h1, h2⟩ := thingV_small (some o)
      have h1 : PyData.canLay0 o.d = true := h1
      have h2 : o.d.depth ≤ 3 := h2
      exact ⟨by simp [PyData.canLayAll0, h1, ih.1], by simp only [List.map_cons, PyData.depthAll]; have := ih.2; omega⟩
  unfold Part.d
  refine ⟨by simp [PyData.canLay0, PyData.canLayAll0, hw, h.1], ?_⟩
  simp only [PyData.depth, PyData.depthAll]
  have := h.2
  omega
theorem partO_w {b : Bool} {ws r : List Str} {p : Part} (h : partO b ws = some (p, r)) : p.w ∈ ws := by
  cases ws with
  | nil => cases h
  | cons w0 r0 =>
    rw [partO_cons] at h
    cases hf : formOf b w0 with
    | none => rw [hf] at h; cases h
    | some f =>
      rw [hf] at h
      have h2 : (if r0.length + 1 ≤ f.length then none else (allT ((r0.zip (signs f)).map fun q => thingO q.2 q.1)).map fun ts => ((⟨w0, ts⟩ : Part), r0.drop f.length)) = some (p, r) := h
      split at h2
      · cases h2
      · obtain ⟨ts, _, e⟩ := Option.map_eq_some_iff.mp h2
        cases e
        exact List.mem_cons_self
theorem lineD_small {z : Str} (h : PyData.strOk z = true) : PyData.canLay0 (lineD z) = true ∧ (lineD z).depth ≤ 7 := by
  have hpo := split_ok (y := blank) (by decide +kernel) (by decide +kernel) h
  unfold lineD
  cases e : rowO z with
  | none => exact ⟨rfl, by simp [PyData.depth]⟩
  | some pq =>
    obtain ⟨p, q⟩ := pq
    have en : rowO z = match partO true (Txt.split z blank) with
      | none => none
      | some (p, r) => match partO false r with
        | some (q, []) => some (p, q)
        | _ => none := rfl
    rw [en] at e
    cases ht : partO true (Txt.split z blank) with
    | none => rw [ht] at e; cases e
    | some pr =>
      obtain ⟨p2, r⟩ := pr
      rw [ht] at e
      have e : (match partO false r with | some (q, []) => some (p2, q) | _ => none) = some (p, q) := e
      cases ha : partO false r with
      | none => rw [ha] at e; cases e
      | some qr =>
        obtain ⟨q2, r2⟩ := qr
        rw [ha] at e
        cases r2 with
        | cons _ _ => cases e
        | nil =>
          cases e
          obtain ⟨h1, h2⟩ := part_small (hpo _ (partO_w ht))
          obtain ⟨h3, h4⟩ := part_small (hpo _ ((partO_sub ht).2 _ (partO_w ha)))
          refine ⟨by simp [PyData.canLay0, PyData.canLayAll0, h1, h3], ?_⟩
          simp only [PyData.depth, PyData.depthAll]
          omega
theorem rows_shaped {ls : List Str} (h : ∀ z ∈ ls, PyData.strOk z = true) : SeqAt.shaped (.tuple (ls.map lineD)) = true := by
  have k : PyData.canLayAll0 (ls.map lineD) = true ∧ PyData.depthAll (ls.map lineD) ≤ 7 := by
    induction ls with
    | nil => exact ⟨by simp [PyData.canLayAll0], by simp [PyData.depthAll]⟩
    | cons z ls ih =>
      obtain ⟨h1, h2⟩ := lineD_small (h z List.mem_cons_self)
      obtain ⟨i1, i2⟩ := ih fun y m => h y (List.mem_cons_of_mem _ m)
      exact ⟨by simp [PyData.canLayAll0, h1, i1], by simp only [List.map_cons, PyData.depthAll]; omega⟩
  show (PyData.canLay0 (.tuple (ls.map lineD)) && decide (PyData.depth (.tuple (ls.map lineD)) ≤ 64)) = true
  rw [Bool.and_eq_true_iff]
  refine ⟨by simp only [PyData.canLay0]; exact k.1, decide_eq_true ?_⟩
  simp only [PyData.depth]
  have := k.2
  omega
theorem part_nol (p : Part) : nol p.d = true := by
  show nolA (.str p.w :: p.ts.map Thing.d) = true
  show (nol (.str p.w) && nolA (p.ts.map Thing.d)) = true
  have h : nolA (p.ts.map Thing.d) = true := by
    induction p.ts with
    | nil => rfl
    | cons t ts ih =>
      show (nol t.d && nolA (ts.map Thing.d)) = true
      rw [ih, show nol t.d = true from thingV_nol (some t)]
      rfl
  rw [h]
  rfl
theorem lineD_nol (z : Str) : nol (lineD z) = true := by
  unfold lineD
  cases rowO z with
  | none => rfl
  | some pq =>
    obtain ⟨p, q⟩ := pq
    show (nol p.d && (nol q.d && true)) = true
    rw [part_nol, part_nol]
    rfl
theorem lines_nol : ∀ ls : List Str, nolA (ls.map lineD) = true
  | [] => rfl
  | z :: ls => by
    show (nol (lineD z) && nolA (ls.map lineD)) = true
    rw [lineD_nol, lines_nol ls]
    rfl
def spReadX (K : PySem.W.Frag) (mg : Str → Option Value) : Sp := fun vs H Q E => ∃ (z : Str), vs = [.str z] ∧ z.length ≤ 400000 ∧ PyData.strOk z = true ∧ (readBad 0 (Txt.split z nl) = none → ∀ (H' : Hp) (v : V), Fx [] H H' → Dp K H' v (.tuple ((Txt.split z nl).map lineD)) → Q v H') ∧
  ∀ r, readBad 0 (Txt.split z nl) = some r → ∀ cls e H', Fx [] H H' → Refd K mg "BadText" r cls e H' → E cls e H'
theorem okx_read_x {P : Program} {w : World} {K : PySem.W.Frag} {mg : Str → Option Value} {base : Heap} (T : Tx K mg) (TD : TabD K w) (XD : ExD K) : Def P w K mg base (L2.CX P w) 8 "read" ["text"] (spReadX K mg) := by
  obtain ⟨fd, F⟩ := T.d_read
  have G_row_of := ok_row_of (P := P) (w := w) (base := base) T TD
  obtain ⟨fd_BadText, FI_BadText, BI_BadText⟩ := ok_BadText_init (P := P) (w := w) (base := base) T XD
  refine ⟨_, fd, F.ok sc_read (fun vs H Q E h => ?_) (fun cdv A outer s H vs Q E hr h => ?_), F.bindsN fun _ _ _ _ _ _ us hl => match us, hl with | [_], _ => rfl, T.g_read, F.kp⟩
  · obtain ⟨z, rfl, _⟩ := h
    rfl
  · obtain ⟨z, rfl, hz, hok, qn, qx⟩ := h
    have GN_need_machine := okn_need_machine_x (P := P) (w := w) (base := base) T XD
    have X1 := xn_BadText T XD
    obtain ⟨fdh, FH, BH⟩ := okh_BadText_init (P := P) (w := w) (base := base) T XD
    refine ⟨_, (pss_cons (ps_set (i := 1) sc_read.nd rfl (by first | exact Or.inl rfl | exact Or.inr rfl) (pe_lst pa_nil))
        (pss_cons (ps_for (passes_of rfl) rfl (pi_enum (by rfl) T.f_enumerate (pa_cons (pe_split (pv 0) pe_str) pa_nil)) (pg_tup rfl (pgs_cons (pg_name (i := 2) sc_read.nd rfl (by first | exact Or.inl rfl | exact Or.inr rfl)) (pgs_cons (pg_name (i := 3) sc_read.nd rfl (by first | exact Or.inl rfl | exact Or.inr rfl)) pgs_nil)))
        (pss_cons (ps_set (i := 4) sc_read.nd rfl (by first | exact Or.inl rfl | exact Or.inr rfl) (pe_def G_row_of (hr.mono (by omega)) pass0 (pa_cons (pv 3) pa_nil)))
        (pss_cons (ps_if (pt_cmpR op_isN (pv 4) pe_non (nomark _))
        (pss_one (ps_raise rfl (takes_of rfl rfl rfl rfl) (pmk_num (xn_BadText T XD) FI_BadText BI_BadText (hr.mono (by omega)) (pa_cons (pv 2) pa_nil))))
        pss_nil)
        (pss_cons (ps_expr (pe_bm PySem.F.plainAttrs_list PySem.F.slot_list_append PySem.F.type_list_append mt_append (pv 1) (pa_cons (pv 4) pa_nil)))
        (pss_one (MhN.ps_try_asX (i := 5) rfl rfl rfl sc_read.nd rfl rfl ⟨rfl, by decide, .inl T.g_BadMachine⟩ (L2H.passesAt_of rfl) (takes_of rfl rfl rfl rfl) (fun _ _ _ _ h => h) (fun W pn xe tk _ => (pss_one (ps_expr (pe_defS GN_need_machine (hr.mono (by omega)) tk (pa_cons (pe_callTy (kcall_tuple (K := K) rfl) (by rfl) T.f_tuple (by decide +kernel) (pa_cons (pv 1) pa_nil)) pa_nil))))) (fun a oe cls d pn xe hz hf tk => (pss_one (MhN.ps_raiseG (K := K) (i := 5) rfl hz.1 ⟨rfl, hf.elim fun vs hd => ⟨vs, hd, hz.2.2 vs hd⟩⟩ List.mem_cons_self rfl rfl rfl (.inl rfl) (by decide) tk (kpmk5_num (K := K) rfl X1 FH BH (L2H.roomH_mark (hr.mono (by omega)) _) ⟨(a, oe), ⟨rfl, hf.elim fun vs hd => ⟨vs, hd, hz.2.2 vs hd⟩⟩, List.mem_cons_self⟩ (pa_cons (pv 2) pa_nil)))))))))))
        (pss_one (ps_ret (pe_callTy call_tuple_of (by rfl) T.f_tuple (by decide +kernel) (pa_cons (pv 1) pa_nil)))))), ?_⟩
    refine ⟨by show 0 ≤ sizeLine; decide, fun R hR => ?_⟩
    have f1 : Fx [] H (upd H R (.lst [])) := Fx.new hR
    have hR1 : upd H R (.lst []) R = some (.lst []) := upd_same
    generalize upd H R (.lst []) = H1 at f1 hR1
    have hnl : tl nl ≠ [] := by decide +kernel
    have hnk : nl.cps.all (· < 256) = true := by decide +kernel
    have hpl := split_len (z := z) hnl hnk
    have hpo := split_ok hnl hnk hok
    have hpn := PyProof.Rows.split_le z nl
    refine ⟨_, rfl, ⟨_, rfl⟩, z, nl, rfl, rfl, by decide +kernel, Nat.le_trans (m := 500000) (by omega) (by decide), fun p hp => ?_⟩
    generalize Txt.split z nl = ls at hpl hpo hpn qn qx ⊢
    have hpR : p ≠ R := fun e => by
      subst e
      rw [hR1] at hp
      cases hp
    have f2 : Fx [] H1 (upd H1 p (.lst (ls.map V.str))) := Fx.new hp
    have hp2 : upd H1 p (.lst (ls.map V.str)) p = some (.lst (ls.map V.str)) := upd_same
    have hR2 := f2.to hR1 fun z => nomatch z
    generalize upd H1 p (.lst (ls.map V.str)) = H2 at f2 hp2 hR2
    refine ⟨p, _, rfl, SqL.of hp2, for_it (walk_enum (xs := ls.map V.str)) (fun i σ' H' => ∃ y2 y3 y4 vs, σ' = [some (.str z), some (.ref R), y2, y3, y4, none] ∧ Fx [] H H' ∧ H' p = some (.lst (ls.map V.str)) ∧ H' R = some (.lst vs) ∧ DpAll K H' vs ((ls.take i).map lineD) ∧ readBad 0 (ls.take i) = none ∧ readBad i (ls.drop i) = readBad 0 ls) ⟨none, none, none, [], rfl, f1.trans f2, hp2, hR2, .nil, rfl, rfl⟩ (fun i σ' H' _ ⟨_, _, _, _, _, _, hpp, _⟩ => SqL.of hpp) (fun i x σ' H3 H4 hi hP y => ?_) (fun σ' H' hP => ?_)⟩
    · obtain ⟨y2, y3, y4, vs, rfl, f, hpp, hR3, dv, hb1, hb2⟩ := hP
      obtain ⟨T', u, v, rfl, hT, hu', hv⟩ := YPair.tup y
      cases hu'
      have fy : Fx [] H3 H4 := YPair.fx y
      rw [List.getElem?_map] at hv
      obtain ⟨w1, hw1, rfl⟩ := Option.map_eq_some_iff.mp hv
      rw [List.length_map] at hi
      have hwm := List.mem_of_getElem? hw1
      have htl : (ls.take i).length = i := by rw [List.length_take]; omega
      have et0 : ls.take (i + 1) = ls.take i ++ [w1] := by rw [List.take_add_one, hw1]; rfl
      have hsn := readBad_snoc (ls.take i) 0 w1 hb1
      rw [htl, Nat.zero_add, ← et0] at hsn
      rw [readBad_drop hw1] at hb2
      have bad : (i = 12 ∨ lineB w1 = false) → ∀ H5, Fx [] H H5 → ∀ e, H5 e = none → E (xC K "BadText") (some e) (upd H5 e (.xd [("row", .int ((i : Nat) : Int))])) := fun c H5 f5 e he => qx _ (by rw [← hb2, if_pos c]) _ _ _ (f5.trans (Fx.new he)) X1.refd
      refine ⟨T', _, rfl, SqT.of hT, rfl, _, _, rfl, _, _, rfl, rfl, ?_⟩
      refine ⟨_, rfl, w1, rfl, by have := hpl w1 hwm; omega, hpo w1 hwm, fun H5 v5 f5 rv => ?_⟩
      have f35 := fy.trans f5
      cases hrw : rowO w1 with
      | none =>
        rw [hrw] at rv
        obtain rfl : v5 = .non := rv
        have hlb : lineB w1 = false := by unfold lineB; rw [hrw]
        refine ⟨_, rfl, rfl, _, rfl, ifT rfl ?_⟩
        exact ⟨_, rfl, num_end fun e he => bad (.inr hlb) _ (f.trans f35) e he⟩
      | some pq =>
        obtain ⟨pt, qt⟩ := pq
        rw [hrw] at rv
        obtain ⟨T5, rfl, d5⟩ := rv
        have eld : lineD w1 = .tuple [pt.d, qt.d] := by unfold lineD; rw [hrw]
        rw [← eld] at d5
        refine ⟨_, rfl, rfl, _, rfl, ifF rfl ?_⟩
        have hR5 := f35.to hR3 fun z => nomatch z
        have hvl : vs.length ≤ 400002 := by
          rw [dv.len, List.length_map, htl]
          omega
        refine ⟨_, rfl, .inl ⟨rfl, _, SqL.of hR5⟩, _, rfl, R, _, _, rfl, rfl, hR5, Nat.lt_of_le_of_lt hvl (by decide), ?_⟩
        have f6 : Fx [R] H5 (upd H5 R (.lst (vs ++ [.ref T5]))) := Fx.set List.mem_cons_self (Chg.lst hR5)
        have fl := (f.trans f35).loc hR (Chg.lst hR5) (o := .lst (vs ++ [.ref T5]))
        have hR6 : upd H5 R (.lst (vs ++ [.ref T5])) R = some (.lst (vs ++ [.ref T5])) := upd_same
        have et : (ls.take (i + 1)).map lineD = (ls.take i).map lineD ++ [lineD w1] := by rw [et0, List.map_append]; rfl
        have d6 : DpAll K (upd H5 R (.lst (vs ++ [.ref T5]))) (vs ++ [.ref T5]) ((ls.take (i + 1)).map lineD) := by
          refine DpAll.mv ?_ f6 (lines_nol _)
          rw [et]
          exact (dv.ext f35).snoc d5
        have hp6 : upd H5 R (.lst (vs ++ [.ref T5])) p = some (.lst (ls.map V.str)) := by
          rw [upd_ne hpR]
          exact f35.to hpp fun z => nomatch z
        generalize upd H5 R (.lst (vs ++ [.ref T5])) = H6 at f6 fl hR6 d6 hp6
        refine ⟨_, rfl, R, _, rfl, .inl ⟨SqL.of hR6, fun l hl => ?_⟩⟩
        have f7 : Fx [] H6 (upd H6 l (.tup (vs ++ [.ref T5]))) := Fx.new hl
        have hd7 : Dp K (upd H6 l (.tup (vs ++ [.ref T5]))) (.ref l) (.tuple ((ls.take (i + 1)).map lineD)) := .tup (SqT.of upd_same) (d6.ext f7)
        have hmb : machBad (.tuple ((ls.take (i + 1)).map lineD)) = readBad 0 (ls.take (i + 1)) := by
          rw [← readBad_rows]
          cases hc : (ls.take (i + 1)).map lineD with
          | nil =>
            have := congrArg List.length hc
            rw [List.length_map, List.length_take] at this
            simp only [List.length_nil] at this
            omega
          | cons _ _ => rfl
        refine ⟨_, _, rfl, hd7, rows_shaped (fun w m => hpo w (List.mem_of_mem_take m)), fun hn H8 f8 => ?_, fun r hb cls e H8 f8 Rf => ?_⟩
        · rw [hmb, hsn] at hn
          have c : ¬ (i = 12 ∨ lineB w1 = false) := fun c => by rw [if_pos c] at hn; cases hn
          rw [if_neg c] at hb2
          have f68 := f7.trans f8
          exact ⟨_, _, _, _, rfl, fl.trans f68, f68.to hp6 (fun z => nomatch z), f68.to hR6 (fun z => nomatch z), d6.ext f68, by rw [hsn, if_neg c], hb2⟩
        · rw [hmb, hsn] at hb
          have c : i = 12 ∨ lineB w1 = false := by
            by_cases c : i = 12 ∨ lineB w1 = false
            · exact c
            · rw [if_neg c] at hb; cases hb
          have ec : cls = xC K "BadMachine" := Rf.c
          subst ec
          refine ⟨exm_self (xn_BadMachine T XD), fun a ha => ⟨fun M hh k => ⟨PySem.W.looks_subIn k (xn_BadMachine T XD).o.exC, PySem.W.looks_typeIn k (xn_BadMachine T XD).o.tyC⟩, rfl, _, rfl, num_end fun e2 he2 => ?_⟩⟩
          exact bad c _ ((fl.trans f7).trans f8) e2 he2
    · obtain ⟨y2, y3, y4, vs, rfl, f, hpp, hR3, dv, hb1, hb2⟩ := hP
      rw [List.length_map, List.take_length] at hb1
      rw [List.length_map, List.take_length] at dv
      refine ⟨_, rfl, R, _, rfl, .inl ⟨SqL.of hR3, fun l hl => ?_⟩⟩
      have f4 : Fx [] H' (upd H' l (.tup vs)) := Fx.new hl
      exact qn hb1 _ _ (f.trans f4) (.tup (SqT.of upd_same) (dv.ext f4))
end Mh
/-! MhLRowP -/
namespace Mh
open PySem PySem.Spec PyProof.Rows L2 TL
/-! ### the law's own reading of a row, in plain words -/
def rdW (ws : List Str) : Option (Part × Part) := match partO true ws with
  | none => none
  | some (p, r) => match partO false r with
    | some (q, []) => some (p, q)
    | _ => none
theorem rowO_W (z : Str) : rowO z = rdW (Txt.split z blank) := rfl
def lrW (ws : List Str) : PyData := match rdW ws with
  | none => .none
  | some (p, q) => if rowOk (.tuple [p.d, q.d]) = true then .tuple [p.d, q.d] else .none
/-- what the law reads of a row -/
def lrD (z : Str) : PyData := if lineB z = true then lineD z else .none
theorem lrD_W (z : Str) : lrD z = lrW (Txt.split z blank) := by
  unfold lrD lrW lineB lineD
  rw [rowO_W]
  cases rdW (Txt.split z blank) with
  | none => rfl
  | some pq => rfl
def manyI (w : Str) : Int := match formOf true w with
  | some f => (f.length : Nat)
  | none => -1
def cntI (w : Str) : Int := match formOf false w with
  | some f => (f.length : Nat)
  | none => -1
def kvI (l : List (Str × Int)) : List (Key × V) := l.map fun p => (.inr p.1, .int p.2)
theorem valV_kvI (w : Str) : ∀ l : List (Str × Int), valV (kvI l) (.inr w) = (l.lookup w).map V.int
  | [] => rfl
  | p :: l => by
    have ih := valV_kvI w l
    unfold valV kvI at ih ⊢
    rw [List.map_cons, List.find?_cons, List.lookup_cons]
    by_cases c : w = p.1
    · rw [c, beq_self_eq_true]
      simp
    · have h1 : (w == p.1) = false := beq_false_of_ne c
      have h2 : decide ((Sum.inr p.1 : Key) = .inr w) = false := decide_eq_false fun e => c (Sum.inr.inj e).symm
      rw [h1]
      simp only [h2]
      exact ih
theorem lookup_mapV {β γ : Type} (g : β → γ) (w : Str) : ∀ l : List (Str × β), (l.map fun p => (p.1, g p.2)).lookup w = (l.lookup w).map g
  | [] => rfl
  | p :: l => by
    rw [List.map_cons, List.lookup_cons, List.lookup_cons]
    cases w == p.1 with
    | true => rfl
    | false => exact lookup_mapV g w l
def TKV : List (Str × Int) := [("any", 0), ("below", 1), ("rest", 2), ("chance", 2), ("known", 1)]
def AKV : List (Str × Int) := [("num", 1), ("plus", 1), ("times", 1), ("rest", 1), ("none", 0)]
theorem many_get (w : Str) : (valV (kvI TKV) (.inr w)).getD (.int (-1)) = .int (manyI w) := by
  have e : TKV = formsT.map fun p => (p.1, ((p.2.length : Nat) : Int)) := by decide +kernel
  rw [valV_kvI, e, lookup_mapV (fun f : Str => ((f.length : Nat) : Int))]
  unfold manyI formOf
  rw [if_pos rfl]
  cases formsT.lookup w <;> rfl
theorem cnt_get (w : Str) : (valV (kvI AKV) (.inr w)).getD (.int (-1)) = .int (cntI w) := by
  have e : AKV = formsA.map fun p => (p.1, ((p.2.length : Nat) : Int)) := by decide +kernel
  rw [valV_kvI, e, lookup_mapV (fun f : Str => ((f.length : Nat) : Int))]
  unfold cntI formOf
  rw [if_neg (by decide)]
  cases formsA.lookup w <;> rfl
theorem lookup_in {β : Type} {w : Str} {v : β} : ∀ {l : List (Str × β)}, l.lookup w = some v → (w, v) ∈ l
  | [], h => nomatch h
  | p :: l, h => by
    rw [List.lookup_cons] at h
    split at h
    · rename_i c
      have := eq_of_beq c
      rw [this, ← Option.some.inj h]
      exact List.mem_cons_self
    · exact List.mem_cons_of_mem _ (lookup_in h)
/-- the tests' words -/
theorem formT {w f : Str} (h : formOf true w = some f) : (w = "any" ∧ f = "") ∨ (w = "below" ∧ f = "n") ∨ ((w = "rest" ∨ w = "chance") ∧ f = "nn") ∨ (w = "known" ∧ f = "k") := by
  have m := lookup_in (show formsT.lookup w = some f from h)
  unfold formsT at m
  simp only [List.mem_cons, List.mem_nil_iff, or_false, Prod.mk.injEq] at m
  rcases m with ⟨a, b⟩ | ⟨a, b⟩ | ⟨a, b⟩ | ⟨a, b⟩ | ⟨a, b⟩
  · exact .inl ⟨a, b⟩
  · exact .inr (.inl ⟨a, b⟩)
  · exact .inr (.inr (.inl ⟨.inl a, b⟩))
  · exact .inr (.inr (.inl ⟨.inr a, b⟩))
  · exact .inr (.inr (.inr ⟨a, b⟩))
theorem formA {w f : Str} (h : formOf false w = some f) : (w = "none" ∧ f = "") ∨ ((w = "num" ∨ w = "plus" ∨ w = "times") ∧ f = "n") ∨ (w = "rest" ∧ f = "n") := by
  have m := lookup_in (show formsA.lookup w = some f from h)
  unfold formsA at m
  simp only [List.mem_cons, List.mem_nil_iff, or_false, Prod.mk.injEq] at m
  rcases m with ⟨a, b⟩ | ⟨a, b⟩ | ⟨a, b⟩ | ⟨a, b⟩ | ⟨a, b⟩
  · exact .inr (.inl ⟨.inl a, b⟩)
  · exact .inr (.inl ⟨.inr (.inl a), b⟩)
  · exact .inr (.inl ⟨.inr (.inr a), b⟩)
  · exact .inr (.inr ⟨a, b⟩)
  · exact .inl ⟨a, b⟩
theorem thingN (x : Str) : thingO "n" x = (numOf x).map .n := by
  unfold thingO
  rw [if_pos (by decide +kernel)]
theorem thingK (x : Str) : thingO "k" x = (allN ((Txt.split x comma).map numOf)).map .k := by
  unfold thingO
  rw [if_neg (by decide +kernel)]
theorem sg0 : signs "" = [] := by decide +kernel
theorem sg1 : signs "n" = [("n" : Str)] := by decide +kernel
theorem sg2 : signs "nn" = [("n" : Str), "n"] := by decide +kernel
theorem sgk : signs "k" = [("k" : Str)] := by decide +kernel
theorem pT0 (r : List Str) : partO true ("any" :: r) = some (⟨"any", []⟩, r) := by
  rw [partO_cons, show formOf true "any" = some "" by decide +kernel]
  show (if r.length + 1 ≤ (Str.ofString "").length then none else (allT ((r.zip (signs "")).map _)).map _) = _
  rw [if_neg (by show ¬ r.length + 1 ≤ 0; omega), sg0, List.zip_nil_right]
  rfl
theorem pT1 (x : Str) (r : List Str) : partO true ("below" :: x :: r) = (numOf x).map fun a => (⟨"below", [.n a]⟩, r) := by
  rw [partO_cons, show formOf true "below" = some "n" by decide +kernel]
  show (if (x :: r).length + 1 ≤ (Str.ofString "n").length then none else (allT (((x :: r).zip (signs "n")).map fun q => thingO q.2 q.1)).map _) = _
  rw [if_neg (by show ¬ (x :: r).length + 1 ≤ 1; rw [List.length_cons]; omega), sg1, List.zip_cons_cons, List.zip_nil_right]
  show (allT [thingO "n" x]).map _ = _
  rw [thingN]
  cases numOf x <;> rfl
theorem pT2 {w : Str} (hw : w = "rest" ∨ w = "chance") (x y : Str) (r : List Str) : partO true (w :: x :: y :: r) = (numOf x).bind fun a => (numOf y).map fun c => (⟨w, [.n a, .n c]⟩, r) := by
  rw [partO_cons, show formOf true w = some "nn" by rcases hw with rfl | rfl <;> decide +kernel]
  show (if (x :: y :: r).length + 1 ≤ (Str.ofString "nn").length then none else (allT (((x :: y :: r).zip (signs "nn")).map fun q => thingO q.2 q.1)).map _) = _
  rw [if_neg (by show ¬ (x :: y :: r).length + 1 ≤ 2; rw [List.length_cons, List.length_cons]; omega), sg2, List.zip_cons_cons, List.zip_cons_cons, List.zip_nil_right]
  show (allT [thingO "n" x, thingO "n" y]).map _ = _
  rw [thingN, thingN]
  cases numOf x <;> cases numOf y <;> rfl
theorem pTk (x : Str) (r : List Str) : partO true ("known" :: x :: r) = (allN ((Txt.split x comma).map numOf)).map fun ks => (⟨"known", [.k ks]⟩, r) := by
  rw [partO_cons, show formOf true "known" = some "k" by decide +kernel]
  show (if (x :: r).length + 1 ≤ (Str.ofString "k").length then none else (allT (((x :: r).zip (signs "k")).map fun q => thingO q.2 q.1)).map _) = _
  rw [if_neg (by show ¬ (x :: r).length + 1 ≤ 1; rw [List.length_cons]; omega), sgk, List.zip_cons_cons, List.zip_nil_right]
  show (allT [thingO "k" x]).map _ = _
  rw [thingK]
  cases allN ((Txt.split x comma).map numOf) <;> rfl
theorem pA0 : partO false ["none"] = some (⟨"none", []⟩, []) := by
  rw [partO_cons, show formOf false "none" = some "" by decide +kernel]
  rfl
theorem pA1 {w : Str} (hw : formOf false w = some "n") (t : Str) : partO false [w, t] = (numOf t).map fun a => (⟨w, [.n a]⟩, []) := by
  rw [partO_cons, hw]
  show (if [t].length + 1 ≤ (Str.ofString "n").length then none else (allT (([t].zip (signs "n")).map fun q => thingO q.2 q.1)).map _) = _
  rw [if_neg (by show ¬ 1 + 1 ≤ 1; decide), sg1]
  show (allT [thingO "n" t]).map _ = _
  rw [thingN]
  cases numOf t <;> rfl
/-- a row whose words can't be -/
theorem lr_none {ws : List Str} (h : rdW ws = none) : lrW ws = .none := by unfold lrW; rw [h]
theorem rw_1 {w0 : Str} {r : List Str} (h : formOf true w0 = none) : rdW (w0 :: r) = none := by
  unfold rdW
  rw [partO_cons, h]
theorem partT_rest {w0 f : Str} {r : List Str} (h : formOf true w0 = some f) : partO true (w0 :: r) = none ∨ ∃ p, partO true (w0 :: r) = some (p, r.drop f.length) := by
  rw [partO_cons, h]
  show (if r.length + 1 ≤ f.length then none else (allT _).map _) = none ∨ ∃ p, (if r.length + 1 ≤ f.length then none else (allT _).map _) = _
  split
  · exact .inl rfl
  · cases allT ((r.zip (signs f)).map fun q => thingO q.2 q.1) with
    | none => exact .inl rfl
    | some ts => exact .inr ⟨_, rfl⟩
theorem rw_2 {w0 f : Str} {r : List Str} (h : formOf true w0 = some f) (h2 : r.drop f.length = []) : rdW (w0 :: r) = none := by
  unfold rdW
  rcases partT_rest (r := r) h with e | ⟨p, e⟩
  · rw [e]
  · rw [e, h2]
    rfl
theorem rw_3 {w0 f b : Str} {r br : List Str} (h : formOf true w0 = some f) (h2 : r.drop f.length = b :: br) (h3 : cntI b ≠ (br.length : Nat)) : rdW (w0 :: r) = none := by
  unfold rdW
  rcases partT_rest (r := r) h with e | ⟨p, e⟩
  · rw [e]
  · rw [e, h2]
    show (match partO false (b :: br) with | some (q, []) => some (p, q) | _ => none) = none
    rw [partO_cons]
    unfold cntI at h3
    cases hg : formOf false b with
    | none => rfl
    | some g =>
      rw [hg] at h3
      have h3 : ((g.length : Nat) : Int) ≠ (br.length : Nat) := h3
      show (match (if br.length + 1 ≤ g.length then none else (allT ((br.zip (signs g)).map fun q => thingO q.2 q.1)).map fun ts => ((⟨b, ts⟩ : Part), br.drop g.length)) with | some (q, []) => some (p, q) | _ => none) = none
      split
      · rename_i q heq
        split at heq
        · cases heq
        · obtain ⟨ts, _, e2⟩ := Option.map_eq_some_iff.mp heq
          have e3 : br.drop g.length = [] := (Prod.mk.inj e2).2
          have := List.drop_eq_nil_iff.mp e3
          omega
      · rfl
theorem numOf_bound {z : Str} {n : Int} (h : numOf z = some n) : -9999 ≤ n ∧ n ≤ 9999 := by
  unfold numOf at h
  split at h
  · rename_i c
    obtain ⟨c1, c2⟩ := Bool.and_eq_true_iff.mp c
    obtain ⟨c3, c4⟩ := Bool.and_eq_true_iff.mp c1
    obtain ⟨v, hv, hb, _⟩ := num_val (of_decide_eq_true c3) (of_decide_eq_true c4) c2
    rw [hv] at h
    have h : (if wS v = z then some v else none) = some n := h
    split at h
    · cases h
      omega
    · cases h
  · cases h
end Mh
/-! MhLRowQ -/
namespace Mh
open PySem PySem.Spec PyProof.Rows L2 TL
/-! ### what a row's words come to -/
def ansOk (b : Str) (as : List Int) : Bool := if b == ("rest" : Str) then (match as with | [n] => decide (2 ≤ n) && decide (n ≤ 99) | _ => false) else true
def rcW (w : Str) : Bool := inV (.str w) [.str "rest", .str "chance"]
def testOk (w : Str) (ns : List Int) : Bool := if rcW w = true then (match ns with | [a, d] => (decide (2 ≤ a) && decide (a ≤ 99)) && (decide (0 ≤ d) && decide (d < a)) | _ => false)
  else if w == ("below" : Str) then (match ns with | [a] => decide (0 ≤ a) | _ => false) else true
theorem cnt_form {b : Str} {n : Nat} (h : cntI b = (n : Nat)) : ∃ g, formOf false b = some g ∧ g.length = n := by
  unfold cntI at h
  cases hg : formOf false b with
  | none => rw [hg] at h; exact absurd (show (-1 : Int) = (n : Nat) from h) (by omega)
  | some g =>
    rw [hg] at h
    have h : ((g.length : Nat) : Int) = (n : Nat) := h
    exact ⟨g, rfl, by omega⟩
theorem pA {b g : Str} {c : List Str} (hb : formOf false b = some g) (hg : g.length = c.length) : partO false (b :: c) = (allN (c.map numOf)).map fun as => (⟨b, as.map .n⟩, []) := by
  have one : g = "n" → partO false (b :: c) = (allN (c.map numOf)).map fun as => (⟨b, as.map .n⟩, []) := fun e => by
    subst e
    have hg : 1 = c.length := hg
    obtain ⟨t, rfl⟩ : ∃ t, c = [t] := List.length_eq_one_iff.mp hg.symm
    rw [pA1 hb]
    show _ = (allN [numOf t]).map _
    cases numOf t <;> rfl
  rcases formA hb with ⟨e, e2⟩ | ⟨_, e2⟩ | ⟨_, e2⟩
  · subst e e2
    have hg : 0 = c.length := hg
    rw [List.length_eq_zero_iff.mp hg.symm, pA0]
    rfl
  · exact one e2
  · exact one e2
theorem isAns_ok {b g : Str} {c : List Str} {as : List Int} (hb : formOf false b = some g) (hg : g.length = c.length) (h : allN (c.map numOf) = some as) : isAns (.tuple (.str b :: as.map .int)) = ansOk b as := by
  have one : g = "n" → ∃ t a, c = [t] ∧ as = [a] ∧ -9999 ≤ a ∧ a ≤ 9999 := fun e => by
    subst e
    have hg : 1 = c.length := hg
    obtain ⟨t, rfl⟩ : ∃ t, c = [t] := List.length_eq_one_iff.mp hg.symm
    have h : allN [numOf t] = some as := h
    cases ht : numOf t with
    | none => rw [ht] at h; cases h
    | some a =>
      rw [ht] at h
      cases h
      exact ⟨t, a, rfl, rfl, numOf_bound ht⟩
  rcases formA hb with ⟨e, e2⟩ | ⟨e, e2⟩ | ⟨e, e2⟩
  · subst e e2
    have hg : 0 = c.length := hg
    rw [List.length_eq_zero_iff.mp hg.symm] at h
    cases h
    rfl
  · obtain ⟨t, a, rfl, rfl, h1, h2⟩ := one e2
    show (if b == ("rest" : Str) then isNum (.int a) 2 99 else inV (.str b) [.str "num", .str "plus", .str "times"] && isNum (.int a) (-9999) 9999) = _
    have hn : isNum (.int a) (-9999) 9999 = true := by
      show (decide (-9999 ≤ a) && decide (a ≤ 9999)) = true
      rw [decide_eq_true h1, decide_eq_true h2]
      rfl
    rw [hn]
    rcases e with rfl | rfl | rfl <;> rfl
  · obtain ⟨t, a, rfl, rfl, h1, h2⟩ := one e2
    subst e
    rfl
theorem lr_no1 {w0 : Str} {r : List Str} (h1 : partO true (w0 :: r) = none) : lrW (w0 :: r) = .none := lr_none (by unfold rdW; rw [h1])
theorem lr_no2 {w0 b g : Str} {r c : List Str} {p : Part} (h1 : partO true (w0 :: r) = some (p, b :: c)) (hb : formOf false b = some g) (hg : g.length = c.length) (h2 : allN (c.map numOf) = none) : lrW (w0 :: r) = .none := lr_none (by
  unfold rdW
  rw [h1]
  show (match partO false (b :: c) with | some (q, []) => some (p, q) | _ => none) = none
  rw [pA hb hg, h2]
  rfl)
theorem lr_go {w0 b g : Str} {r c : List Str} {p : Part} {as : List Int} (h1 : partO true (w0 :: r) = some (p, b :: c)) (hb : formOf false b = some g) (hg : g.length = c.length) (h2 : allN (c.map numOf) = some as) :
    lrW (w0 :: r) = if (isTest p.d && ansOk b as) = true then .tuple [p.d, .tuple (.str b :: as.map .int)] else .none := by
  have e : rdW (w0 :: r) = some (p, ⟨b, as.map .n⟩) := by
    unfold rdW
    rw [h1]
    show (match partO false (b :: c) with | some (q, []) => some (p, q) | _ => none) = _
    rw [pA hb hg, h2]
    rfl
  have e2 : (⟨b, as.map .n⟩ : Part).d = .tuple (.str b :: as.map .int) := by
    show PyData.tuple (.str b :: (as.map Thing.n).map Thing.d) = _
    rw [List.map_map]
    rfl
  unfold lrW
  rw [e]
  show (if rowOk (.tuple [p.d, (⟨b, as.map .n⟩ : Part).d]) = true then _ else _) = _
  rw [e2, show rowOk (.tuple [p.d, .tuple (.str b :: as.map .int)]) = (isTest p.d && isAns (.tuple (.str b :: as.map .int))) from rfl, isAns_ok hb hg h2]
theorem rc_any : rcW "any" = false := by decide +kernel
theorem rc_below : rcW "below" = false := by decide +kernel
theorem rc_known : rcW "known" = false := by decide +kernel
theorem rc_rc {w : Str} (h : w = "rest" ∨ w = "chance") : rcW w = true := by rcases h with rfl | rfl <;> decide +kernel
theorem allN_cons {o : Option Int} {l : List (Option Int)} : allN (o :: l) = o.bind fun n => (allN l).map (n :: ·) := by cases o <;> rfl
theorem test_any : isTest (.tuple [.str "any"]) = testOk "any" [] := by decide +kernel
theorem test_below {n : Int} (h : n ≤ 9999) : isTest (.tuple [.str "below", .int n]) = testOk "below" [n] := by
  unfold testOk
  rw [rc_below]
  show ((("below" : Str) == ("below" : Str)) && (decide (0 ≤ n) && decide (n ≤ 9999)) || (("below" : Str) == ("known" : Str)) && false) = decide (0 ≤ n)
  rw [decide_eq_true h]
  cases decide (0 ≤ n) <;> decide +kernel
theorem test_rc {w : Str} {a d : Int} (h : w = "rest" ∨ w = "chance") : isTest (.tuple [.str w, .int a, .int d]) = testOk w [a, d] := by
  unfold testOk
  rw [rc_rc h]
  show (((decide (2 ≤ a) && decide (a ≤ 99)) && (decide (0 ≤ d) && decide (d ≤ a - 1))) && rcW w) = _
  rw [rc_rc h, Bool.and_true, show decide (d ≤ a - 1) = decide (d < a) from decide_eq_decide.mpr (by omega)]
  rfl
def testOk2 (w : Str) (us : List Thing) : Bool := if rcW w = true then (match us with | [.n a, .n d] => (decide (2 ≤ a) && decide (a ≤ 99)) && (decide (0 ≤ d) && decide (d < a)) | _ => false)
  else if w == ("below" : Str) then (match us with | [.n a] => decide (0 ≤ a) | _ => false) else true
/-- what is known of the things of a test -/
structure LrT (w0 : Str) (r : List Str) (b : Str) (c : List Str) (n : Nat) (ts : List (Option Thing)) : Prop where
  len : ts.length = n
  no : allT ts = none ∨ allN (c.map numOf) = none → lrW (w0 :: r) = .none
  go : ∀ us as, allT ts = some us → allN (c.map numOf) = some as → lrW (w0 :: r) = if (testOk2 w0 us && ansOk b as) = true then .tuple [.tuple (.str w0 :: us.map Thing.d), .tuple (.str b :: as.map .int)] else .none
  rc : ∀ us, allT ts = some us → rcW w0 = true → ∃ a d, us = [.n a, .n d]
  bl : ∀ us, allT ts = some us → w0 = "below" → ∃ a, us = [.n a]
theorem LrT.gen {w0 f b g : Str} {r c : List Str} (hf : formOf true w0 = some f) (hk : w0 ≠ "known") (hd : r.drop f.length = b :: c) (hb : formOf false b = some g) (hg : g.length = c.length) :
    LrT w0 r b c f.length (((r.take f.length).map numOf).map fun o => o.map Thing.n) := by
  rcases formT hf with ⟨e, e2⟩ | ⟨e, e2⟩ | ⟨e, e2⟩ | ⟨e, _⟩
  · subst e e2
    have hd : r = b :: c := hd
    subst hd
    have h1 := pT0 (b :: c)
    refine ⟨rfl, fun h => h.elim (fun h => (nomatch h)) fun h => lr_no2 h1 hb hg h, fun us as h h2 => ?_, fun us h hr => ?_, fun us h hr => ?_⟩
    · cases h
      rw [lr_go h1 hb hg h2, show (⟨"any", []⟩ : Part).d = .tuple [.str "any"] from rfl, test_any]
      rfl
    · rw [rc_any] at hr
      cases hr
    · exact absurd hr (by decide +kernel)
  · subst e e2
    obtain ⟨x, r', rfl⟩ : ∃ x r', r = x :: r' := by
      cases r with
      | nil => cases hd
      | cons x r' => exact ⟨x, r', rfl⟩
    have hd : r' = b :: c := hd
    subst hd
    have h1 := pT1 x (b :: c)
    show LrT _ _ _ _ _ [(numOf x).map Thing.n]
    cases hx : numOf x with
    | none =>
      rw [hx] at h1
      exact ⟨rfl, fun _ => lr_no1 h1, fun us as h => (nomatch h), fun us h => (nomatch h), fun us h => (nomatch h)⟩
    | some n =>
      rw [hx] at h1
      refine ⟨rfl, fun h => h.elim (fun h => (nomatch h)) fun h => lr_no2 h1 hb hg h, fun us as h h2 => ?_, fun us h hr => ?_, fun us h hr => ?_⟩
      · cases h
        rw [lr_go h1 hb hg h2, show (⟨"below", [.n n]⟩ : Part).d = .tuple [.str "below", .int n] from rfl, test_below (numOf_bound hx).2]
        rfl
      · rw [rc_below] at hr
        cases hr
      · cases h
        exact ⟨n, rfl⟩
  · subst e2
    obtain ⟨x, y, r', rfl⟩ : ∃ x y r', r = x :: y :: r' := by
      match r, hd with
      | [], hd => cases hd
      | [x], hd => cases hd
      | x :: y :: r', _ => exact ⟨x, y, r', rfl⟩
    have hd : r' = b :: c := hd
    subst hd
    have h1 := pT2 e x y (b :: c)
    show LrT _ _ _ _ _ [(numOf x).map Thing.n, (numOf y).map Thing.n]
    cases hx : numOf x with
    | none =>
      rw [hx] at h1
      exact ⟨rfl, fun _ => lr_no1 h1, fun us as h => (nomatch h), fun us h => (nomatch h), fun us h => (nomatch h)⟩
    | some n =>
    rw [hx] at h1
    cases hy : numOf y with
    | none =>
      rw [hy] at h1
      exact ⟨rfl, fun _ => lr_no1 h1, fun us as h => (nomatch h), fun us h => (nomatch h), fun us h => (nomatch h)⟩
    | some m =>
      rw [hy] at h1
      refine ⟨rfl, fun h => h.elim (fun h => (nomatch h)) fun h => lr_no2 h1 hb hg h, fun us as h h2 => ?_, fun us h hr => ?_, fun us h hr => ?_⟩
      · cases h
        rw [lr_go h1 hb hg h2, show (⟨w0, [.n n, .n m]⟩ : Part).d = .tuple [.str w0, .int n, .int m] from rfl, test_rc e]
        rfl
      · cases h
        exact ⟨n, m, rfl⟩
      · rcases e with e | e <;> rw [e] at hr <;> exact absurd hr (by decide +kernel)
  · exact absurd e hk
theorem lr_kn {x b g : Str} {c : List Str} (hb : formOf false b = some g) (hg : g.length = c.length) :
    (allN ((Txt.split x comma).map numOf) = none → lrW ("known" :: x :: b :: c) = .none) ∧ ∀ ks, allN ((Txt.split x comma).map numOf) = some ks →
      (allN (c.map numOf) = none → lrW ("known" :: x :: b :: c) = .none) ∧ (areKnown (.tuple (ks.map .int)) = false → lrW ("known" :: x :: b :: c) = .none) ∧
      ∀ as, allN (c.map numOf) = some as → areKnown (.tuple (ks.map .int)) = true → lrW ("known" :: x :: b :: c) = if ansOk b as = true then .tuple [.tuple [.str "known", .tuple (ks.map .int)], .tuple (.str b :: as.map .int)] else .none := by
  have h1 := pTk x (b :: c)
  cases hK : allN ((Txt.split x comma).map numOf) with
  | none =>
    rw [hK] at h1
    exact ⟨fun _ => lr_no1 h1, fun ks h => by cases h⟩
  | some ks =>
  rw [hK] at h1
  have hT : isTest (⟨"known", [.k ks]⟩ : Part).d = areKnown (.tuple (ks.map .int)) := by
    show ((("known" : Str) == ("below" : Str)) && isNum (.tuple (ks.map .int)) 0 9999 || (("known" : Str) == ("known" : Str)) && areKnown (.tuple (ks.map .int))) = _
    rw [show (("known" : Str) == ("below" : Str)) = false by decide +kernel, show (("known" : Str) == ("known" : Str)) = true by decide +kernel]
    rfl
  refine ⟨fun h => (nomatch h), fun ks2 h => ?_⟩
  cases h
  refine ⟨fun hA => lr_no2 h1 hb hg hA, fun hk => ?_, fun as hA hk => ?_⟩
  · cases hA : allN (c.map numOf) with
    | none => exact lr_no2 h1 hb hg hA
    | some as =>
      rw [lr_go h1 hb hg hA, hT, hk]
      rfl
  · rw [lr_go h1 hb hg hA, hT, hk]
    rfl
theorem LrT.kn {x b g : Str} {c : List Str} {ks : List Int} (hb : formOf false b = some g) (hg : g.length = c.length) (hK : allN ((Txt.split x comma).map numOf) = some ks) (hk : areKnown (.tuple (ks.map .int)) = true) :
    LrT "known" (x :: b :: c) b c 1 [some (.k ks)] := by
  obtain ⟨_, h⟩ := lr_kn (x := x) hb hg
  obtain ⟨h1, _, h3⟩ := h ks hK
  refine ⟨rfl, fun h => h.elim (fun h => (nomatch h)) fun h => h1 h, fun us as h h2 => ?_, fun us h hr => ?_, fun us h hr => ?_⟩
  · cases h
    rw [h3 as h2 hk]
    rfl
  · rw [rc_known] at hr
    cases hr
  · exact absurd hr (by decide +kernel)
theorem known_parts (ks : List Int) : areKnown (.tuple (ks.map .int)) = ((decide (1 ≤ ks.length) && decide (ks.length ≤ 8)) && ((ks.all fun k => decide (0 ≤ k) && decide (k ≤ 9999)) && rising ks)) := by
  rw [areKnown_tup, List.length_map, intOf_map, List.all_map]
  rfl
theorem rising_pw : ∀ {l : List Int}, rising l = true → l.Pairwise (· < ·)
  | [], _ => .nil
  | [_], _ => List.pairwise_singleton _ _
  | x :: y :: r, h => by
    obtain ⟨h1, h2⟩ := Bool.and_eq_true_iff.mp (show (decide (x < y) && rising (y :: r)) = true from h)
    have ih := rising_pw h2
    have h1 := of_decide_eq_true h1
    refine List.pairwise_cons.mpr ⟨fun z m => ?_, ih⟩
    rcases List.mem_cons.mp m with e | m
    · rw [e]; exact h1
    · have := (List.pairwise_cons.mp ih).1 z m
      omega
theorem kn_yes {ks : List Int} {a : Int} {r : List Int} (e : ks = a :: r) (hb : ∀ k ∈ ks, k ≤ 9999) (hp : ks.Pairwise (· < ·)) (h0 : 0 ≤ a) (hl : ks.length ≤ 8) : areKnown (.tuple (ks.map .int)) = true := by
  have hall : (ks.all fun k => decide (0 ≤ k) && decide (k ≤ 9999)) = true := List.all_eq_true.mpr fun k m => by
    have h1 := hb k m
    have h2 : 0 ≤ k := by
      rw [e] at m hp
      rcases List.mem_cons.mp m with e | m
      · rw [e]; exact h0
      · have := (List.pairwise_cons.mp hp).1 k m
        omega
    rw [decide_eq_true h1, decide_eq_true h2]
    rfl
  have h1 : 1 ≤ ks.length := by rw [e, List.length_cons]; omega
  rw [known_parts, hall, rising_of hp, decide_eq_true hl, decide_eq_true h1]
  rfl
theorem kn_no1 {ks ns : List Int} (hn : ns.Pairwise (· < ·)) (hm : ∀ k, k ∈ ns ↔ k ∈ ks) (h : ks ≠ ns) : areKnown (.tuple (ks.map .int)) = false := by
  rw [known_parts]
  have : rising ks = false := by
    cases hr : rising ks with
    | false => rfl
    | true => exact absurd (up_unique (rising_pw hr) hn fun k => (hm k).symm) h
  rw [this, Bool.and_false, Bool.and_false]
theorem kn_no2 {a : Int} {r : List Int} (h : a < 0) : areKnown (.tuple ((a :: r).map .int)) = false := by
  rw [known_parts, List.all_cons, decide_eq_false (show ¬ 0 ≤ a by omega), Bool.false_and, Bool.false_and, Bool.false_and, Bool.and_false]
theorem kn_no3 {ks : List Int} (h : 8 < ks.length) : areKnown (.tuple (ks.map .int)) = false := by
  rw [known_parts, decide_eq_false (show ¬ ks.length ≤ 8 by omega), Bool.and_false, Bool.false_and]
theorem eqvL_ints : ∀ a b : List Int, PyData.eqvAll (a.map .int) (b.map .int) = decide (a = b)
  | [], [] => by simp [PyData.eqvAll]
  | [], _ :: _ => by simp [PyData.eqvAll]
  | _ :: _, [] => by simp [PyData.eqvAll]
  | x :: a, y :: b => by
    have ih := eqvL_ints a b
    simp only [List.map_cons, PyData.eqvAll, PyData.eqv, ih]
    by_cases c : x = y
    · subst c
      simp
    · simp [c]
theorem eqv_lints (a b : List Int) : PyData.eqv (.list (a.map .int)) (.list (b.map .int)) = decide (a = b) := by
  simp only [PyData.eqv]
  exact eqvL_ints a b
end Mh
/-! MhSetB -/
namespace L2
open PySem PySem.Spec PyProof.Rows
section
variable {P : Program} {w : World} {A : Around} {E : Value → Shared → Prop} {s : Shared} {a : Addr}
/-- sorted(a set of ints), any size that a set may have here -/
theorem sorted_setB {S : Int → Bool} {n : Nat} {Q : Value → Shared → Prop} (R : SetR w s.heap a S n) (hh : A.handled = none)
    (hQ : ∀ s' p (out : Array Value) (c : Nat) (ns : List Int), (∀ b o, s.heap.get? b = some o → s'.heap.get? b = some o) → s'.gens = s.gens → s'.os = s.os → s.heap.objs.size ≤ p →
      s'.heap.get? p = some (seqObj "list" out c) → IntsAre out.toList ns → ns.Pairwise (· < ·) → (∀ k, k ∈ ns ↔ S k = true) → ns.length = n → Q (.ref p) s') :
    wpAny (model P w) A (call (.builtin "sorted") [.ref a]) Q E s := by
  obtain ⟨o, es, ep, t, ho, hex, hd, g, nd, hm, hb, hf, hn, hr, hl⟩ := R
  refine Calls.call_function_entry kind_sorted plain_sorted entry_sorted (args_sorted1 _) ?_
  unfold Builtin.«sorted»
  refine wpAny_bind (m := checkCount "sorted" 1 1 _) (wpAny_pure ?_)
  refine wpAny_bind (collect_set (A := A.in1) hh ⟨o, ho, hex.1, hd⟩ hf hb hr hl fun s1 vs k1 hz g1 o1 pm => ?_)
  have hvl : vs.length = n := by rw [pm.length_eq, List.length_map, Array.length_toList]; exact hn
  have hb2 : n < 4096 := by rw [← hn]; exact hb
  have hvi : ∀ v ∈ vs, ∃ k tk, v = Value.int k tk := fun v hv => by
    obtain ⟨e, he, q⟩ := List.mem_map.mp (pm.mem_iff.mp hv)
    obtain ⟨k, tk, h1, _⟩ := g e he
    exact ⟨k, tk, by rw [← q]; exact h1⟩
  have hI : IntsAre vs (vs.map SrtO.iv) := SrtO.ints_iv hvi
  have pk : (vs.map SrtO.iv).Perm (es.toList.map keyOf) := by
    have q := pm.map SrtO.iv
    rw [List.map_map] at q
    have e : es.toList.map (SrtO.iv ∘ (·.2)) = es.toList.map keyOf := List.map_congr_left fun e he => by
      obtain ⟨k, tk, h1, _⟩ := g e he
      show SrtO.iv e.2 = keyOf e
      unfold keyOf
      rw [h1]
      rfl
    rw [e] at q
    exact q
  refine wpAny_bind (wpAny_newList ?_ (by rw [hvl, sizeLine_eq]; omega))
  have hoL : (s1.heap.push (seqObj "list" vs.toArray 0)).get? s1.heap.objs.size = some (seqObj "list" vs.toArray 0) := Heap.get?_push_size _ rfl
  refine wpAny_bind (wpAny_holding (wpAny_call_entry slot_list_sort ⟨_, hoL, rfl⟩ entry_list_sort (SrtO.list_sort_ord SrtO.swo_int hoL (by rw [hvl, sizeLine_eq]; omega) (fun h2 => SrtO.ints_sortable hI h2) fun out h1 h2 => ⟨_, rfl, ?_⟩) (args_list_sort _)))
  obtain ⟨a1, a2, a3⟩ := SrtO.ints_out hI h1 h2
  obtain ⟨c, hc⟩ := sortedHeap_at (vs := vs) (out := out.toArray) hoL
  have pn : (out.map SrtO.iv).Perm (es.toList.map keyOf) := a2.trans pk
  refine wpAny_pure ⟨_, rfl, hQ _ s1.heap.objs.size out.toArray c (out.map SrtO.iv) (fun b u e => ?_) g1 o1 hz hc a1 (lt_of_le_nodup _ a3 (pn.nodup_iff.mpr nd)) (fun k => by rw [pn.mem_iff, ← hm k]) ?_⟩
  · have q := k1 b u e
    have hlt := Heap.lt_size q
    show (sortedHeap (s1.heap.push (seqObj "list" vs.toArray 0)) s1.heap.objs.size vs out.toArray).get? b = some u
    rw [sortedHeap_old (Nat.ne_of_lt hlt) (by rw [size_push']; exact Nat.lt_succ_of_lt hlt)]
    exact Heap.get?_push_of_some _ q
  · rw [pn.length_eq, List.length_map, Array.length_toList]; exact hn
end
section
variable {X : Cx}
def rSortedSetB (w : World) : List V → Hp → VK → Prop := fun vs H Q => ∃ (a : Addr) (S : Int → Bool) (n : Nat), vs = [V.ref a] ∧ H a = some (SetO w a S n) ∧ n < 4096 ∧
  ∀ (ns : List Int) (p : Addr), ns.Pairwise (· < ·) → (∀ k : Int, k ∈ ns ↔ S k = true) → ns.length = n → H p = none → Q (.ref p) (upd H p (.lst (ns.map V.int)))
theorem cr_sortedSetB (hc : X.calm = true) : CallR X (.builtin "sorted") (rSortedSetB X.w) := by
  intro pins s σ H vs us Q I r h
  obtain ⟨a, S, n, rfl, ha, h64, q⟩ := h
  have R := setO_get I ha
  rw [Vals.ref1 r]
  refine sorted_setB R (I.ok.hd hc) fun s' p out c ns k g o hp hg hi hs hm hl => ?_
  have hlen : (ns.map V.int).length ≤ sizeLine := by rw [List.length_map, hl, sizeLine_eq]; omega
  have hn : H p = none := I.hok.fresh hp
  have J : Inv X pins σ (upd H p (.lst (ns.map V.int))) { s with heap := s'.heap, gens := s'.gens, drawn := s'.drawn, toks := s'.toks } :=
    I.call (ch := []) (Un.laid k hp hn) (I.hok.laid k hp ⟨hlen, out.toList, c, vals_of_ints hi, hg⟩) (by rw [g]; exact I.bare) (fun _ z => nomatch z)
  have e : s' = { s with heap := s'.heap, gens := s'.gens, drawn := s'.drawn, toks := s'.toks } := by
    cases s'
    cases s
    cases o
    rfl
  rw [e]
  exact ⟨.ref p, _, J, rfl, q ns p hs hm hl hn⟩
end
end L2
namespace Mh
open PySem PySem.Spec PyProof.Rows L2
/-- set(xs), xs a list of ints, up to 4,000 -/
def rSetLB (K : PySem.W.Frag) (w : World) : List V → Hp → VK → Prop := fun xs H Q => ∃ (l : Addr) (ns : List Int), xs = [V.ref l] ∧ SqL K H l (ns.map V.int) ∧ ns.length < 4000 ∧
  ∀ a c, H a = none → c ≤ ns.length → Q (.ref a) (upd H a (SetO w a (fun j => decide (j ∈ ns)) c))
theorem cr_setLB {X : Cx} (hc : X.calm = true) : CallR X (.type "set") (rSetLB X.K X.w) := fun pins s σ H xs us Q I r h => by
  obtain ⟨l, ns, rfl, hq, hn, q⟩ := h
  rw [Vals.ref1 r]
  obtain ⟨its, rv, pl, hz⟩ := I.list hq
  refine set_listI ns (I.ok.hd hc) pl.isList (by simpa using rv.ints) (by unfold scanBound; omega) fun h' tk c R hcn k => ?_
  have fr : H s.heap.objs.size = none := I.hok.fresh (Nat.le_refl _)
  exact ⟨.ref s.heap.objs.size, _, I.laid (t' := tk) (fun b u e => k b u e) (Nat.le_refl _) (setO_new R), rfl, q _ c fr hcn⟩
section
variable {X : Cx} {K : PySem.W.Frag} {o e : Expr} {es : List Expr} {to : TE} {t : TA} {name : Str} {apos cpos : Pos} {T id : String} {r : V → List V → Hp → VK → Prop}
theorem kpe_bm (h : X.K = K) (pa : PlainAttrs T) (slot : Slot T name id) (hty : typeOf (.builtin id) = pure (.type "method_descriptor")) (hm : MtR X id r) (ho : PE X o to) (ha : PA X (e :: es) t)
    (hbase : attributeBase o name X.env (eval o X.env) = eval o X.env := by rfl)
    (hfew : ((backTo cpos (starEach (e :: es) X.env)).all (fun x => !x.1) && (backToKw cpos (keywordEach [] X.env)).all (fun x => x.1.isSome)
      && decide ((e :: es).length + ([] : List Keyword).length + (if ([] : List Keyword).isEmpty then 0 else 1) < 30)) = true := by rfl)
    (hline : (apos.endLine == cpos.line) = true := by rfl) (hs : starEach (e :: es) X.env = (false, eval e X.env) :: starEach es X.env := by rfl) (hplain : (backTo cpos (starEach es X.env)).any (·.1) = false := by rfl) :
    PE X (.Call (.Attribute o name apos) (e :: es) [] cpos) (tBM K T r to t) := by
  rw [← h]
  exact pe_bm pa slot hty hm ho ha hbase hfew hline hs hplain
end
theorem kcr_setLB {X : Cx} {K : PySem.W.Frag} {w : World} (hk : X.K = K) (hw : X.w = w) (hc : X.calm = true) : CallR X (.type "set") (rSetLB K w) := by rw [← hk, ← hw]; exact cr_setLB hc
theorem kcr_sortedSetB {X : Cx} {w : World} (hw : X.w = w) (hc : X.calm = true) : CallR X (.builtin "sorted") (rSortedSetB w) := by rw [← hw]; exact cr_sortedSetB hc
theorem kmt_lcount {X : Cx} {K : PySem.W.Frag} (h : X.K = K) : MtR X "list.count" (rCntI K) := by rw [← h]; exact mt_lcount
end Mh
/-! MhLRow -/
namespace Mh
open PySem PySem.Spec PyProof.Rows L2 TL
theorem sc_l_row : FnScope ["_law_line", "_law_words", "_law_many", "_law_behind", "_law_counts", "_law_numbers", "_law_known", "_law_word"] ["_law_line"] (defScope s_l_row) := ⟨rfl, rfl, rfl, by decide +kernel, rfl, by decide +kernel, by decide +kernel⟩
theorem cutM_mid {w0 : Str} {r : List Str} {m : Nat} (h : m ≤ r.length) : cutV ((w0 :: r).map V.str) (some 1) (some (1 + (m : Int))) = (r.take m).map V.str := by
  unfold cutV
  rw [show (1 : Int) = ((1 : Nat) : Int) from rfl, show ((1 : Nat) : Int) + (m : Int) = ((1 + m : Nat) : Int) by omega, HT.sIx_nat, HT.sIx_nat, List.length_map, List.length_cons, Nat.min_eq_left (by omega), Nat.min_eq_left (by omega)]
  show (r.map V.str).take (1 + m - 1) = _
  rw [show 1 + m - 1 = m by omega, List.map_take]
theorem oV_range (ps : List Str) : (List.range (ps.map V.str).length).map (fun i => oV ((ps.map numOf).getD i none)) = (ps.map numOf).map oV := by
  rw [List.length_map]
  refine List.ext_getElem? fun j => ?_
  rw [List.getElem?_map, List.getElem?_map, List.getElem?_map]
  by_cases c : j < ps.length
  · rw [List.getElem?_range c, List.getElem?_eq_getElem c]
    have : (ps.map numOf).getD j none = numOf ps[j] := getD_of (by rw [List.getElem?_map, List.getElem?_eq_getElem c]; rfl)
    show some (oV ((ps.map numOf).getD j none)) = some (oV (numOf ps[j]))
    rw [this]
  · rw [List.getElem?_eq_none (by simp; omega), List.getElem?_eq_none (by omega)]
    rfl
theorem dp_oVL {K : PySem.W.Frag} {H : Hp} : ∀ os : List (Option Int), DpAll K H (os.map oV) ((os.map fun o => o.map Thing.n).map thingV)
  | [] => .nil
  | none :: os => .cons .non (dp_oVL os)
  | some n :: os => .cons (.int n) (dp_oVL os)
theorem allT_oV : ∀ os : List (Option Int), (allT (os.map fun o => o.map Thing.n)).isNone = (allN os).isNone
  | [] => rfl
  | none :: os => rfl
  | some n :: os => by
    have ih := allT_oV os
    show ((allT (os.map fun o => o.map Thing.n)).map (Thing.n n :: ·)).isNone = ((allN os).map (n :: ·)).isNone
    rw [Option.isNone_map, Option.isNone_map, ih]
theorem dpAll_ints {K : PySem.W.Frag} {H : Hp} : ∀ {ns : List Int} {xs : List V}, DpAll K H xs (ns.map .int) → xs = ns.map V.int
  | [], _, h => by cases h; rfl
  | n :: ns, _, h => by
    cases h with
    | cons h1 h2 =>
      cases h1
      rw [dpAll_ints h2]
      rfl
theorem atI_lastV {v : V} (xs : List V) : atI (xs ++ [v]) (-1) = some v := by
  unfold atI
  have h : ixN (xs ++ [v]).length (-1) = some xs.length := by
    rw [List.length_append]
    show (if (0 : Int) ≤ -1 then _ else _) = _
    rw [if_neg (by decide)]
    show (if -((xs.length + 1 : Nat) : Int) ≤ -1 then some ((-1 : Int) + ((xs.length + 1 : Nat) : Int)).toNat else none) = _
    rw [if_pos (by omega)]
    congr 1
    omega
  rw [h]
  exact List.getElem?_concat_length
/-- the words behind the test -/
def bhO (w0 : Str) (r : List Str) : List Str := match formOf true w0 with
  | none => []
  | some f => r.drop f.length
def spLRow (K : PySem.W.Frag) : Sp := fun vs H Q _ => ∃ (z : Str), vs = [.str z] ∧ z.length ≤ 3900 ∧ PyData.strOk z = true ∧ ∀ (H' : Hp) (v : V), Fx [] H H' → Dp K H' v (lrD z) → Q v H'
theorem ok_l_row {P : Program} {w : World} {K : PySem.W.Frag} {mg : Str → Option Value} {base : Heap} (T : Tx K mg) : Def P w K mg base CX0 3 "_law_row" ["_law_line"] (spLRow K) := by
  obtain ⟨fd, F⟩ := T.d_l_row
  have G__law_number := ok_l_number (P := P) (w := w) (base := base) T
  refine ⟨_, fd, F.ok sc_l_row (fun vs H Q E h => ?_) (fun cdv A outer s H vs Q E hr h => ?_), F.bindsN fun _ _ _ _ _ _ us hl => match us, hl with | [_], _ => rfl, T.g_l_row, F.kp⟩
  · obtain ⟨z, rfl, _⟩ := h
    rfl
  · obtain ⟨z, rfl, hz, hok, q⟩ := h
    refine ⟨_, PSs.nox (pss_cons (ps_set (i := 1) sc_l_row.nd rfl (by first | exact Or.inl rfl | exact Or.inr rfl) (pe_split (pv 0) pe_str))
        (pss_cons (ps_set (i := 2) sc_l_row.nd rfl (by first | exact Or.inl rfl | exact Or.inr rfl) (pe_dget2 (hu_of hr) (pe_disp (pps_cons pe_str pe_int (pps_cons pe_str pe_int (pps_cons pe_str pe_int (pps_cons pe_str pe_int (pps_cons pe_str pe_int pps_nil))))) (by rfl) (by rfl) (fun z => by cases z) (by decide)) (pe_ix ix_list (pv 1) pe_int (fun _ _ => rfl)) (pe_un un_neg pe_int) ⟨rfl, rfl, rfl, rfl⟩))
        (Evl.pss_cut (ps_set (i := 3) sc_l_row.nd rfl (by first | exact Or.inl rfl | exact Or.inr rfl) (pe_ifExp (pt_cmpR op_ge (pv 2) pe_int (nomark _)) (pe_slice sl_list (pv 1) (po_some (pe_op op_add pe_int (pv 2))) po_none) (pe_lst pa_nil)))
        (pss_cons (ps_set (i := 4) sc_l_row.nd rfl (by first | exact Or.inl rfl | exact Or.inr rfl) (pe_disp (pps_cons pe_str pe_int (pps_cons pe_str pe_int (pps_cons pe_str pe_int (pps_cons pe_str pe_int (pps_cons pe_str pe_int pps_nil))))) (by rfl) (by rfl) (fun z => by cases z) (by decide)))
        (pss_cons (ps_if (PW.pt (pw_or (pt_cmpR (op_eqD hr.units) (pv 3) (pe_lst pa_nil) (nomark _)) (pw_or1 (pt_cmpR op_ne (pe_dget2 (hu_of hr) (pv 4) (pe_ix ix_list (pv 3) pe_int (fun _ _ => rfl)) (pe_un un_neg pe_int) ⟨rfl, rfl, rfl, rfl⟩) (pe_op op_sub (pe_callB call_len_seq (by rfl) T.f_len (by decide +kernel) (pa_cons (pv 3) pa_nil)) pe_int) (nomark _)))))
        (pss_one (ps_ret pe_non))
        pss_nil)
        (pss_cons (ps_setLc (i := 5) (own := [("_law_word", 7)]) (g := (gName 7)) (tt := tYes) rfl sc_l_row.nd rfl rfl (sw_true rfl rfl rfl (by decide +kernel)) (pi_list (pe_op op_cat (pe_slice sl_list (pv 1) (po_some pe_int) (po_some (pe_op op_add pe_int (pv 2)))) (pe_slice sl_list (pv 3) (po_some pe_int) po_none))) (blkOk_by (own := [("_law_word", 7)]) (N := ["_law_line", "_law_words", "_law_many", "_law_behind", "_law_counts", "_law_numbers", "_law_known", "_law_word"]) (sc := defScope s_l_row) (by decide +kernel)) (fun _ _ _ _ _ => pg_name (i := 7) sc_l_row.nd rfl (by first | exact Or.inl rfl | exact Or.inr rfl)) (fun _ _ _ _ _ => pts_nil) (fun _ _ _ _ _ => (pe_def G__law_number (hr.mono (by omega)) pass0 (pa_cons (pv 7) pa_nil))))
        (Evl.pss_cut (ps_if (pt_cmpR op_eq (pe_ix ix_list (pv 1) pe_int (fun _ _ => rfl)) pe_str (nomark _))
        (pss_cons (ps_setLc (i := 6) (own := [("_law_word", 7)]) (g := (gName 7)) (tt := tYes) rfl sc_l_row.nd rfl rfl (sw_true rfl rfl rfl (by decide +kernel)) (pi_list (pe_split (pe_ix ix_list (pv 1) pe_int (fun _ _ => rfl)) pe_str)) (blkOk_by (own := [("_law_word", 7)]) (N := ["_law_line", "_law_words", "_law_many", "_law_behind", "_law_counts", "_law_numbers", "_law_known", "_law_word"]) (sc := defScope s_l_row) (by decide +kernel)) (fun _ _ _ _ _ => pg_name (i := 7) sc_l_row.nd rfl (by first | exact Or.inl rfl | exact Or.inr rfl)) (fun _ _ _ _ _ => pts_nil) (fun _ _ _ _ _ => (pe_def G__law_number (hr.mono (by omega)) pass0 (pa_cons (pv 7) pa_nil))))
        (pss_cons (ps_if (PW.pt (pw_or (pt_cmpR op_in_seq pe_non (pv 6) (by rfl)) (pw_or (pt_cmpR (op_neD hr.units) (pv 6) (pe_callB (kcr_sortedSetB (w := w) rfl rfl) (by rfl) T.f_sorted (by decide +kernel) (pa_cons (pe_callTy (kcr_setLB (K := K) (w := w) rfl rfl rfl) (by rfl) T.f_set (by decide +kernel) (pa_cons (pv 6) pa_nil)) pa_nil)) (nomark _)) (pw_or (pt_cmpR op_lt (pe_ix ix_list (pv 6) pe_int (fun _ _ => rfl)) pe_int (nomark _)) (pw_or1 (pt_cmpR op_gt (pe_callB call_len_seq (by rfl) T.f_len (by decide +kernel) (pa_cons (pv 6) pa_nil)) pe_int (nomark _)))))))
        (pss_one (ps_ret pe_non))
        pss_nil)
        (pss_one (ps_asg (pe_callTy call_tuple_of (by rfl) T.f_tuple (by decide +kernel) (pa_cons (pv 6) pa_nil)) (pg_sub (pv 5) pe_int set_list)))))
        pss_nil)
        (pss_cons (ps_if (pt_cmpR (op_inD (un65 hr)) pe_non (pv 5) (by rfl))
        (pss_one (ps_ret pe_non))
        pss_nil)
        (Evl.pss_cut (ps_if (PW.pt (pw_and (pt_cmpR op_in_seq (pe_ix ix_list (pv 1) pe_int (fun _ _ => rfl)) (pe_tup (pa_cons pe_str (pa_cons pe_str pa_nil))) (by rfl)) (pw_and1 (pt_not (PW.pt (pw_and (pt_chain op_le op_le pe_int (pe_ix ix_list (pv 5) pe_int (fun _ _ => rfl)) pe_int) (pw_and1 (pt_chain op_le op_lt pe_int (pe_ix ix_list (pv 5) pe_int (fun _ _ => rfl)) (pe_ix ix_list (pv 5) pe_int (fun _ _ => rfl))))))))))
        (pss_one (ps_ret pe_non))
        pss_nil)
        (Evl.pss_cut (ps_if (PW.pt (pw_or (PW.pt (pw_and (pt_cmpR op_eq (pe_ix ix_list (pv 1) pe_int (fun _ _ => rfl)) pe_str (nomark _)) (pw_and1 (pt_cmpR op_lt (pe_ix ix_list (pv 5) pe_int (fun _ _ => rfl)) pe_int (nomark _))))) (pw_or1 (PW.pt (pw_and (pt_cmpR op_eq (pe_ix ix_list (pv 3) pe_int (fun _ _ => rfl)) pe_str (nomark _)) (pw_and1 (pt_not (pt_chain op_le op_le pe_int (pe_ix ix_list (pv 5) (pe_un un_neg pe_int) (fun _ _ => rfl)) pe_int))))))))
        (pss_one (ps_ret pe_non))
        pss_nil)
        (pss_one (ps_ret (pe_tup (pa_cons (pe_op (kop_catAny (K := K) rfl) (pe_tup (pa_cons (pe_ix ix_list (pv 1) pe_int (fun _ _ => rfl)) pa_nil)) (pe_callTy call_tuple_of (by rfl) T.f_tuple (by decide +kernel) (pa_cons (pe_slice sl_list (pv 5) po_none (po_some (pv 2))) pa_nil))) (pa_cons (pe_op (kop_catAny (K := K) rfl) (pe_tup (pa_cons (pe_ix ix_list (pv 3) pe_int (fun _ _ => rfl)) pa_nil)) (pe_callTy call_tuple_of (by rfl) T.f_tuple (by decide +kernel) (pa_cons (pe_slice sl_list (pv 5) (po_some (pv 2)) po_none) pa_nil))) pa_nil))))))))))))))), ?_⟩
    rw [show (∀ (H' : Hp) (v : V), Fx [] H H' → Dp K H' v (lrD z) → Q v H') = (∀ (H' : Hp) (v : V), Fx [] H H' → Dp K H' v (lrW (Txt.split z blank)) → Q v H') by rw [lrD_W]] at q
    refine ⟨_, rfl, ⟨_, rfl⟩, z, blank, rfl, rfl, by decide +kernel, Nat.le_trans (m := 5000) (by omega) (by decide), fun p hp => ?_⟩
    have hww := split_w (z := z) (y := blank) (c := 32) (by decide +kernel) (by decide +kernel)
    have hwl := split_len (z := z) (y := blank) (by decide +kernel) (by decide +kernel)
    have hwo := split_ok (y := blank) (by decide +kernel) (by decide +kernel) hok
    have hwn := PyProof.Rows.split_le z blank
    generalize Txt.split z blank = ws at q hww hwl hwo hwn ⊢
    obtain ⟨w0, r, rfl⟩ : ∃ w0 r, ws = w0 :: r := by
      cases ws with
      | nil => cases hww
      | cons w0 r => exact ⟨w0, r, rfl⟩
    rw [List.length_cons] at hwn
    have hrl : ∀ w ∈ r, w.length ≤ 3900 ∧ PyData.strOk w = true := fun w m => ⟨Nat.le_trans (hwl w (List.mem_cons_of_mem _ m)) hz, hwo w (List.mem_cons_of_mem _ m)⟩
    clear hww hwl hwo
    have f1 : Fx [] H (upd H p (.lst ((w0 :: r).map V.str))) := Fx.new hp
    have e1 : upd H p (.lst ((w0 :: r).map V.str)) p = some (.lst ((w0 :: r).map V.str)) := upd_same
    generalize upd H p (.lst ((w0 :: r).map V.str)) = H1 at f1 e1
    -- how many words the test has
    intro dk hdk
    refine And.intro upd_same ⟨kvI TKV, rfl, by show 5 ≤ 15; decide, ?_⟩
    rw [show mergeK [] (kvI TKV) = kvI TKV from rfl, upd_upd]
    have f2 : Fx [] H1 (upd H1 dk (.dK (kvI TKV))) := Fx.new hdk
    have e2 : upd H1 dk (.dK (kvI TKV)) dk = some (.dK (kvI TKV)) := upd_same
    generalize upd H1 dk (.dK (kvI TKV)) = H2 at f2 e2
    have e1 := f2.to e1 fun z => nomatch z
    refine ⟨dk, rfl, .inl ⟨_, .inl e2⟩, _, rfl, p, _, 0, .str w0, rfl, rfl, SqL.of e1, atI_nat (j := 0) rfl, 1, rfl, _, .inl ⟨_, .inr w0, .inl e2, rfl, rfl⟩, ?_⟩
    have em : (valV (kvI TKV) (.inr w0)).getD (.int (-1)) = .int (manyI w0) := many_get w0
    rw [em]
    have hw0 : ∀ f, formOf true w0 = some f → manyI w0 = (f.length : Nat) := fun f hf => by unfold manyI; rw [hf]
    have hw1 : formOf true w0 = none → manyI w0 = -1 := fun hf => by unfold manyI; rw [hf]
    refine ⟨fun σ' H' => ∃ pb, σ' = [some (.str z), some (.ref p), some (.int (manyI w0)), some (.ref pb), none, none, none, none] ∧ Fx [] H2 H' ∧ H' pb = some (.lst ((bhO w0 r).map V.str)), ?_, ?_⟩
    · refine ⟨_, rfl, _, _, rfl, rfl, _, rfl, ?_⟩
      cases hf : formOf true w0 with
      | none =>
        rw [hw1 hf]
        refine ifF rfl ⟨by show 0 ≤ sizeLine; decide, fun pb hpb => ⟨pb, rfl, Fx.new hpb, ?_⟩⟩
        rw [show bhO w0 r = [] by unfold bhO; rw [hf]]
        exact upd_same
      | some f =>
        rw [hw0 f hf]
        refine ifT (decide_eq_true (by omega)) ⟨_, rfl, _, rfl, _, _, rfl, rfl, ((1 + f.length : Nat) : Int), by rw [show ((1 + f.length : Nat) : Int) = 1 + ((f.length : Nat) : Int) by omega], p, _, rfl, SqL.of e1, fun pb hpb => ⟨pb, rfl, Fx.new hpb, ?_⟩⟩
        rw [cutM_from, show bhO w0 r = (w0 :: r).drop (1 + f.length) by unfold bhO; rw [hf, Nat.add_comm]; rfl]
        exact upd_same
    rintro σ' H3 ⟨pb, rfl, f3, e3⟩
    have e1 := f3.to e1 fun z => nomatch z
    have fA : Fx [] H H3 := (f1.trans f2).trans f3
    clear f3 e2 em

    -- the counts
    intro ck hck
    refine And.intro upd_same ⟨kvI AKV, rfl, by show 5 ≤ 15; decide, ?_⟩
    rw [show mergeK [] (kvI AKV) = kvI AKV from rfl, upd_upd]
    have f4 : Fx [] H3 (upd H3 ck (.dK (kvI AKV))) := Fx.new hck
    have e4 : upd H3 ck (.dK (kvI AKV)) ck = some (.dK (kvI AKV)) := upd_same
    generalize upd H3 ck (.dK (kvI AKV)) = H4 at f4 e4
    have e1 := f4.to e1 fun z => nomatch z
    have e3 := f4.to e3 fun z => nomatch z
    have fA := fA.trans f4


    -- nothing behind the test, or not as many as its word wants
    refine ⟨_, rfl, by show 0 ≤ sizeLine; decide, fun qe hqe => ?_⟩
    have f5 : Fx [] H4 (upd H4 qe (.lst [])) := Fx.new hqe
    have e5 : upd H4 qe (.lst []) qe = some (.lst []) := upd_same
    generalize upd H4 qe (.lst []) = H5 at f5 e5
    have e1 := f5.to e1 fun z => nomatch z
    have e3 := f5.to e3 fun z => nomatch z
    have e4 := f5.to e4 fun z => nomatch z
    have fA := fA.trans f5
    have hbo : ∀ w ∈ bhO w0 r, w ∈ r := fun w m => by
      unfold bhO at m
      split at m
      · cases m
      · exact List.mem_of_mem_drop m
    refine ⟨_, .list [], Dp.lst (SqL.of e3) (dpStrs _), .lst (SqL.of e5) .nil, strs_shaped fun w m => (hrl w (hbo w m)).2, by decide +kernel, ?_⟩
    cases hf : formOf true w0 with
    | none =>
      have eb : bhO w0 r = [] := by unfold bhO; rw [hf]
      rw [lr_none (rw_1 hf)] at q
      rw [eb]
      exact ⟨_, rfl, ifT (by decide +kernel) (q _ _ fA .non)⟩
    | some f =>
    have eb : bhO w0 r = r.drop f.length := by unfold bhO; rw [hf]
    rw [eb] at e3 hbo ⊢
    rw [hw0 f hf]
    cases hd : r.drop f.length with
    | nil =>
      rw [lr_none (rw_2 hf hd)] at q
      exact ⟨_, rfl, ifT (by decide +kernel) (q _ _ fA .non)⟩
    | cons b c =>
    rw [hd] at e3 hbo
    rw [show PyData.eqv (.list ((b :: c).map .str)) (.list []) = false by simp [PyData.eqv, PyData.eqvAll]]
    refine ⟨_, rfl, ifF rfl ?_⟩
    refine ⟨_, rfl, ck, rfl, .inl ⟨_, .inl e4⟩, _, rfl, pb, _, 0, .str b, rfl, rfl, SqL.of e3, atI_nat (j := 0) rfl, 1, rfl, _, .inl ⟨_, .inr b, .inl e4, rfl, rfl⟩, ?_⟩
    rw [cnt_get b]
    refine ⟨_, rfl, pb, _, rfl, .inl (SqL.of e3), _, _, rfl, rfl, rfl, _, rfl, ifB (fun c4 => ?_) (fun c4 => ?_)⟩
    · have c5 : cntI b ≠ (c.length : Nat) := fun e => by
        rw [e] at c4
        simp at c4
      rw [lr_none (rw_3 hf hd c5)] at q
      exact q _ _ fA .non
    have c5 : cntI b = (c.length : Nat) := by simpa using c4
    clear c4
    have hfr : f.length ≤ r.length := by
      have e := congrArg List.length hd
      rw [List.length_drop, List.length_cons] at e
      omega
    -- the numbers
    refine ⟨_, rfl, _, rfl, _, rfl, _, _, rfl, rfl, _, rfl, p, _, rfl, SqL.of e1, fun q1 hq1 => ?_⟩
    rw [cutM_mid hfr]
    have f6 : Fx [] H5 (upd H5 q1 (.lst ((r.take f.length).map V.str))) := Fx.new hq1
    have e6 : upd H5 q1 (.lst ((r.take f.length).map V.str)) q1 = some (.lst ((r.take f.length).map V.str)) := upd_same
    generalize upd H5 q1 (.lst ((r.take f.length).map V.str)) = H6 at f6 e6
    have e1 := f6.to e1 fun z => nomatch z
    have e3 := f6.to e3 fun z => nomatch z
    have fA := fA.trans f6
    refine ⟨_, rfl, ((1 : Nat) : Int), rfl, pb, _, rfl, SqL.of e3, fun q2 hq2 => ?_⟩
    rw [cutM_from (ls := b :: c) (n := 1), show (b :: c).drop 1 = c from rfl]
    have f7 : Fx [] H6 (upd H6 q2 (.lst (c.map V.str))) := Fx.new hq2
    have e7 : upd H6 q2 (.lst (c.map V.str)) q2 = some (.lst (c.map V.str)) := upd_same
    generalize upd H6 q2 (.lst (c.map V.str)) = H7 at f7 e7
    have e1 := f7.to e1 fun z => nomatch z
    have e3 := f7.to e3 fun z => nomatch z
    have e6 := f7.to e6 fun z => nomatch z
    have fA := fA.trans f7
    have hcl : c.length + 1 ≤ r.length := by
      have e := congrArg List.length hd
      rw [List.length_drop, List.length_cons] at e
      omega
    have htl : (r.take f.length).length = f.length := by rw [List.length_take]; omega
    refine ⟨q1, q2, _, _, rfl, rfl, e6, e7, Nat.le_trans (m := 9000) (by rw [List.length_map, List.length_map]; omega) (by decide), fun q3 hq3 => ?_⟩
    rw [← List.map_append]
    have hab : ∀ y ∈ r.take f.length ++ c, y ∈ r := fun y m => (List.mem_append.mp m).elim (fun m => List.mem_of_mem_take m) fun m => hbo y (List.mem_cons_of_mem _ m)
    have hal : (r.take f.length ++ c).length ≤ 8000 := by rw [List.length_append]; omega
    generalize hab2 : r.take f.length ++ c = ab at hab hal
    have f8 : Fx [] H7 (upd H7 q3 (.lst (ab.map V.str))) := Fx.new hq3
    have e8 : upd H7 q3 (.lst (ab.map V.str)) q3 = some (.lst (ab.map V.str)) := upd_same
    generalize upd H7 q3 (.lst (ab.map V.str)) = H8 at f8 e8
    have e1 := f8.to e1 fun z => nomatch z
    have e3 := f8.to e3 fun z => nomatch z
    have fA := fA.trans f8
    have fA8 := fA
    have e18 := e1
    have e38 := e3
    refine ⟨q3, rfl, ⟨_, SqL.of e8⟩, fun D hD => lc_map (walk_list (xs := ab.map V.str)) (fun i => oV ((ab.map numOf).getD i none)) (by rw [List.length_map]; omega) hD (fun H2 f => SqL.of (f.to e8 (fun z => nomatch z))) (fun _ _ _ _ y => YAt.fx y) (fun i x H2 H3 Qe Z hi f y k => ?_) (fun H9 f9 e9 => ?_)⟩
    · obtain ⟨rfl, hxg⟩ := y
      rw [List.getElem?_map] at hxg
      obtain ⟨w, hw, rfl⟩ := Option.map_eq_some_iff.mp hxg
      have ew : (ab.map numOf).getD i none = numOf w := getD_of (by rw [List.getElem?_map, hw]; rfl)
      rw [ew] at k
      have hwr := hrl w (hab w (List.mem_of_getElem? hw))
      exact ⟨rfl, ifT rfl ⟨_, rfl, ⟨w, rfl, by omega, hwr.2, fun H' f' => k _ f'⟩⟩⟩
    rw [oV_range] at e9
    have e1 := f9.to e1 fun z => nomatch z
    have e3 := f9.to e3 fun z => nomatch z
    have fA := fA.trans f9
    obtain ⟨g, hbg, hg⟩ := cnt_form c5
    refine ⟨fun σ' H' => ∃ (y6 : Option V) (xT : List V) (ts : List (Option Thing)), σ' = [some (.str z), some (.ref p), some (.int (f.length : Nat)), some (.ref pb), some (.ref ck), some (.ref D), y6, none] ∧ Fx [] H H' ∧ H' p = some (.lst ((w0 :: r).map V.str)) ∧ H' pb = some (.lst ((b :: c).map V.str)) ∧ H' D = some (.lst (xT ++ (c.map numOf).map oV)) ∧ DpAll K H' xT (ts.map thingV) ∧ LrT w0 r b c f.length ts, ?_, ?_⟩
    · by_cases hk : w0 = "known"
      · subst hk
        have ef : f = "k" := by
          rcases formT hf with ⟨e, _⟩ | ⟨e, _⟩ | ⟨e, _⟩ | ⟨_, e⟩
          · exact absurd e (by decide +kernel)
          · exact absurd e (by decide +kernel)
          · rcases e with e | e <;> exact absurd e (by decide +kernel)
          · exact e
        subst ef
        obtain ⟨x, r', rfl⟩ : ∃ x r', r = x :: r' := by
          cases r with
          | nil => cases hd
          | cons x r' => exact ⟨x, r', rfl⟩
        have hd : r' = b :: c := hd
        subst hd
        obtain ⟨lk0, lk⟩ := lr_kn (x := x) hbg hg
        have hx := hrl x List.mem_cons_self
        have eab : ab = x :: c := hab2.symm
        rw [eab] at e9
        refine ⟨_, rfl, p, _, 0, .str "known", rfl, rfl, SqL.of e1, atI_nat (j := 0) rfl, rfl, _, rfl, ifT (by decide +kernel) ?_⟩
        have hpl := split_len (z := x) (y := comma) (by decide +kernel) (by decide +kernel)
        have hpn := PyProof.Rows.split_le x comma
        have hpo := split_ok (y := comma) (by decide +kernel) (by decide +kernel) hx.2
        have hpw := split_w (z := x) (y := comma) (c := 44) (by decide +kernel) (by decide +kernel)
        refine ⟨_, rfl, p, _, 1, .str x, rfl, rfl, SqL.of e1, atI_nat (j := 1) rfl, ⟨_, rfl⟩, x, comma, rfl, rfl, by decide +kernel, Nat.le_trans (m := 5000) (by omega) (by decide), fun sp hsp => ?_⟩
        generalize hps0 : Txt.split x comma = ps at lk0 lk hpl hpn hpo hpw ⊢
        have hps : 1 ≤ ps.length := by
          cases ps with
          | nil => cases hpw
          | cons _ _ => rw [List.length_cons]; omega
        clear hpw
        have g1 : Fx [] H9 (upd H9 sp (.lst (ps.map V.str))) := Fx.new hsp
        have u1 : upd H9 sp (.lst (ps.map V.str)) sp = some (.lst (ps.map V.str)) := upd_same
        generalize upd H9 sp (.lst (ps.map V.str)) = G1 at g1 u1
        refine ⟨sp, rfl, ⟨_, SqL.of u1⟩, fun D2 hD2 => lc_map (walk_list (xs := ps.map V.str)) (fun i => oV ((ps.map numOf).getD i none)) (by rw [List.length_map]; omega) hD2 (fun H2 f => SqL.of (f.to u1 (fun z => nomatch z))) (fun _ _ _ _ y => YAt.fx y) (fun i x H2 H3 Qe Z hi f y k => ?_) (fun G2 g2 u2 => ?_)⟩
        · obtain ⟨rfl, hxg⟩ := y
          rw [List.getElem?_map] at hxg
          obtain ⟨w, hw, rfl⟩ := Option.map_eq_some_iff.mp hxg
          have ew : (ps.map numOf).getD i none = numOf w := getD_of (by rw [List.getElem?_map, hw]; rfl)
          rw [ew] at k
          have hwr := hpl w (List.mem_of_getElem? hw)
          exact ⟨rfl, ifT rfl ⟨_, rfl, ⟨w, rfl, by omega, hpo w (List.mem_of_getElem? hw), fun H' f' => k _ f'⟩⟩⟩
        rw [oV_range] at u2
        have g12 := g1.trans g2
        have qn : ∀ G', Fx [] G2 G' → lrW ("known" :: x :: b :: c) = .none → Q .non G' := fun G' g e => q _ _ ((fA.trans g12).trans g) (by rw [e]; exact .non)
        -- None among the known ones
        refine ⟨_, rfl, D2, _, rfl, .inl (SqL.of u2), rfl, flat_oV _, ?_⟩
        rw [if_neg (by decide), inV_none]
        refine ⟨_, rfl, ifB (fun k1 => qn _ .refl (lk0 (by simpa using k1))) (fun k1 => ?_)⟩
        obtain ⟨ks, hks⟩ : ∃ ks, allN (ps.map numOf) = some ks := by
          cases h : allN (ps.map numOf) with
          | none => rw [h] at k1; cases k1
          | some ks => exact ⟨ks, rfl⟩
        clear k1
        have hks0 : allN ((Txt.split x comma).map numOf) = some ks := by rw [hps0]; exact hks
        have eks := allN_some hks
        have u2 : G2 D2 = some (.lst (ks.map V.int)) := by
          rw [u2, eks, List.map_map]
          rfl
        have hkl : ks.length = ps.length := by
          have e := congrArg List.length eks
          rw [List.length_map, List.length_map] at e
          exact e.symm
        obtain ⟨_, lk2, _⟩ := lk ks hks
        have hbk : ∀ k ∈ ks, k ≤ 9999 := fun k m => by
          have : some k ∈ ps.map numOf := by rw [eks]; exact List.mem_map_of_mem m
          obtain ⟨w, _, e⟩ := List.mem_map.mp this
          exact (numOf_bound e).2
        refine ⟨_, rfl, _, rfl, D2, ks, rfl, SqL.of u2, by omega, fun sa cn hsa hcn => ?_⟩
        have g3 : Fx [] G2 (upd G2 sa (SetO w sa (fun j => decide (j ∈ ks)) cn)) := Fx.new hsa
        have u3 : upd G2 sa (SetO w sa (fun j => decide (j ∈ ks)) cn) sa = some (SetO w sa (fun j => decide (j ∈ ks)) cn) := upd_same
        generalize upd G2 sa (SetO w sa (fun j => decide (j ∈ ks)) cn) = G3 at g3 u3
        refine ⟨sa, _, cn, rfl, u3, by omega, fun zs zp zpw zmem zlen hzp => ?_⟩
        have g4 : Fx [] G3 (upd G3 zp (.lst (zs.map V.int))) := Fx.new hzp
        have u4 : upd G3 zp (.lst (zs.map V.int)) zp = some (.lst (zs.map V.int)) := upd_same
        generalize upd G3 zp (.lst (zs.map V.int)) = G4 at g4 u4
        have g24 := g3.trans g4
        have u24 := g24.to u2 fun z => nomatch z
        refine ⟨_, _, Dp.lst (SqL.of u24) (Dp.ints ks), Dp.lst (SqL.of u4) (Dp.ints zs), shaped_ints ks, shaped_ints zs, ?_⟩
        rw [eqv_lints]
        refine ⟨_, rfl, ifB (fun k2 => qn _ g24 (lk2 (kn_no1 zpw (fun k => (zmem k).trans decide_eq_true_iff) (by simpa using k2)))) (fun k2 => ?_)⟩
        have ekz : ks = zs := by simpa using k2
        obtain ⟨a, kr, ekr⟩ : ∃ a kr, ks = a :: kr := by
          cases ks with
          | nil => exact absurd hkl (by show ¬ 0 = _; omega)
          | cons a kr => exact ⟨a, kr, rfl⟩
        refine ⟨_, rfl, D2, _, 0, .int a, rfl, rfl, SqL.of u24, atI_nat (j := 0) (by rw [ekr]; rfl), _, _, rfl, rfl, _, rfl, ifB (fun k3 => qn _ g24 (lk2 (by rw [ekr]; exact kn_no2 (of_decide_eq_true k3)))) (fun k3 => ?_)⟩
        refine ⟨_, rfl, D2, _, rfl, .inl (SqL.of u24), _, _, rfl, rfl, _, rfl, ifB (fun k4 => qn _ g24 (lk2 (kn_no3 (by have := of_decide_eq_true k4; rw [List.length_map] at this; omega)))) (fun k4 => ?_)⟩
        have hK := kn_yes ekr hbk (ekz ▸ zpw) (by have := of_decide_eq_false k3; omega) (by have := of_decide_eq_false k4; rw [List.length_map] at this; omega)
        refine ⟨_, rfl, D2, _, rfl, .inl ⟨SqL.of u24, fun tk htk => ?_⟩⟩
        have g5 : Fx [] G4 (upd G4 tk (.tup (ks.map V.int))) := Fx.new htk
        have u5 : SqT K (upd G4 tk (.tup (ks.map V.int))) tk (ks.map V.int) := SqT.of upd_same
        generalize upd G4 tk (.tup (ks.map V.int)) = G5 at g5 u5
        have g95 := (g12.trans g24).trans g5
        refine rd_setL (j := 0) rfl (g95.to e9 fun z => nomatch z) (by rw [List.length_map, List.length_map, List.length_cons]; exact Nat.succ_pos _) ?_
        have eD5 := g95.to e9 fun z => nomatch z
        have f8D : Fx [] H8 (upd G5 D (.lst (((x :: c).map numOf).map oV |>.set 0 (.ref tk)))) := (f9.trans g95).loc hD (Chg.lst eD5)
        have fD : Fx [D] G5 (upd G5 D (.lst (((x :: c).map numOf).map oV |>.set 0 (.ref tk)))) := Fx.set List.mem_cons_self (Chg.lst eD5)
        refine ⟨some (.ref D2), [.ref tk], [some (.k ks)], rfl, fA8.trans f8D, f8D.to e18 (fun z => nomatch z), f8D.to e38 (fun z => nomatch z), upd_same, ?_, LrT.kn hbg hg hks0 hK⟩
        have d5 : DpAll K G5 [.ref tk] ([some (.k ks)].map thingV) := .cons (.tup u5 (Dp.ints ks)) .nil
        refine d5.mv fD (nolA_of fun d hd => ?_)
        obtain ⟨o, _, rfl⟩ := List.mem_map.mp hd
        exact thingV_nol _
      refine ⟨_, rfl, p, _, 0, .str w0, rfl, rfl, SqL.of e1, atI_nat (j := 0) rfl, rfl, _, rfl, ifF (by rw [dec_str]; exact beq_false_of_ne hk) ?_⟩
      refine ⟨none, _, _, rfl, fA, e1, e3, ?_, dp_oVL ((r.take f.length).map numOf), LrT.gen hf hk hd hbg hg⟩
      rw [e9, ← hab2, List.map_append, List.map_append]
    clear e9 e1 e3 fA
    rintro σ' HA ⟨y6, xT, ts, rfl, fA, e1, e3, eD, dT, L⟩
    -- None among the numbers
    refine ⟨_, rfl, .none, _, .non, .lst (SqL.of eD) (dT.app (dp_oVL _)), by decide +kernel, ?_, _, rfl, ?_⟩
    · rw [← List.map_append]
      exact things_shaped _
    rw [← List.map_append, things_non]
    have eN : (allT (ts ++ (c.map numOf).map fun o => o.map Thing.n)).isNone = true ↔ allT ts = none ∨ allN (c.map numOf) = none := by
      rw [Option.isNone_iff_eq_none, allT_none, allT_none, allN_none, List.mem_append]
      constructor
      · rintro (h | h)
        · exact .inl h
        · obtain ⟨o, ho, e⟩ := List.mem_map.mp h
          cases o with
          | none => exact .inr ho
          | some n => cases e
      · rintro (h | h)
        · exact .inl h
        · exact .inr (List.mem_map.mpr ⟨none, h, rfl⟩)
    refine ifB (fun c6 => q _ _ fA (by rw [L.no (eN.mp c6)]; exact .non)) (fun c6 => ?_)
    obtain ⟨us, hus⟩ : ∃ us, allT ts = some us := by
      cases h : allT ts with
      | none => rw [eN.mpr (.inl h)] at c6; cases c6
      | some us => exact ⟨us, rfl⟩
    obtain ⟨as, has⟩ : ∃ as, allN (c.map numOf) = some as := by
      cases h : allN (c.map numOf) with
      | none => rw [eN.mpr (.inr h)] at c6; cases c6
      | some as => exact ⟨as, rfl⟩
    clear c6 eN
    rw [L.go us as hus has] at q
    have eD : HA D = some (.lst (xT ++ as.map V.int)) := by
      rw [eD, allN_some has, List.map_map]
      rfl
    have dT : DpAll K HA xT (us.map Thing.d) := by
      have e : ts.map thingV = us.map Thing.d := by rw [allT_some hus, List.map_map]; rfl
      rw [e] at dT
      exact dT
    have hlen : us.length = f.length := by
      rw [← L.len, allT_some hus, List.length_map]
    have hasl : as.length = c.length := by
      have e := congrArg List.length (allN_some has)
      rw [List.length_map, List.length_map] at e
      exact e.symm
    have hRC := L.rc us hus
    have hBL := L.bl us hus
    clear L hus
    -- the rest, the chance
    refine ⟨fun σ' H' => σ' = [some (.str z), some (.ref p), some (.int (f.length : Nat)), some (.ref pb), some (.ref ck), some (.ref D), y6, none] ∧ Fx [] HA H' ∧ (rcW w0 = true → testOk2 w0 us = true), ?_, ?_⟩
    · refine ⟨_, rfl, p, _, 0, .str w0, rfl, rfl, SqL.of e1, atI_nat (j := 0) rfl, by show 2 ≤ sizeLine; decide, fun pt hpt => ?_⟩
      have fB : Fx [] HA (upd HA pt (.tup [.str "rest", .str "chance"])) := Fx.new hpt
      have ept : SqT K (upd HA pt (.tup [.str "rest", .str "chance"])) pt [.str "rest", .str "chance"] := SqT.of upd_same
      generalize upd HA pt (.tup [.str "rest", .str "chance"]) = HB at fB ept
      have eD := fB.to eD fun z => nomatch z
      have dT := dT.ext fB
      have qn : testOk2 w0 us = false → Q .non HB := fun e => q _ _ (fA.trans fB) (by rw [e]; exact .non)
      refine ⟨pt, _, rfl, .inr ept, rfl, rfl, _, rfl, ifB (fun c7 => ?_) (fun c7 => ?_)⟩
      · have c7 : rcW w0 = true := c7
        obtain ⟨a, d, rfl⟩ := hRC c7
        have ex : xT = [V.int a, V.int d] := by
          have : DpAll K HB xT ([a, d].map PyData.int) := dT
          exact dpAll_ints this
        subst ex
        have et : testOk2 w0 [.n a, .n d] = ((decide (2 ≤ a) && decide (a ≤ 99)) && (decide (0 ≤ d) && decide (d < a))) := by
          unfold testOk2
          rw [if_pos c7]
        rw [et] at qn
        refine ⟨_, rfl, D, _, 0, .int a, rfl, rfl, SqL.of eD, atI_nat (j := 0) rfl, _, _, rfl, rfl, _, rfl, ifB (fun k1 => ?_) (fun k1 => ?_)⟩
        · refine ⟨_, _, rfl, rfl, _, rfl, ifB (fun k2 => ?_) (fun k2 => ?_)⟩
          · refine ⟨_, rfl, D, _, 1, .int d, rfl, rfl, SqL.of eD, atI_nat (j := 1) rfl, _, _, rfl, rfl, _, rfl, ifB (fun k3 => ?_) (fun k3 => ?_)⟩
            · refine ⟨_, rfl, D, _, 0, .int a, rfl, rfl, SqL.of eD, atI_nat (j := 0) rfl, _, _, rfl, rfl, _, rfl, ?_⟩
              by_cases k4 : d < a
              · rw [decide_eq_true k4]
                exact ⟨rfl, fB, fun _ => by rw [et, k1, k2, k3, decide_eq_true k4]; rfl⟩
              · rw [decide_eq_false k4]
                exact qn (by rw [decide_eq_false k4, Bool.and_false, Bool.and_false])
            · exact ⟨_, rfl, qn (by rw [k3, Bool.false_and, Bool.and_false])⟩
          · exact qn (by rw [k2, Bool.and_false, Bool.false_and])
        · exact ⟨_, rfl, qn (by rw [k1, Bool.false_and, Bool.false_and])⟩
      · have c7 : rcW w0 = false := c7
        exact ⟨rfl, fB, fun h => by rw [c7] at h; cases h⟩
    rintro σ' HB ⟨rfl, fB, hT⟩
    have e1 := fB.to e1 fun z => nomatch z
    have e3 := fB.to e3 fun z => nomatch z
    have eD := fB.to eD fun z => nomatch z
    have dT := dT.ext fB
    have fA := fA.trans fB
    have qn : (testOk2 w0 us && ansOk b as) = false → Q .non HB := fun e => q _ _ fA (by rw [e]; exact .non)
    have hAR : (b == ("rest" : Str)) = true → ∃ v, as = [v] := fun cb => by
      rcases formA hbg with ⟨e, _⟩ | ⟨e, _⟩ | ⟨_, e⟩
      · rw [e] at cb; exact absurd cb (by decide +kernel)
      · rcases e with e | e | e <;> rw [e] at cb <;> exact absurd cb (by decide +kernel)
      · rw [e] at hg
        have hg : 1 = c.length := hg
        exact List.length_eq_one_iff.mp (hasl.trans hg.symm)
    refine ⟨fun σ' H' => σ' = [some (.str z), some (.ref p), some (.int (f.length : Nat)), some (.ref pb), some (.ref ck), some (.ref D), y6, none] ∧ Fx [] HB H' ∧ (testOk2 w0 us && ansOk b as) = true, ?_, ?_⟩
    · refine ⟨_, rfl, p, _, 0, .str w0, rfl, rfl, SqL.of e1, atI_nat (j := 0) rfl, rfl, _, rfl, ?_⟩
      rw [dec_str]
      refine ifB (fun k => ?_) (fun k => ?_)
      · obtain ⟨a, rfl⟩ := hBL (eq_of_beq k)
        have ex : xT = [V.int a] := by
          have : DpAll K HB xT ([a].map PyData.int) := dT
          exact dpAll_ints this
        subst ex
        have et : testOk2 w0 [.n a] = decide (0 ≤ a) := by
          unfold testOk2
          rw [if_neg (by rw [eq_of_beq k, rc_below]; decide), if_pos k]
        refine ⟨_, rfl, D, _, 0, .int a, rfl, rfl, SqL.of eD, atI_nat (j := 0) rfl, _, _, rfl, rfl, _, rfl, ifB (fun k2 => ?_) (fun k2 => ?_)⟩
        · exact qn (by rw [et, decide_eq_false (by have := of_decide_eq_true k2; omega), Bool.false_and])
        · have ht : testOk2 w0 [.n a] = true := by rw [et, decide_eq_true (by have := of_decide_eq_false k2; omega)]
          refine ⟨_, rfl, pb, _, 0, .str b, rfl, rfl, SqL.of e3, atI_nat (j := 0) rfl, rfl, _, rfl, ?_⟩
          rw [dec_str]
          refine ifB (fun cb => ?_) (fun cb => ?_)
          · obtain ⟨v, rfl⟩ := hAR cb
            have ea : ansOk b [v] = (decide (2 ≤ v) && decide (v ≤ 99)) := by unfold ansOk; rw [if_pos cb]
            rw [ea] at qn ⊢
            refine ⟨_, rfl, 1, rfl, D, _, -1, .int v, rfl, rfl, SqL.of eD, atI_lastV _, _, _, rfl, rfl, _, rfl, ifB (fun k1 => ?_) (fun k1 => ?_)⟩
            · refine ⟨_, _, rfl, rfl, _, rfl, ifB (fun k2 => ?_) (fun k2 => ?_)⟩
              · exact qn (by rw [show decide (v ≤ 99) = false by simpa using k2, Bool.and_false, Bool.and_false])
              · exact ⟨rfl, .refl, by rw [ht, k1, show decide (v ≤ 99) = true by simpa using k2]; rfl⟩
            · exact ⟨_, rfl, qn (by rw [k1, Bool.false_and, Bool.and_false])⟩
          · have ea : ansOk b as = true := by unfold ansOk; rw [if_neg (by rw [cb]; decide)]
            rw [ea]
            exact ⟨rfl, .refl, by rw [ht]; rfl⟩
      · have ht : testOk2 w0 us = true := by
          cases hrc : rcW w0 with
          | true => exact hT hrc
          | false =>
            unfold testOk2
            rw [if_neg (by rw [hrc]; decide), if_neg (by rw [k]; decide)]
        refine ⟨_, rfl, pb, _, 0, .str b, rfl, rfl, SqL.of e3, atI_nat (j := 0) rfl, rfl, _, rfl, ?_⟩
        rw [dec_str]
        refine ifB (fun cb => ?_) (fun cb => ?_)
        · obtain ⟨v, rfl⟩ := hAR cb
          have ea : ansOk b [v] = (decide (2 ≤ v) && decide (v ≤ 99)) := by unfold ansOk; rw [if_pos cb]
          rw [ea] at qn ⊢
          refine ⟨_, rfl, 1, rfl, D, _, -1, .int v, rfl, rfl, SqL.of eD, atI_lastV _, _, _, rfl, rfl, _, rfl, ifB (fun k1 => ?_) (fun k1 => ?_)⟩
          · refine ⟨_, _, rfl, rfl, _, rfl, ifB (fun k2 => ?_) (fun k2 => ?_)⟩
            · exact qn (by rw [show decide (v ≤ 99) = false by simpa using k2, Bool.and_false, Bool.and_false])
            · exact ⟨rfl, .refl, by rw [ht, k1, show decide (v ≤ 99) = true by simpa using k2]; rfl⟩
          · exact ⟨_, rfl, qn (by rw [k1, Bool.false_and, Bool.and_false])⟩
        · have ea : ansOk b as = true := by unfold ansOk; rw [if_neg (by rw [cb]; decide)]
          rw [ea]
          exact ⟨rfl, .refl, by rw [ht]; rfl⟩
    rintro σ' HC ⟨rfl, fC, hOK⟩
    rw [hOK] at q
    have e1 := fC.to e1 fun z => nomatch z
    have e3 := fC.to e3 fun z => nomatch z
    have eD := fC.to eD fun z => nomatch z
    have dT := dT.ext fC
    have fA := fA.trans fC
    have q : ∀ (H' : Hp) (v : V), Fx [] H H' → Dp K H' v (.tuple [.tuple (.str w0 :: us.map Thing.d), .tuple (.str b :: as.map .int)]) → Q v H' := q
    have hxl : xT.length = f.length := by rw [dT.len, List.length_map, hlen]
    have hfl := form_len hf
    have hasl1 : as.length ≤ 3900 := by omega
    -- the test's tuple
    refine ⟨_, rfl, p, _, 0, .str w0, rfl, rfl, SqL.of e1, atI_nat (j := 0) rfl, by show 1 ≤ sizeLine; decide, fun t1 ht1 => ?_⟩
    have g1 : Fx [] HC (upd HC t1 (.tup [.str w0])) := Fx.new ht1
    have s1 : SqT K (upd HC t1 (.tup [.str w0])) t1 [.str w0] := SqT.of upd_same
    generalize upd HC t1 (.tup [.str w0]) = K1 at g1 s1
    have eD1 := g1.to eD fun z => nomatch z
    refine ⟨_, rfl, _, rfl, ((f.length : Nat) : Int), rfl, D, _, rfl, SqL.of eD1, fun t2 ht2 => ?_⟩
    rw [cutV_take, ← hxl, List.take_left]
    have g2 : Fx [] K1 (upd K1 t2 (.lst xT)) := Fx.new ht2
    have s2 : upd K1 t2 (.lst xT) t2 = some (.lst xT) := upd_same
    generalize upd K1 t2 (.lst xT) = K2 at g2 s2
    refine ⟨t2, _, rfl, .inl ⟨SqL.of s2, fun t3 ht3 => ?_⟩⟩
    have g3 : Fx [] K2 (upd K2 t3 (.tup xT)) := Fx.new ht3
    have s3 : SqT K (upd K2 t3 (.tup xT)) t3 xT := SqT.of upd_same
    generalize upd K2 t3 (.tup xT) = K3 at g3 s3
    have g13 := (g1.trans g2).trans g3
    refine rd_catA ((g2.trans g3).sqT s1) s3 (by show 1 + xT.length ≤ sizeLine; exact Nat.le_trans (m := 3) (by omega) (by decide)) fun t4 K4 g4 s4 => ?_
    have g14 := g13.trans g4
    -- the answer's tuple
    refine ⟨_, rfl, pb, _, 0, .str b, rfl, rfl, SqL.of (g14.to e3 fun z => nomatch z), atI_nat (j := 0) rfl, by show 1 ≤ sizeLine; decide, fun t5 ht5 => ?_⟩
    have g5 : Fx [] K4 (upd K4 t5 (.tup [.str b])) := Fx.new ht5
    have s5 : SqT K (upd K4 t5 (.tup [.str b])) t5 [.str b] := SqT.of upd_same
    generalize upd K4 t5 (.tup [.str b]) = K5 at g5 s5
    have eD5 := (g14.trans g5).to eD fun z => nomatch z
    refine ⟨_, rfl, _, rfl, ((xT.length : Nat) : Int), rfl, D, _, rfl, SqL.of eD5, fun t6 ht6 => ?_⟩
    rw [cutV_drop (by rw [List.length_append]; omega), List.drop_left]
    have g6 : Fx [] K5 (upd K5 t6 (.lst (as.map V.int))) := Fx.new ht6
    have s6 : upd K5 t6 (.lst (as.map V.int)) t6 = some (.lst (as.map V.int)) := upd_same
    generalize upd K5 t6 (.lst (as.map V.int)) = K6 at g6 s6
    refine ⟨t6, _, rfl, .inl ⟨SqL.of s6, fun t7 ht7 => ?_⟩⟩
    have g7 : Fx [] K6 (upd K6 t7 (.tup (as.map V.int))) := Fx.new ht7
    have s7 : SqT K (upd K6 t7 (.tup (as.map V.int))) t7 (as.map V.int) := SqT.of upd_same
    generalize upd K6 t7 (.tup (as.map V.int)) = K7 at g7 s7
    refine rd_catA ((g6.trans g7).sqT s5) s7 (by show 1 + (as.map V.int).length ≤ sizeLine; exact Nat.le_trans (m := 4000) (by rw [List.length_map]; omega) (by decide)) fun t8 K8 g8 s8 => ?_
    have g48 := ((g5.trans g6).trans g7).trans g8
    refine ⟨by show 2 ≤ sizeLine; decide, fun t9 ht9 => ?_⟩
    have g9 : Fx [] K8 (upd K8 t9 (.tup [.ref t4, .ref t8])) := Fx.new ht9
    have s9 : SqT K (upd K8 t9 (.tup [.ref t4, .ref t8])) t9 [.ref t4, .ref t8] := SqT.of upd_same
    generalize upd K8 t9 (.tup [.ref t4, .ref t8]) = K9 at g9 s9
    refine q _ _ (((fA.trans g14).trans g48).trans g9) (.tup s9 (.cons (.tup ((g48.trans g9).sqT s4) (.cons (.str _) (dT.ext ((g14.trans g48).trans g9)))) (.cons (.tup (g9.sqT s8) (.cons (.str _) (Dp.ints as))) .nil)))
end Mh
/-! MhTx5 -/
namespace Mh
open PySem PySem.Spec PyProof.Rows L2 TL
/-! ### the texts of the law, and what is bad in them -/
theorem TxOk.mono {N L N' L' : Nat} {z : Str} (h : TxOk N L z) (a : N ≤ N') (b : L ≤ L') : TxOk N' L' z := ⟨Nat.le_trans h.len a, h.ok, h.seg.mono b⟩
def NN : Nat → Nat | 0 => 6000 | 1 => 8012 | _ => 12136
def LL : Nat → Nat | 0 => 488 | 1 => 1016 | _ => 2072
theorem TxOk.end5 {i : Nat} {z : Str} (h : TxOk (NN i) (LL i) z) : TxOk 12136 2072 z := by
  refine h.mono ?_ ?_
  · unfold NN; split <;> omega
  · unfold LL; split <;> omega
theorem TxOk.next5 {i : Nat} (hi : i < 2) {z : Str} (h : TxOk (NN i + 4 * LL i + 60) (2 * LL i + 40) z) : TxOk (NN (i + 1)) (LL (i + 1)) z := by
  match i, hi with
  | 0, _ => exact h.mono (by show 6000 + 4 * 488 + 60 ≤ 8012; decide) (by show 2 * 488 + 40 ≤ 1016; decide)
  | 1, _ => exact h.mono (by show 8012 + 4 * 1016 + 60 ≤ 12136; decide) (by show 2 * 1016 + 40 ≤ 2072; decide)
theorem TxOk.mach {m : Mch} (h : m.ok) : TxOk (NN 0) (LL 0) (machT m) := by
  refine ⟨machT_len h, join_ok (by decide +kernel) fun p hp => ?_, ?_⟩
  · obtain ⟨r, _, rfl⟩ := List.mem_map.mp hp
    exact rowT_ok r
  · unfold machT
    rw [tl_joinT, tl_nl]
    exact Seg.join fun p m2 => by
      obtain ⟨q, m3, rfl⟩ := List.mem_map.mp m2
      obtain ⟨r, hr, rfl⟩ := List.mem_map.mp m3
      obtain ⟨o1, o2⟩ := h.rows r hr
      exact Seg.mono Seg.short (by rw [← len_tl]; exact rowT_len o1 o2)
theorem wsum_rep (z : Str) : ∀ n, wsum (List.replicate n z) = n * (z.length + 1)
  | 0 => by rw [Nat.zero_mul]; rfl
  | n + 1 => by rw [List.replicate_succ, wsum_cons, wsum_rep z n, Nat.add_mul, Nat.one_mul, Nat.add_comm]
theorem TxOk.thirteen {z : Str} (h : TxOk 12136 2072 z) : TxOk 160000 2072 (Txt.join nl (List.replicate 13 z)) := by
  refine ⟨Nat.le_trans (join_w tl_nl _) ?_, join_ok (by decide +kernel) fun p m => ?_, ?_⟩
  · rw [wsum_rep]
    have := h.len
    omega
  · rw [(List.mem_replicate.mp m).2]
    exact h.ok
  · rw [tl_joinT, tl_nl]
    exact Seg.join fun p m => by
      obtain ⟨q, m2, rfl⟩ := List.mem_map.mp m
      rw [(List.mem_replicate.mp m2).2]
      exact h.seg
theorem readBad_app : ∀ (l1 l2 : List Str) (i : Nat) (b : Int), readBad i l1 = some b → readBad i (l1 ++ l2) = some b
  | [], _, _, _, h => nomatch h
  | y :: r, l2, i, b, h => by
    have h : (if i = 12 ∨ lineB y = false then some ((i : Nat) : Int) else readBad (i + 1) r) = some b := h
    show (if i = 12 ∨ lineB y = false then some ((i : Nat) : Int) else readBad (i + 1) (r ++ l2)) = some b
    by_cases c : i = 12 ∨ lineB y = false
    · rw [if_pos c] at h ⊢; exact h
    · rw [if_neg c] at h ⊢; exact readBad_app r l2 (i + 1) b h
/-- what stands in the list of the bad ones, so far -/
def BadAt (ls : List Str) (i : Nat) (acc : List V) : Prop := ∃ js : List Int, acc = js.map V.int ∧ ((js = [] ∧ readBad 0 (ls.take i) = none) ∨ ∃ b rest, js = b :: rest ∧ readBad 0 ls = some b)
theorem BadAt.zero (ls : List Str) : BadAt ls 0 [] := ⟨[], rfl, .inl ⟨rfl, by rw [List.take_zero]; rfl⟩⟩
theorem BadAt.yes {ls : List Str} {i : Nat} {acc : List V} {z : Str} (h : BadAt ls i acc) (hz : ls[i]? = some z) (c : lineB z = false ∨ i = 12) : BadAt ls (i + 1) (acc ++ [.int (i : Nat)]) := by
  obtain ⟨hl, _⟩ := List.getElem?_eq_some_iff.mp hz
  obtain ⟨js, rfl, h⟩ := h
  refine ⟨js ++ [((i : Nat) : Int)], by rw [List.map_append]; rfl, .inr ?_⟩
  rcases h with ⟨rfl, h⟩ | ⟨b, rest, rfl, h⟩
  · refine ⟨(i : Nat), [], rfl, ?_⟩
    have e := readBad_snoc (ls.take i) 0 z h
    rw [if_pos (by rw [List.length_take]; rcases c with c | c
                   · exact .inr c
                   · left; omega)] at e
    have e2 := readBad_app _ (ls.drop (i + 1)) 0 _ e
    have e3 : ls.take i ++ [z] ++ ls.drop (i + 1) = ls := by
      have : ls.take (i + 1) = ls.take i ++ [z] := by rw [List.take_add_one, hz]; rfl
      rw [← this, List.take_append_drop]
    rw [e3] at e2
    rw [e2, List.length_take, Nat.min_eq_left (by omega), Nat.zero_add]
  · exact ⟨b, rest ++ [((i : Nat) : Int)], rfl, h⟩
theorem BadAt.no {ls : List Str} {i : Nat} {acc : List V} {z : Str} (h : BadAt ls i acc) (hz : ls[i]? = some z) (c1 : lineB z = true) (c2 : i ≠ 12) : BadAt ls (i + 1) acc := by
  obtain ⟨hl, _⟩ := List.getElem?_eq_some_iff.mp hz
  obtain ⟨js, rfl, h⟩ := h
  refine ⟨js, rfl, ?_⟩
  rcases h with ⟨rfl, h⟩ | ⟨b, rest, rfl, h⟩
  · refine .inl ⟨rfl, ?_⟩
    have e := readBad_snoc (ls.take i) 0 z h
    rw [if_neg (by rw [List.length_take, c1]; rintro (x | x)
                   · omega
                   · cases x)] at e
    rw [List.take_add_one, hz]
    exact e
  · exact .inr ⟨b, rest, rfl, h⟩
theorem readBad_all : ∀ (ls : List Str) (i : Nat), readBad i ls = none → ∀ z ∈ ls, lineB z = true
  | [], _, _, z, m => nomatch m
  | y :: r, i, h, z, m => by
    have h : (if i = 12 ∨ lineB y = false then some ((i : Nat) : Int) else readBad (i + 1) r) = none := h
    by_cases c : i = 12 ∨ lineB y = false
    · rw [if_pos c] at h; cases h
    · rw [if_neg c] at h
      rcases List.mem_cons.mp m with e | m
      · rw [e]
        cases hb : lineB y with
        | true => rfl
        | false => exact absurd (Or.inr hb) c
      · exact readBad_all r _ h z m
theorem readBad_len : ∀ (ls : List Str) (i : Nat), i ≤ 12 → readBad i ls = none → i + ls.length ≤ 12
  | [], i, hi, _ => by simpa using hi
  | y :: r, i, hi, h => by
    have h : (if i = 12 ∨ lineB y = false then some ((i : Nat) : Int) else readBad (i + 1) r) = none := h
    by_cases c : i = 12 ∨ lineB y = false
    · rw [if_pos c] at h; cases h
    · rw [if_neg c] at h
      have := readBad_len r (i + 1) (by have : i ≠ 12 := fun e => c (.inl e); omega) h
      rw [List.length_cons]
      omega
theorem wideA_of5 : ∀ {ds : List PyData}, (∀ d ∈ ds, wide d = true) → wideA ds = true
  | [], _ => rfl
  | d :: ds, h => by
    show (wide d && wideA ds) = true
    rw [h d List.mem_cons_self, wideA_of5 fun z m => h z (List.mem_cons_of_mem _ m)]
    rfl
theorem isNum_wide {x : PyData} {lo hi : Int} (h : isNum x lo hi = true) : wide x = true := by
  obtain ⟨i, rfl, _⟩ := isNum_inv h
  rfl
theorem isTest_wide {d : PyData} (h : isTest d = true) : wide d = true := by
  unfold isTest at h
  split at h
  · rfl
  · rename_i z x
    have hx : wide x = true := by
      rcases Bool.or_eq_true_iff.mp h with h | h
      · exact isNum_wide (Bool.and_eq_true_iff.mp h).2
      · replace h := (Bool.and_eq_true_iff.mp h).2
        unfold areKnown at h
        split at h
        · rename_i xs h9
          obtain ⟨h1, h2⟩ := Bool.and_eq_true_iff.mp h
          have h3 := of_decide_eq_true (Bool.and_eq_true_iff.mp h1).2
          have h4 := List.all_eq_true.mp (Bool.and_eq_true_iff.mp h2).1
          show (decide (xs.length < 100000) && wideA xs) = true
          rw [wideA_of5 fun d m => isNum_wide (h4 d m), Bool.and_true]
          exact decide_eq_true (by omega)
        · cases h
    show (decide (2 < 100000) && (true && (wide x && true))) = true
    rw [hx]
    rfl
  · rename_i z x y
    obtain ⟨h1, _⟩ := Bool.and_eq_true_iff.mp h
    have h1 : (isNum x 2 99 && isNum y 0 (intOf x - 1)) = true := h1
    obtain ⟨hx, hy⟩ := Bool.and_eq_true_iff.mp h1
    show (decide (3 < 100000) && (true && (wide x && (wide y && true)))) = true
    rw [isNum_wide hx, isNum_wide hy]
    rfl
  · cases h
theorem isAns_wide {d : PyData} (h : isAns d = true) : wide d = true := by
  unfold isAns at h
  split at h
  · rfl
  · rename_i z x
    have hx : wide x = true := by
      split at h
      · exact isNum_wide h
      · exact isNum_wide (Bool.and_eq_true_iff.mp h).2
    show (decide (2 < 100000) && (true && (wide x && true))) = true
    rw [hx]
    rfl
  · cases h
theorem line_wide {z : Str} (h : lineB z = true) : wide (lineD z) = true := by
  rw [← rowOk_line] at h
  obtain ⟨t, a, e, h1, h2⟩ := rowOk_inv h
  rw [e]
  show (decide (2 < 100000) && (wide t && (wide a && true))) = true
  rw [isTest_wide h1, isAns_wide h2]
  rfl
theorem depthA_of5 {n : Nat} : ∀ {ds : List PyData}, (∀ d ∈ ds, d.depth ≤ n) → PyData.depthAll ds ≤ n
  | [], _ => by simp [PyData.depthAll]
  | d :: ds, h => by
    have h1 := h d List.mem_cons_self
    have h2 := depthA_of5 (n := n) (ds := ds) fun z m => h z (List.mem_cons_of_mem _ m)
    simp only [PyData.depthAll]
    omega
/-- what is read is small -/
theorem read_alike {ls : List Str} (hl : ls.length ≤ 12) (h : ∀ z ∈ ls, lineB z = true) (ho : ∀ z ∈ ls, PyData.strOk z = true) : (PyData.tuple (ls.map lineD)).depth ≤ 8 ∧ wide (.tuple (ls.map lineD)) = true := by
  have h1 : PyData.depthAll (ls.map lineD) ≤ 7 := depthA_of5 fun d m => by
    obtain ⟨z, hz, rfl⟩ := List.mem_map.mp m
    exact (lineD_small (ho z hz)).2
  refine ⟨by simp only [PyData.depth]; omega, ?_⟩
  show (decide ((ls.map lineD).length < 100000) && wideA (ls.map lineD)) = true
  rw [wideA_of5 fun d m => by
    obtain ⟨z, hz, rfl⟩ := List.mem_map.mp m
    exact line_wide (h z hz), Bool.and_true, List.length_map]
  exact decide_eq_true (by omega)
theorem lr_lines {ls : List Str} (h : ∀ z ∈ ls, lineB z = true) : ls.map lrD = ls.map lineD := List.map_congr_left fun z m => by
  unfold lrD
  rw [if_pos (h z m)]
end Mh
/-! MhLaw05 -/
namespace Mh
open PySem PySem.Spec PyProof.Rows L2 TL LamX
abbrev lawLevel : Nat := 20
def spLaw (K : PySem.W.Frag) : Sp := fun vs H Q _ => ∃ (a : Addr) (ns : List Int), vs = [.ref a] ∧ SqL K H a (ns.map V.int) ∧ ns.length ≤ 63 ∧ LamX.Tabs (tdT K) H ∧ ∀ H', Q (.bl true) H'
theorem passE0 {X : Cx} {P : Program} {w : World} : Passes (L2.CX P w) X E0 := fun _ _ _ _ _ _ _ h => by
  obtain ⟨_, _, _, _, _, _, _, _, _, _, _, _, e⟩ := h
  exact e.elim
theorem lrD_nol (z : Str) : nol (lrD z) = true := by
  unfold lrD
  split
  · exact lineD_nol z
  · rfl
theorem isNon {K : PySem.W.Frag} {H : Hp} {v : V} {z : Str} (h : Dp K H v (lrD z)) : decide (v = .non) = !lineB z := by
  unfold lrD at h
  cases e : lineB z with
  | false =>
    rw [e, if_neg (by decide)] at h
    cases h
    rfl
  | true =>
    rw [e, if_pos rfl] at h
    rw [← rowOk_line] at e
    obtain ⟨t, an, e2, _, _⟩ := rowOk_inv e
    rw [e2] at h
    obtain ⟨a, xs, rfl, _⟩ := h.tupI
    rfl
/-- the same data on both sides -/
theorem eq5 (K : PySem.W.Frag) {H : Hp} {Q : VK} {x y : V} {d : PyData} (hx : Dp K H x d) (hy : Dp K H y d) (hs : SeqAt.shaped d = true) (q : Q (.bl true) H) : rEqD K x y H Q :=
  ⟨d, d, hx, hy, hs, hs, by rw [SeqAt.eqv_refl d (SeqAt.canLay_of_shaped hs)]; exact q⟩
theorem ne5 (K : PySem.W.Frag) {H : Hp} {Q : VK} {x y : V} {d : PyData} (hx : Dp K H x d) (hy : Dp K H y d) (hs : SeqAt.shaped d = true) (q : Q (.bl false) H) : rNeD K x y H Q :=
  ⟨d, d, hx, hy, hs, hs, by rw [SeqAt.eqv_refl d (SeqAt.canLay_of_shaped hs)]; exact q⟩
theorem sc_law : FnScope ["_law_script", "_law_d", "_law_good", "_law_turn", "_law_text", "_law_change", "_law_rows", "_law_bad", "_law_line", "_law_k"] ["_law_script"] (defScope s_law) := ⟨rfl, rfl, rfl, by decide +kernel, rfl, by decide +kernel, by decide +kernel⟩
theorem ok_law {P : Program} {w : World} {K : PySem.W.Frag} {mg : Str → Option Value} {base : Heap} (T : Tx K mg) (TD : TabD K w) (XD : ExD K) (TL : TabL K mg base) {fd : FuncData} (F : FunD K "law" "law" (defArgs s_law) (defBody s_law) (defScope s_law) [] [] (He.fAd K ("law", none)) fd) : FnOk P w K mg base CX0 lawLevel (He.fAd K ("law", none)) fd ["_law_script"] (spLaw K) := by
  have G__law_dice := ok_l_dice (P := P) (w := w) (base := base) T
  have G_written := ok_written (P := P) (w := w) (base := base) T
  have G__law_machine := ok_l_machine (P := P) (w := w) (base := base) T
  have G__law_word_of := ok_l_word_of (P := P) (w := w) (base := base) T
  have G__law_off := ok_l_off (P := P) (w := w) (base := base) T
  have G__law_changed := ok_l_changed (P := P) (w := w) (base := base) T
  have G__law_row := ok_l_row (P := P) (w := w) (base := base) T
  have G__law_alike := ok_l_alike (P := P) (w := w) (base := base) T 9
  have GX_read_x := okx_read_x (P := P) (w := w) (base := base) T TD XD
  have TB := TL.tb ("law", none) (by decide)
  have hmT : ((He.cT K ("law", none)).2, ("law" : PySem.Str) ++ ".<locals>." ++ "<lambda>") ∈ tdT K := List.mem_cons_self
  have huT : ∀ p ∈ tdT K, p.1 = (He.cT K ("law", none)).2 → p.2 = ("law" : PySem.Str) ++ ".<locals>." ++ "<lambda>" := fun p hp _ => by rw [List.mem_singleton.mp hp]
  refine okC F sc_law (fun vs H Q E h => ?_) (fun A outer s H vs Q E hr h => ?_)
  · obtain ⟨a, ns, rfl, _⟩ := h
    rfl
  · obtain ⟨a, ns, rfl, hS, hlen, hT0, q⟩ := h
    refine ⟨_, PSs.nox (pss_cons (ps_set (i := 1) sc_law.nd rfl (by first | exact Or.inl rfl | exact Or.inr rfl) (pe_def G__law_dice (hr.mono (by omega)) pass0 (pa_cons (pv 0) (pa_cons pe_int pa_nil))))
        (pss_cons (ps_set (i := 2) sc_law.nd rfl (by first | exact Or.inl rfl | exact Or.inr rfl) (pe_def G_written (hr.mono (by omega)) pass0 (pa_cons (pe_def G__law_machine (hr.mono (by omega)) pass0 (pa_cons (pv 1) pa_nil)) pa_nil)))
        (pss_cons (ps_for PassesOwn.never rfl (pi_range1 rfl T.f_range (pa_cons pe_int pa_nil)) (pg_name (i := 3) sc_law.nd rfl (by first | exact Or.inl rfl | exact Or.inr rfl))
        (pss_cons (ps_set (i := 4) sc_law.nd rfl (by first | exact Or.inl rfl | exact Or.inr rfl) (pv 2))
        (pss_cons (ps_for PassesOwn.never rfl (pi_range1 rfl T.f_range (pa_cons (pe_def G__law_off (hr.mono (by omega)) pass0 (pa_cons (pv 1) (pa_cons pe_int pa_nil))) pa_nil)) (pg_name (i := 5) sc_law.nd rfl (by first | exact Or.inl rfl | exact Or.inr rfl))
        (pss_one (ps_set (i := 4) sc_law.nd rfl (by first | exact Or.inl rfl | exact Or.inr rfl) (pe_def G__law_changed (hr.mono (by omega)) pass0 (pa_cons (pv 1) (pa_cons (pv 4) pa_nil))))))
        (Evl.pss_cut (ps_if (pt_cmpR op_eq (pe_def G__law_off (hr.mono (by omega)) pass0 (pa_cons (pv 1) (pa_cons pe_int pa_nil))) pe_int (nomark _))
        (pss_one (ps_set (i := 4) sc_law.nd rfl (by first | exact Or.inl rfl | exact Or.inr rfl) (pe_join pe_str (pe_slice sl_list (pe_op op_rep (pe_lst (pa_cons (pv 4) pa_nil)) pe_int) po_none (po_some pe_int)))))
        pss_nil)
        (pss_cons (ps_set (i := 6) sc_law.nd rfl (by first | exact Or.inl rfl | exact Or.inr rfl) (pe_lc (own := [("_law_line", 8)]) (g := (gName 8)) (tt := tYes) rfl sc_law.nd (pi_list (pe_split (pv 4) pe_str)) (blkOk_by (own := [("_law_line", 8)]) (N := ["_law_script", "_law_d", "_law_good", "_law_turn", "_law_text", "_law_change", "_law_rows", "_law_bad", "_law_line", "_law_k"]) (sc := defScope s_law) (by decide +kernel)) (fun _ _ _ _ _ => pg_name (i := 8) sc_law.nd rfl (by first | exact Or.inl rfl | exact Or.inr rfl)) (fun _ _ _ _ _ => pts_nil) (fun _ _ _ _ _ => (pe_def G__law_row (hr.mono (by omega)) pass0 (pa_cons (pv 8) pa_nil)))))
        (pss_cons (ps_setLc (i := 7) (own := [("_law_k", 9)]) (g := (gName 9)) (tt := _) rfl sc_law.nd rfl rfl (sw_true rfl rfl rfl (by decide +kernel)) (pi_range1 rfl T.f_range (pa_cons (pe_callB call_len_seq (by rfl) T.f_len (by decide +kernel) (pa_cons (pv 6) pa_nil)) pa_nil)) (blkOk_by (own := [("_law_k", 9)]) (N := ["_law_script", "_law_d", "_law_good", "_law_turn", "_law_text", "_law_change", "_law_rows", "_law_bad", "_law_line", "_law_k"]) (sc := defScope s_law) (by decide +kernel)) (fun _ _ _ _ _ => pg_name (i := 9) sc_law.nd rfl (by first | exact Or.inl rfl | exact Or.inr rfl)) (fun _ _ _ _ _ => pts_one (PW.pt (pw_or (pt_cmpR op_isN (pe_ix (kix_list (K := K) rfl) (pv 6) (pv 9) (fun _ _ => rfl)) pe_non (nomark _)) (pw_or1 (pt_cmpR op_eq (pv 9) pe_int (nomark _)))))) (fun _ _ _ _ _ => (pv 9)))
        (pss_one (ps_if (pt_cmpR (op_eqD hr.units) (pv 7) (pe_lst pa_nil) (nomark _))
        (pss_one (ps_if (pt_not (pt_val (pe_def G__law_alike (hr.mono (by omega)) pass0 (pa_cons (pe_def GX_read_x (hr.mono (by omega)) passE0 (pa_cons (pv 4) pa_nil)) (pa_cons (pe_callTy call_tuple_of (by rfl) T.f_tuple (by decide +kernel) (pa_cons (pv 6) pa_nil)) pa_nil)))))
        (pss_one (ps_ret pe_bl))
        pss_nil))
        (pss_one (ps_if (pt_cmpR (op_neD hr.units) (pe_defP (caps := [("_law_text", 4)]) G__law_word_of (hr.mono (by omega)) (fun _ => rfl) (by kernel_rfl) (pa_cons (pe_lam0 (k := 14) (fr := ["_law_text"]) TB rfl hmT huT (by kernel_rfl) (NdefX.nscope_by (by decide +kernel)) ⟨rfl, fun _ _ _ _ _ _ => rfl, fun z => absurd rfl z⟩ rfl (fun cl f c' A outer s H E hr => (pe_def GX_read_x (hr.mono (by omega)) (passes_call (takes_of rfl rfl rfl rfl) fun _ _ _ _ h => h) (pa_cons (pv 0) pa_nil)))) pa_nil)) (pe_tup (pa_cons pe_str (pa_cons (pe_ix ix_list (pv 7) pe_int (fun _ _ => rfl)) pa_nil))) (nomark _))
        (pss_one (ps_ret pe_bl))
        pss_nil))))))))))
        (pss_one (ps_ret (pe_cmpR (op_eqD hr.units) (pe_defP (caps := []) G__law_word_of (hr.mono (by omega)) (fun _ => rfl) (by kernel_rfl) (pa_cons (pe_lam0 (k := 14) (fr := []) TB rfl hmT huT (by kernel_rfl) (NdefX.nscope_by (by decide +kernel)) ⟨rfl, fun _ _ _ _ _ _ => rfl, fun z => absurd rfl z⟩ rfl (fun cl f c' A outer s H E hr => (pe_def GX_read_x (hr.mono (by omega)) (passes_call (takes_of rfl rfl rfl rfl) fun _ _ _ _ h => h) (pa_cons pe_str pa_nil)))) pa_nil)) (pe_tup (pa_cons pe_str (pa_cons pe_int pa_nil))) (nomark _))))))), ?_⟩
    refine ⟨_, rfl, ⟨a, ns, 0, rfl, hS, hlen, ⟨by decide, by decide⟩, fun H1 dd f1 hn hd => ?_⟩⟩
    have hT1 := Tabs.fx hT0 f1
    have hs := diceOf_ok (k := 0) (ns := ns) ⟨by decide, by decide⟩ hlen
    have D1 : Dc dd H1 H1 (diceOf 0 ns) := ⟨.refl, hd, hs⟩
    refine ⟨.ref dd, rfl, ⟨dd, _, rfl, D1.h, D1.ok, fun H2 vm D2 km => ?_⟩⟩
    have hm := gMach_ok D1.ok
    generalize (gMach (diceOf 0 ns)).1 = m at km hm
    generalize (gMach (diceOf 0 ns)).2 = s2 at D2
    have hT2 := Tabs.lst hT1 hd (D2.f.only fun z m => .inr m)
    refine ⟨vm, m, rfl, km, hm, fun H3 f3 => ?_⟩
    have hT3 := Tabs.fx hT2 f3
    have D3 := D2.mv f3
    refine ⟨_, rfl, by decide, by decide, for_it walk_range (fun i σ' H' => ∃ y3 y4 y5 y6 y7 st, σ' = [some (.ref a), some (.ref dd), some (.str (machT m)), y3, y4, y5, y6, y7, none, none] ∧ Dc dd H' H' st ∧ LamX.Tabs (tdT K) H') ⟨none, none, none, none, none, _, rfl, ⟨.refl, D3.h, D3.ok⟩, hT3⟩ (fun _ _ _ _ _ => trivial) (fun i x σ' H5 H6 hi hP y => ?_) (fun σ' H' hP => ?_)⟩
    · obtain ⟨y3, y4, y5, y6, y7, st, rfl, D, tt⟩ := hP
      obtain ⟨rfl, rfl⟩ := y
      refine ⟨_, rfl, rd_off rfl D ⟨by decide, by decide⟩ fun H7 D7 f7 => ?_⟩
      have r3 := off_range st (n := 3) (by decide)
      have tt7 := Tabs.lst tt D.h f7
      refine ⟨_, rfl, by omega, by omega, for_it walk_range (fun j σ' H' => ∃ z5 s z, σ' = [some (.ref a), some (.ref dd), some (.str (machT m)), some (.int (0 + (i : Int))), some (.str z), z5, y6, y7, none, none] ∧ Dc dd H' H' s ∧ LamX.Tabs (tdT K) H' ∧ TxOk (NN j) (LL j) z) ⟨_, _, machT m, rfl, ⟨.refl, D7.h, D7.ok⟩, tt7, TxOk.mach hm⟩ (fun _ _ _ _ _ => trivial) (fun j x σ' H8 H9 hj hP y => ?_) (fun σ' H' hP => ?_)⟩
      · obtain ⟨z5, s5, z, rfl, Dj, tj, hz⟩ := hP
        obtain ⟨rfl, rfl⟩ := y
        have hj2 : j < 2 := by omega
        refine ⟨_, rfl, _, rfl, dd, s5, z, NN j, LL j, rfl, Dj.h, Dj.ok, hz, by unfold NN; split <;> omega, by unfold LL; split <;> omega, fun H10 s10 z10 D10 h10 => ?_⟩
        exact ⟨_, s10, z10, rfl, ⟨.refl, D10.h, D10.ok⟩, Tabs.lst tj Dj.h (D10.f.only fun z m => .inr m), h10.next5 hj2⟩
      obtain ⟨z5, s5, z, rfl, Dj, tj, hz⟩ := hP
      have hz := hz.end5
      -- thirteen times
      refine ⟨fun σ' H' => ∃ s z, σ' = [some (.ref a), some (.ref dd), some (.str (machT m)), some (.int (0 + (i : Int))), some (.str z), z5, y6, y7, none, none] ∧ Dc dd H' H' s ∧ LamX.Tabs (tdT K) H' ∧ TxOk 160000 2072 z, ?_, ?_⟩
      · refine rd_off rfl Dj ⟨by decide, by decide⟩ fun H10 D10 f10 => ?_
        have t10 := Tabs.lst tj Dj.h f10
        refine ⟨rfl, _, rfl, ifB (fun c9 => ?_) (fun c9 => ?_)⟩
        · refine ⟨⟨_, rfl⟩, _, rfl, by show 1 ≤ sizeLine; decide, fun l1 hl1 => ?_⟩
          have g1 : Fx [] H10 (upd H10 l1 (.lst [.str z])) := Fx.new hl1
          have e1 : upd H10 l1 (.lst [.str z]) l1 = some (.lst [.str z]) := upd_same
          generalize upd H10 l1 (.lst [.str z]) = H11 at g1 e1
          refine ⟨l1, 13, [.str z], rfl, rfl, e1, by decide, by decide, (by show 13 ≤ sizeLine; decide), fun l2 hl2 => ?_⟩
          have er : (List.replicate (13 : Int).toNat [V.str z]).flatten = (List.replicate 13 z).map V.str := rfl
          rw [er]
          have g2 : Fx [] H11 (upd H11 l2 (.lst ((List.replicate 13 z).map V.str))) := Fx.new hl2
          have e2 : upd H11 l2 (.lst ((List.replicate 13 z).map V.str)) l2 = some (.lst ((List.replicate 13 z).map V.str)) := upd_same
          generalize upd H11 l2 (.lst ((List.replicate 13 z).map V.str)) = H12 at g2 e2
          refine ⟨((13 : Nat) : Int), rfl, l2, _, rfl, SqL.of e2, fun l3 hl3 => ?_⟩
          rw [cutM_to, show (List.replicate 13 z).take 13 = List.replicate 13 z from rfl]
          have g3 : Fx [] H12 (upd H12 l3 (.lst ((List.replicate 13 z).map V.str))) := Fx.new hl3
          have e3 : upd H12 l3 (.lst ((List.replicate 13 z).map V.str)) l3 = some (.lst ((List.replicate 13 z).map V.str)) := upd_same
          generalize upd H12 l3 (.lst ((List.replicate 13 z).map V.str)) = H13 at g3 e3
          have g13 := (g1.trans g2).trans g3
          refine ⟨nl, l3, List.replicate 13 z, rfl, rfl, .inl (SqL.of e3), ?_, ?_⟩
          · rw [show nl.length = 1 from rfl, jsum, wsum_rep]
            have := hz.len
            omega
          · exact ⟨_, Txt.join nl (List.replicate 13 z), rfl, ⟨.refl, g13.to D10.h (fun z => nomatch z), D10.ok⟩, Tabs.fx t10 g13, hz.thirteen⟩
        · exact ⟨_, z, rfl, ⟨.refl, D10.h, D10.ok⟩, t10, hz.mono (by decide) (by decide)⟩
      rintro σ' H10 ⟨s10, z, rfl, D, tt, hz⟩
      -- the rows
      have hzl := hz.len
      refine ⟨_, rfl, ⟨_, rfl⟩, z, nl, rfl, rfl, by decide +kernel, Nat.le_trans (m := 500000) (by omega) (by decide), fun sp hsp => ?_⟩
      have hll := lines_le hz.seg
      have hlo := split_ok (y := nl) (by decide +kernel) (by decide +kernel) hz.ok
      have hln := PyProof.Rows.split_le z nl
      have hrd := hz.ok
      generalize hls : Txt.split z nl = ls at hll hlo hln ⊢
      have g1 : Fx [] H10 (upd H10 sp (.lst (ls.map V.str))) := Fx.new hsp
      have u1 : upd H10 sp (.lst (ls.map V.str)) sp = some (.lst (ls.map V.str)) := upd_same
      generalize upd H10 sp (.lst (ls.map V.str)) = H11 at g1 u1
      have lnol : ∀ l : List Str, nolA (l.map lrD) = true := fun l => nolA_of fun d hd => by
        obtain ⟨y, _, rfl⟩ := List.mem_map.mp hd
        exact lrD_nol y
      refine ⟨sp, rfl, ⟨_, SqL.of u1⟩, fun W hW => lc_rel (walk_list (xs := ls.map V.str)) (fun k acc G => Fx [] H11 G ∧ DpAll K G acc ((ls.take k).map lrD)) ⟨Fx.new hW, .nil⟩ (fun k acc G g => SqL.of (g.1.to u1 fun m => nomatch m)) (fun k acc x G G2 hk hla hWa g y => ?_) (fun acc G hla hWa g => ?_)⟩
      · obtain ⟨rfl, hxg⟩ := y
        rw [List.getElem?_map] at hxg
        obtain ⟨y, hy, rfl⟩ := Option.map_eq_some_iff.mp hxg
        have hym := List.mem_of_getElem? hy
        have hk2 : k < ls.length := by simpa using hk
        refine ⟨rfl, ?_⟩
        refine ⟨_, rfl, y, rfl, Nat.le_trans (hll y hym) (by decide), hlo y hym, fun G3 v f3 d3 => ?_⟩
        have hW3 := f3.to hWa fun m => nomatch m
        refine Put.ok hla (by omega) hW3 ⟨(g.1.trans f3).loc hW (Chg.lst hW3), ?_⟩
        rw [List.take_add_one, hy, List.map_append]
        exact ((g.2.ext f3).snoc d3).mv (Fx.set (M := [W]) List.mem_cons_self (Chg.lst hW3)) (by have := lnol (ls.take k ++ [y]); rw [List.map_append] at this; exact this)
      rw [List.length_map, List.take_length] at g
      obtain ⟨g2, dW⟩ := g
      have hal : acc.length = ls.length := by rw [dW.len, List.length_map]
      refine ⟨_, rfl, W, _, rfl, .inl (SqL.of hWa), ?_⟩
      refine ⟨_, rfl, by omega, by omega, fun B hB => lc_rel walk_range (fun k bs G2 => Fx [] G G2 ∧ BadAt ls k bs) ⟨Fx.new hB, BadAt.zero ls⟩ (fun _ _ _ _ => trivial) (fun k bs x G2 G3 hk hlb hBb g y => ?_) (fun bs G2 hlb hBb g => ?_)⟩
      · obtain ⟨rfl, rfl⟩ := y
        have hk2 : k < ls.length := by rw [hal] at hk; simpa using hk
        obtain ⟨z1, hz1⟩ : ∃ z1, ls[k]? = some z1 := ⟨_, List.getElem?_eq_getElem hk2⟩
        obtain ⟨v, hv, dv⟩ := dW.at (i := k) (d := lrD z1) (by rw [List.getElem?_map, hz1]; rfl)
        have ev := isNon dv
        refine ⟨rfl, _, rfl, _, rfl, W, acc, _, v, rfl, rfl, SqL.of (g.1.to hWa fun m => nomatch m), by rw [Int.zero_add]; exact atI_nat hv, rfl, _, rfl, ?_⟩
        have g3l : k < 1000000 := by omega
        have put : lineB z1 = false ∨ k = 12 → Put (fun k bs G2 => Fx [] G G2 ∧ BadAt ls k bs) B (k + 1) (.int (0 + (k : Int))) G3 := fun c => by
          rw [Int.zero_add]
          exact Put.ok hlb g3l hBb ⟨g.1.loc hB (Chg.lst hBb), g.2.yes hz1 c⟩
        refine ifB (fun c1 => ⟨_, rfl, put (.inl (by rw [ev] at c1; simpa using c1))⟩) (fun c1 => ?_)
        refine ⟨_, rfl, rfl, _, rfl, ifB (fun c2 => ⟨_, rfl, put (.inr ?_)⟩) (fun c2 => ⟨bs, by omega, hBb, g.1, g.2.no hz1 (by rw [ev] at c1; simpa using c1) ?_⟩)⟩
        · have c3 : V.int (0 + (k : Int)) = V.int 12 := of_decide_eq_true c2
          have := V.int.inj c3
          omega
        · intro e
          have c3 : ¬ V.int (0 + (k : Int)) = V.int 12 := of_decide_eq_false c2
          exact c3 (by rw [e]; rfl)
      obtain ⟨g3, hbad⟩ := g
      rw [hal, Int.toNat_natCast] at hbad
      obtain ⟨js, rfl, hjs⟩ := hbad
      refine ⟨_, rfl, by show 0 ≤ sizeLine; decide, fun qe hqe => ?_⟩
      have g4 : Fx [] G2 (upd G2 qe (.lst [])) := Fx.new hqe
      have u4 : upd G2 qe (.lst []) qe = some (.lst []) := upd_same
      generalize upd G2 qe (.lst []) = G4 at g4 u4
      have hB4 := g4.to hBb fun m => nomatch m
      have gA : Fx [] H10 G4 := ((g1.trans g2).trans g3).trans g4
      have hW4 := (g3.trans g4).to hWa fun m => nomatch m
      have dW4 := dW.ext (g3.trans g4)
      have tt4 := Tabs.fx tt gA
      have hd4 := gA.to D.h fun m => nomatch m
      refine ⟨_, .list [], Dp.lst (SqL.of hB4) (Dp.ints js), .lst (SqL.of u4) .nil, shaped_ints js, by decide +kernel, ?_⟩
      have eqn : PyData.eqv (.list (js.map .int)) (.list []) = decide (js = []) := eqv_lints js []
      rw [eqn]
      refine ⟨_, rfl, ifB (fun c5 => ?_) (fun c5 => ?_)⟩
      · have c5 : js = [] := of_decide_eq_true c5
        have hnb : readBad 0 ls = none := by
          rcases hjs with ⟨_, h⟩ | ⟨b, r, e, _⟩
          · rw [List.take_length] at h; exact h
          · rw [c5] at e; cases e
        have hall := readBad_all ls 0 hnb
        have hl12 := readBad_len ls 0 (by decide) hnb
        obtain ⟨a1, a2⟩ := read_alike (by omega) hall hlo
        refine ⟨_, rfl, z, rfl, by omega, hrd, fun _ G5 v f5 d5 => ?_, fun r h => by rw [hls, hnb] at h; cases h⟩
        rw [hls] at d5
        refine ⟨_, rfl, W, acc, rfl, .inl ⟨SqL.of (f5.to hW4 fun m => nomatch m), fun l hl => ?_⟩⟩
        have f6 : Fx [] G5 (upd G5 l (.tup acc)) := Fx.new hl
        have u6 : SqT K (upd G5 l (.tup acc)) l acc := SqT.of upd_same
        generalize upd G5 l (.tup acc) = G6 at f6 u6
        have f56 := f5.trans f6
        have dW6 := dW4.ext f56
        rw [lr_lines hall] at dW6
        refine ⟨v, .ref l, .tuple (ls.map lineD), rfl, d5.ext f6, .tup u6 dW6, a1, a2, fun G7 f7 => ⟨_, rfl, ifF rfl ?_⟩⟩
        have f57 := f56.trans f7
        exact ⟨_, _, _, _, _, s10, rfl, ⟨.refl, f57.to hd4 (fun m => nomatch m), D.ok⟩, Tabs.fx tt4 f57⟩
      · have c5 : js ≠ [] := of_decide_eq_false c5
        obtain ⟨b, jr, rfl, hnb⟩ : ∃ b jr, js = b :: jr ∧ readBad 0 ls = some b := by
          rcases hjs with ⟨e, _⟩ | h
          · exact absurd e c5
          · exact h
        refine ⟨tt4, fun f8 H8 g8 T8 n8 ne8 J8 => ⟨[.str z], rfl, fun pn Cc n => ?_⟩⟩
        refine LamP.wordR J8 rfl Cc n (fun v H' z => by rw [off_on Free.del] at z; exact z) fun E' Q' hq he => ?_
        have hd8 := g8.lamTo tt4 hmT hd4 fun z e => nomatch e
        have hB8 := g8.lamTo tt4 hmT hB4 fun z e => nomatch e
        refine ⟨_, rfl, z, rfl, by omega, hrd, fun h => (by rw [hls, hnb] at h; cases h), fun r h cls e H9 f9 R => ?_⟩
        rw [hls, hnb] at h
        cases h
        refine he _ _ _ _ _ R fun H12 p fr12 f12 np hp12 => ?_
        rw [off_on fr12]
        have f912 := f9.trans f12
        have hB12 := f912.to hB8 fun m => nomatch m
        refine ⟨_, rfl, B, _, 0, .int b, rfl, rfl, SqL.of hB12, atI_nat (j := 0) rfl, by show 2 ≤ sizeLine; decide, fun t ht => ?_⟩
        have f13 : Fx [] H12 (upd H12 t (.tup [.str "text", .int b])) := Fx.new ht
        have f8 := f912.trans f13
        refine ne5 K (d := .tuple [.str "text", .int b]) (.tup (SqT.of (f13.t _ _ hp12)) (.cons (.str _) (.cons (.int _) .nil))) (.tup (SqT.of upd_same) (.cons (.str _) (.cons (.int _) .nil))) (wd_shaped (x := "BadText") (by decide +kernel) _) ⟨_, rfl, ifF rfl ?_⟩
        exact ⟨_, _, _, _, _, s10, rfl, ⟨.refl, f8.to hd8 (fun m => nomatch m), D.ok⟩, Tabs.fx T8 f8⟩
    · obtain ⟨y3, y4, y5, y6, y7, st, rfl, D, tt⟩ := hP
      refine ⟨tt, fun f8 H8 g8 T8 n8 ne8 J8 => ⟨[], rfl, fun pn Cc n => ?_⟩⟩
      refine LamP.wordR J8 rfl Cc n (fun v H' z => by rw [off_on Free.del] at z; exact z) fun E' Q' hq he => ?_
      have hnb : readBad 0 (Txt.split "" nl) = some 0 := by decide +kernel
      refine ⟨"", rfl, by decide +kernel, by decide +kernel, fun h => (by rw [hnb] at h; cases h), fun r h cls e H9 f9 R => ?_⟩
      rw [hnb] at h
      cases h
      refine he _ _ _ _ _ R fun H12 p fr12 f12 np hp12 => ?_
      rw [off_on fr12]
      refine ⟨by show 2 ≤ sizeLine; decide, fun t ht => ?_⟩
      have f13 : Fx [] H12 (upd H12 t (.tup [.str "text", .int 0])) := Fx.new ht
      refine eq5 K (d := .tuple [.str "text", .int 0]) (.tup (SqT.of (f13.t _ _ hp12)) (.cons (.str _) (.cons (.int _) .nil))) (.tup (SqT.of upd_same) (.cons (.str _) (.cons (.int _) .nil))) (wd_shaped (x := "BadText") (by decide +kernel) _) (q _)
end Mh
/-! MhEnd -/
open PySem PySem.W PySem.Calls PyProof.Rows
theorem PySem.Challenge.cw_measurehall_k05_texts_refused_holds : PySem.Challenge.rw_measurehall_k05_texts_refused.Holds := by
  w_on; o_law
  refine HandSHeadRun.head_any (r := OpenLaw.row PySem.Challenge.rw_measurehall_k05_texts_refused) (q := view (OpenLaw.row PySem.Challenge.rw_measurehall_k05_texts_refused).prog [54]) (H := Mh.hk) (ob := Mh.ob) (M := 9000) (loose := Mh.looseN) (d := HandSHeadRun.topDef (OpenLaw.row PySem.Challenge.rw_measurehall_k05_texts_refused).prog 54) (kwd := []) Mh.ob_eq
    (by kernel_rfl) (fun s => by kernel_rfl) Mh.run (by kernel_rfl) (by kernel_rfl) (by kernel_rfl) (by rfl) (by first | assumption | decide +kernel) (by decide +kernel) ⟨rfl, rfl, rfl, rfl, rfl, by decide +kernel⟩ ?hw ?hc
  case hw => w_witness2
  case hc =>
    refine LamX.walk_ofTsE (l := PySem.Challenge.rw_measurehall_k05_texts_refused) (n := 63) (k := Mh.lawLevel) (x := "_law_script") (CX := fun _ => L2.CX0) rfl (by decide) (by kernel_rfl) ⟨rfl, by decide, by decide⟩ ?F (fun _ _ _ _ _ z => z)
    intro w mg fa h Y G hmg0
    obtain ⟨K, KX, S⟩ := Y
    have hmg : mg ("law" : PySem.Str) = some (.ref fa) := by
      have e : (HandSHeadRun.topDef (OpenLaw.row PySem.Challenge.rw_measurehall_k05_texts_refused).prog 54).name = ("law" : PySem.Str) := by kernel_rfl
      rw [← e]
      exact hmg0
    have TD : Mh.TabD K w := ⟨S.t, S.q⟩
    have XD : Mh.ExD K := ⟨S.x⟩
    have T : Mh.Tx K mg := ⟨S.c, h, KX, G⟩
    obtain ⟨fd, F⟩ := T.d_law
    have e := hmg.symm.trans T.g_law
    cases e
    have b := L2.FunD.bindsA (ps := ["_law_script"]) F fun _ _ _ _ _ _ us hl => match us, hl with | [_], _ => rfl
    refine ⟨K, KX, fd, Mh.tdL.map (He.cT K), Mh.spLaw K, fun p hp => ?_, fun p hp => ?_, fun p hp => ?_, fun s v => b s [v] rfl, fun H a ns hl _ hT hS => ⟨a, ns, rfl, hS, hl, ?_, fun _ => rfl⟩, fun base _ _ hB => Mh.ok_law T TD XD ⟨fun p hp => hB _ (List.mem_map.mpr ⟨p, hp, rfl⟩), S.nd⟩ F⟩
    · obtain ⟨q, hq, rfl⟩ := List.mem_map.mp hp
      exact S.em q hq
    · obtain ⟨q, hq, rfl⟩ := List.mem_map.mp hp
      exact S.out q hq
    · obtain ⟨q, hq, rfl⟩ := List.mem_map.mp hp
      exact PySem.W.codeHd_of_K KX (S.hd q hq)
    · exact Mh.tdT_nil fun p hp => hT _ (List.mem_map.mpr ⟨p, hp, rfl⟩)
#print axioms PySem.Challenge.cw_measurehall_k05_texts_refused_holds
