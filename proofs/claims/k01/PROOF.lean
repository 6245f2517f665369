import PyProof.Rows.All
import Wide.All
import OpenK.AllK
import Wide.FinOn
import HandS.ForMost
import HandS.Exc
import HandS.ExcOwn
import HandS.ExcInit
import HandS.WordsExc
import HandS.Defaults
import HandS.IsInst
import HandS.Zip
import HandS.Strs
import HandS.Flow
import HandS.HeadHook2
import HandS.SetFor
import KE.GoesMore
import HandS.Walk
import HandS.Evl
import HandS.HeadHook4
import HandS.ExcField
import HandS.ExcIs
import KE.KExcIs
import HandS.HeadWalk
import HandS.Head2
import HandS.HeadEnd
import HandS.HeadHook3
import PySem.Challenge.RW_measurehall_k01_machines_refused
import HandS.Conv
import HandS.MakeKwOnly
import HandS.Wide
import HandS.DictComp
import KE.KEqDict
import HandS.SortRule
import HandS.Steps
import KE.KLam
import HandS.Lambda
import HandS.Nested
import KE.KAsSuite
import HandS.Comp
import HandS.Finally
import HandS.TupAny
import HandS.TupMul
set_option Elab.async false
set_option linter.all false
set_option maxRecDepth 100000
set_option maxHeartbeats 0
/-! MhBase -/
namespace Mh
open PySem PySem.Spec PyProof.Rows L2

/-! ### frames -/
/-- what is tracked stands as it was, but at the places of M; tuples and locked things stand there too; nothing is lost -/
structure Fx (M : List Addr) (H H' : Hp) : Prop where
  k : ∀ a o, H a = some o → a ∉ M → H' a = some o
  t : ∀ a xs, H a = some (.tup xs) → H' a = some (.tup xs)
  z : ∀ a o u, H a = some (.frz o u) → H' a = some (.frz o u)
  d : ∀ a, H' a = none → H a = none
theorem Fx.refl {M : List Addr} {H : Hp} : Fx M H H := ⟨fun _ _ h _ => h, fun _ _ h => h, fun _ _ _ h => h, fun _ h => h⟩
theorem Fx.trans {M : List Addr} {H H1 H2 : Hp} (a : Fx M H H1) (b : Fx M H1 H2) : Fx M H H2 :=
  ⟨fun c o h n => b.k c o (a.k c o h n) n, fun c o h => b.t c o (a.t c o h), fun c o u h => b.z c o u (a.z c o u h), fun c h => a.d c (b.d c h)⟩
theorem Fx.mono {M N : List Addr} {H H' : Hp} (a : Fx M H H') (h : ∀ x, x ∈ M → x ∈ N) : Fx N H H' := ⟨fun c o e n => a.k c o e fun m => n (h c m), a.t, a.z, a.d⟩
theorem Fx.nil {N : List Addr} {H H' : Hp} (a : Fx [] H H') : Fx N H H' := a.mono fun _ m => nomatch m
theorem Fx.new {M : List Addr} {H : Hp} {p : Addr} {o : HO} (h : H p = none) : Fx M H (upd H p o) :=
  ⟨fun a u e _ => by rw [upd_ne (ne_of_none e h)]; exact e, fun a u e => by rw [upd_ne (ne_of_none e h)]; exact e, fun a u v e => by rw [upd_ne (ne_of_none e h)]; exact e,
    fun a e => by
      by_cases q : a = p
      · rw [q]; exact h
      · rw [upd_ne q] at e; exact e⟩
/-- what is at p may change if it is no tuple and not locked -/
def Chg (H : Hp) (p : Addr) : Prop := (∀ xs, H p ≠ some (.tup xs)) ∧ ∀ o u, H p ≠ some (.frz o u)
theorem Chg.none {H : Hp} {p : Addr} (h : H p = none) : Chg H p := ⟨fun xs e => (by rw [h] at e; cases e), fun o u e => (by rw [h] at e; cases e)⟩
theorem Chg.lst {H : Hp} {p : Addr} {ys : List V} (h : H p = some (.lst ys)) : Chg H p := ⟨fun xs e => (by rw [h] at e; cases e), fun o u e => (by rw [h] at e; cases e)⟩
theorem Chg.dK {H : Hp} {p : Addr} {ys : List (Key × V)} (h : H p = some (.dK ys)) : Chg H p := ⟨fun xs e => (by rw [h] at e; cases e), fun o u e => (by rw [h] at e; cases e)⟩
theorem Chg.ins {H : Hp} {p C dx : Addr} {fs : List (Str × V)} (h : H p = some (.ins C dx fs)) : Chg H p := ⟨fun xs e => (by rw [h] at e; cases e), fun o u e => (by rw [h] at e; cases e)⟩
theorem Fx.set {M : List Addr} {H : Hp} {p : Addr} {o : HO} (m : p ∈ M) (c : Chg H p) : Fx M H (upd H p o) :=
  ⟨fun a u e n => by rw [upd_ne (show a ≠ p from fun z => n (by rw [z]; exact m))]; exact e,
    fun a u e => by rw [upd_ne (show a ≠ p from fun z => c.1 u (by rw [← z]; exact e))]; exact e, fun a u v e => by rw [upd_ne (show a ≠ p from fun z => c.2 u v (by rw [← z]; exact e))]; exact e,
    fun a e => by
      by_cases q : a = p
      · rw [q, upd_same] at e; cases e
      · rw [upd_ne q] at e; exact e⟩
/-- a place that was free ahead needn't be named -/
theorem Fx.drop {M : List Addr} {H H' : Hp} {p : Addr} (a : Fx (p :: M) H H') (h : H p = none) : Fx M H H' :=
  ⟨fun c o e n => a.k c o e fun m => (by
    rcases List.mem_cons.mp m with q | q
    · rw [q, h] at e; cases e
    · exact n q), a.t, a.z, a.d⟩
theorem Fx.free {M : List Addr} {H H' : Hp} {p : Addr} (a : Fx M H H') (h : H' p = none) : H p = none := a.d p h
theorem Fx.same {H H' : Hp} (a : Fx [] H H') : Same H H' := fun b o e => a.k b o e fun m => nomatch m
theorem Fx.to {M : List Addr} {H H' : Hp} {p : Addr} {o : HO} (a : Fx M H H') (h : H p = some o) (n : p ∉ M) : H' p = some o := a.k p o h n
theorem Fx.rdT {M : List Addr} {H H' : Hp} {p : Addr} {xs : List V} (a : Fx M H H') (h : Rd H p (.tup xs)) : Rd H' p (.tup xs) := by
  rcases h with h | ⟨o, h⟩
  · exact .inl (a.t _ _ h)
  · exact .inr ⟨o, a.z _ _ _ h⟩
theorem Fx.sqT {M : List Addr} {H H' : Hp} {K : PySem.W.Frag} {p : Addr} {xs : List V} (a : Fx M H H') (h : SqT K H p xs) : SqT K H' p xs := by
  rcases h with h | h
  · exact .inl (a.rdT h)
  · exact .inr h
theorem Fx.sqL {M : List Addr} {H H' : Hp} {K : PySem.W.Frag} {p : Addr} {xs : List V} (a : Fx M H H') (h : SqL K H p xs) (n : p ∉ M) : SqL K H' p xs := by
  rcases h with (h | ⟨o, h⟩) | h
  · exact .inl (.inl (a.k _ _ h n))
  · exact .inl (.inr ⟨o, a.z _ _ _ h⟩)
  · exact .inr h

/-! ### data that stands in the heap -/
mutual
/-- no list within -/
def nol : PyData → Bool
  | .list _ => false
  | .dict _ => false
  | .tuple xs => nolA xs
  | _ => true
def nolA : List PyData → Bool
  | [] => true
  | x :: xs => nol x && nolA xs
end
end Mh
namespace L2
open PySem PySem.Spec PyProof.Rows Mh
section
variable {K : PySem.W.Frag} {M : List Addr} {H H' : Hp}
mutual
theorem Dp.fx (a : Fx M H H') : ∀ (d : PyData) (v : V), nol d = true → Dp K H v d → Dp K H' v d
  | .none, _, _, h => by cases h; exact .non
  | .bool b, _, _, h => by cases h; exact .bl b
  | .int i, _, _, h => by cases h; exact .int i
  | .str x, _, _, h => by cases h; exact .str x
  | .list ds, _, n, _ => by cases n
  | .tuple ds, _, n, h => by
    cases h with
    | tup hs ha => exact .tup (a.sqT hs) (DpA.fx a ds _ n ha)
  | .dict _, _, _, h => by cases h
theorem DpA.fx (a : Fx M H H') : ∀ (ds : List PyData) (vs : List V), nolA ds = true → DpAll K H vs ds → DpAll K H' vs ds
  | [], _, _, h => by cases h; exact .nil
  | d :: ds, _, n, h => by
    cases h with
    | cons h1 h2 =>
      have n2 : (nol d && nolA ds) = true := n
      obtain ⟨n3, n4⟩ := Bool.and_eq_true_iff.mp n2
      exact .cons (Dp.fx a d _ n3 h1) (DpA.fx a ds _ n4 h2)
end
mutual
theorem Dp.up (a : Fx [] H H') : ∀ (d : PyData) (v : V), Dp K H v d → Dp K H' v d
  | .none, _, h => by cases h; exact .non
  | .bool b, _, h => by cases h; exact .bl b
  | .int i, _, h => by cases h; exact .int i
  | .str x, _, h => by cases h; exact .str x
  | .list ds, _, h => by
    cases h with
    | lst hs ha => exact .lst (a.sqL hs fun m => nomatch m) (DpA.up a ds _ ha)
  | .tuple ds, _, h => by
    cases h with
    | tup hs ha => exact .tup (a.sqT hs) (DpA.up a ds _ ha)
  | .dict _, _, h => by cases h
theorem DpA.up (a : Fx [] H H') : ∀ (ds : List PyData) (vs : List V), DpAll K H vs ds → DpAll K H' vs ds
  | [], _, h => by cases h; exact .nil
  | d :: ds, _, h => by
    cases h with
    | cons h1 h2 => exact .cons (Dp.up a d _ h1) (DpA.up a ds _ h2)
end
theorem Dp.tupI {v : V} {ds : List PyData} (h : Dp K H v (.tuple ds)) : ∃ a xs, v = .ref a ∧ SqT K H a xs ∧ DpAll K H xs ds := by
  cases h with
  | tup hs ha => exact ⟨_, _, rfl, hs, ha⟩
theorem Dp.tup1 {K : PySem.W.Frag} {H : Hp} {v : V} {d1 : PyData} (h : Dp K H v (.tuple [d1])) : ∃ a v1, v = .ref a ∧ SqT K H a [v1] ∧ Dp K H v1 d1 := by
  obtain ⟨a, xs, e, hs, ha⟩ := h.tupI
  cases ha with | cons h1 t => cases t; exact ⟨a, _, e, hs, h1⟩
theorem Dp.tup2 {K : PySem.W.Frag} {H : Hp} {v : V} {d1 d2 : PyData} (h : Dp K H v (.tuple [d1, d2])) : ∃ a v1 v2, v = .ref a ∧ SqT K H a [v1, v2] ∧ Dp K H v1 d1 ∧ Dp K H v2 d2 := by
  obtain ⟨a, xs, e, hs, ha⟩ := h.tupI
  cases ha with | cons h1 t => cases t with | cons h2 t => cases t; exact ⟨a, _, _, e, hs, h1, h2⟩
theorem Dp.tup3 {K : PySem.W.Frag} {H : Hp} {v : V} {d1 d2 d3 : PyData} (h : Dp K H v (.tuple [d1, d2, d3])) : ∃ a v1 v2 v3, v = .ref a ∧ SqT K H a [v1, v2, v3] ∧ Dp K H v1 d1 ∧ Dp K H v2 d2 ∧ Dp K H v3 d3 := by
  obtain ⟨a, xs, e, hs, ha⟩ := h.tupI
  cases ha with | cons h1 t => cases t with | cons h2 t => cases t with | cons h3 t => cases t; exact ⟨a, _, _, _, e, hs, h1, h2, h3⟩
theorem Dp.lstI {v : V} {ds : List PyData} (h : Dp K H v (.list ds)) : ∃ a xs, v = .ref a ∧ SqL K H a xs ∧ DpAll K H xs ds := by
  cases h with
  | lst hs ha => exact ⟨_, _, rfl, hs, ha⟩
theorem Dp.intI {v : V} {i : Int} (h : Dp K H v (.int i)) : v = .int i := by cases h; rfl
theorem Dp.strI {v : V} {i : Str} (h : Dp K H v (.str i)) : v = .str i := by cases h; rfl
theorem Dp.blI {v : V} {i : Bool} (h : Dp K H v (.bool i)) : v = .bl i := by cases h; rfl
theorem Dp.nonI {v : V} (h : Dp K H v .none) : v = .non := by cases h; rfl
theorem Dp.mv {v : V} {d : PyData} (h : Dp K H v d) (a : Fx M H H') (n : nol d = true) : Dp K H' v d := Dp.fx a d v n h
theorem Dp.ext {v : V} {d : PyData} (h : Dp K H v d) (a : Fx [] H H') : Dp K H' v d := Dp.up a d v h
theorem DpAll.mv {vs : List V} {ds : List PyData} (h : DpAll K H vs ds) (a : Fx M H H') (n : nolA ds = true) : DpAll K H' vs ds := DpA.fx a ds vs n h
theorem DpAll.ext {vs : List V} {ds : List PyData} (h : DpAll K H vs ds) (a : Fx [] H H') : DpAll K H' vs ds := DpA.up a ds vs h
theorem DpAll.len : ∀ {vs : List V} {ds : List PyData}, DpAll K H vs ds → vs.length = ds.length
  | _, _, .nil => rfl
  | _, _, .cons _ t => congrArg Nat.succ (DpAll.len t)
theorem DpAll.get : ∀ {vs : List V} {ds : List PyData} {i : Nat} {v : V}, DpAll K H vs ds → vs[i]? = some v → ∃ d, ds[i]? = some d ∧ Dp K H v d
  | _, _, _, _, .nil, e => by simp at e
  | _, _, 0, _, .cons r _, e => by simp at e; subst e; exact ⟨_, rfl, r⟩
  | _, _, i + 1, v, .cons _ t, e => by
    obtain ⟨d, h1, h2⟩ := DpAll.get (i := i) (v := v) t (by simpa using e)
    exact ⟨d, by simpa using h1, h2⟩
theorem DpAll.at : ∀ {vs : List V} {ds : List PyData} {i : Nat} {d : PyData}, DpAll K H vs ds → ds[i]? = some d → ∃ v, vs[i]? = some v ∧ Dp K H v d
  | _, _, _, _, .nil, e => by simp at e
  | _, _, 0, _, .cons r _, e => by simp at e; subst e; exact ⟨_, rfl, r⟩
  | _, _, i + 1, d, .cons _ t, e => by
    obtain ⟨v, h1, h2⟩ := DpAll.at (i := i) (d := d) t (by simpa using e)
    exact ⟨v, by simpa using h1, h2⟩
theorem DpAll.snoc : ∀ {vs : List V} {ds : List PyData} {v : V} {d : PyData}, DpAll K H vs ds → Dp K H v d → DpAll K H (vs ++ [v]) (ds ++ [d])
  | _, _, _, _, .nil, h => .cons h .nil
  | _, _, _, _, .cons r t, h => .cons r (DpAll.snoc t h)
end

end L2
namespace Mh
open PySem PySem.Spec PyProof.Rows L2
/-! ### isinstance of data, a built-in type -/
def isTy (n : String) : PyData → Bool
  | .none => n == "NoneType"
  | .bool _ => n == "bool" || n == "int"
  | .int _ => n == "int"
  | .str _ => n == "str"
  | .list _ => n == "list"
  | .tuple _ => n == "tuple"
  | .dict _ => n == "dict"
def tyD : PyData → String
  | .none => "NoneType"
  | .bool _ => "bool"
  | .int _ => "int"
  | .str _ => "str"
  | .list _ => "list"
  | .tuple _ => "tuple"
  | .dict _ => "dict"
def sixTy : List String := ["int", "bool", "str", "tuple", "list"]
theorem kit_tab : sixTy.all (fun n => ["NoneType", "bool", "int", "str", "list", "tuple"].all fun t => decide (kitB t n = some ((t == n) || (t == "bool" && n == "int")))) = true := by decide +kernel
theorem isTy_eq (n : String) (d : PyData) (hn : n ∈ sixTy) : isTy n d = ((tyD d == n) || (tyD d == "bool" && n == "int")) := by
  simp only [sixTy, List.mem_cons, List.mem_nil_iff, or_false] at hn
  rcases hn with rfl | rfl | rfl | rfl | rfl <;> cases d <;> rfl
section
variable {K : PySem.W.Frag} {H : Hp}
theorem tyx_of {v : V} {d : PyData} (h : Dp K H v d) : TyX K H v (.type (tyD d)) := by
  cases h with
  | non => exact .base .non
  | bl b => exact .base (.bl b)
  | int i => exact .base (.int i)
  | str x => exact .base (.str x)
  | lst hs _ =>
    rcases hs with (h | ⟨o, h⟩) | ⟨o, its, n, hk, hc, _⟩
    · exact .base (.lst h)
    · exact .base (.frz h)
    · exact .kList hk hc
  | tup hs _ =>
    rcases hs with (h | ⟨o, h⟩) | ⟨o, its, n, hk, hc, _⟩
    · exact .base (.tup h)
    · exact .fTuple h
    · exact .kTuple hk hc
theorem tyD_mem {v : V} {d : PyData} (h : Dp K H v d) : tyD d ∈ ["NoneType", "bool", "int", "str", "list", "tuple"] := by
  cases h <;> simp [tyD]
theorem kit_of_tab {t n : String} (ht : t ∈ ["NoneType", "bool", "int", "str", "list", "tuple"]) (hn : n ∈ sixTy) : kitB t n = some ((t == n) || (t == "bool" && n == "int")) := by
  have h := List.all_eq_true.mp (List.all_eq_true.mp kit_tab n hn) t ht
  exact of_decide_eq_true h
/-- isinstance(x, n) -/
def rIsD (K : PySem.W.Frag) : List V → Hp → VK → Prop := fun xs H Q => ∃ (x : V) (n : String) (d : PyData), xs = [x, .ty n] ∧ n ∈ sixTy ∧ Dp K H x d ∧ Q (.bl (isTy n d)) H
theorem call_isiD {X : Cx} : CallR X (.builtin "isinstance") (rIsD X.K) := fun pins s σ H xs us Q I r h => by
  obtain ⟨x, n, d, e, hn, hd, q⟩ := h
  refine call_isi pins s σ H xs us Q I r ⟨x, .ty n, .type (tyD d), .type n, isTy n d, e, .ty n, tyx_of hd, kit_ty ?_, q⟩
  rw [kit_of_tab (tyD_mem hd) hn, isTy_eq n d hn]
end

/-! ### a def of the text, as its callers want it -/
structure Def (P : Program) (w : World) (K : PySem.W.Frag) (mg : Str → Option Value) (base : Heap) (CX : CXT) (k : Nat) (x : Str) (ps : List Str) (sp : Sp) : Prop where
  ex : ∃ (f : Addr) (fd : FuncData), FnOk P w K mg base CX k f fd ps sp ∧ Binds K fd ps [] ∧ mg x = some (.ref f) ∧ PySem.W.keepIn K (.ref f) = true
section
variable {X : Cx} {CX : CXT} {k : Nat} {ps : List Str} {sp : Sp} {E : XK} {x : Str} {p pos : Pos} {e : Expr} {es : List Expr} {t : TA}
theorem pe_def (F : Def X.prog X.w X.K X.mg X.base CX k x ps sp) (hr : Room k X.A) (hx : Passes CX X E) (ha : PA X (e :: es) t) (hg : Gl X x := by rfl) (hdb : (x == ("__debug__" : Str)) = false := by decide)
    (he : starEach (e :: es) X.env = (false, eval e X.env) :: starEach es X.env := by rfl) (hpl : (backTo pos (starEach es X.env)).any (·.1) = false := by rfl) :
    PE X (.Call (.Name x p) (e :: es) [] pos) (tCall sp [] E t) := by
  obtain ⟨f, fd, F1, b, g, kp⟩ := F.ex
  exact pe_call F1 hr hg g kp b .nil hx ha hdb he hpl
theorem pe_def0 (F : Def X.prog X.w X.K X.mg X.base CX k x ps sp) (hr : Room k X.A) (hx : Passes CX X E) (hg : Gl X x := by rfl) (hdb : (x == ("__debug__" : Str)) = false := by decide) :
    PE X (.Call (.Name x p) [] [] pos) (tCall sp [] E tNil) := by
  obtain ⟨f, fd, F1, b, g, kp⟩ := F.ex
  exact pe_call0 F1 hr hg g kp b .nil hx hdb
/-- a module's number, text -/
theorem gC {i : Int} (h : ∃ t, X.mg x = some (.int i t)) (hg : Gl X x := by rfl) (hd : (x == ("__debug__" : Str)) = false := by decide) : PE X (.Name x pos) (tC (.int i)) := by
  obtain ⟨t, h⟩ := h
  exact pe_glob hg h ⟨t, rfl⟩ hd
theorem gS {z : Str} (h : ∃ t, X.mg x = some (.str z t)) (hg : Gl X x := by rfl) (hd : (x == ("__debug__" : Str)) = false := by decide) : PE X (.Name x pos) (tC (.str z)) := by
  obtain ⟨t, h⟩ := h
  exact pe_glob hg h ⟨t, rfl⟩ hd
/-- a built-in type's name as a value -/
theorem gT {n : String} (hm : X.mg x = none) (hg : Gl X x := by rfl) (hv : bootBuiltins x = some (.type n) := by decide +kernel) (hn : x ≠ "__name__" := by decide) (hd : (x == ("__debug__" : Str)) = false := by decide) : PE X (.Name x pos) (tC (.ty n)) :=
  pe_bltn hg hm hv rfl hn hd
end
/-! ### small things -/
theorem ifT {c : Bool} {A B : Prop} (h : c = true) (a : A) : if c = true then A else B := by rw [if_pos h]; exact a
theorem ifF {c : Bool} {A B : Prop} (h : c = false) (b : B) : if c = true then A else B := by rw [if_neg (by rw [h]; decide)]; exact b
theorem ifB {c : Bool} {A B : Prop} (a : c = true → A) (b : c = false → B) : if c = true then A else B := by
  cases h : c with
  | true => exact ifT rfl (a h)
  | false => exact ifF rfl (b h)
theorem sz2 {n : Nat} (h : n ≤ 1000) : n ≤ sizeLine := Nat.le_trans h (by decide)
end Mh
/-! MhSet -/
namespace Mh
open PySem PySem.Spec PyProof.Rows L2

/-! ### set(xs), xs a list of ints, as the hand layer's sets are told (an adaption of the library's own way for a tuple) -/
section
variable {P : Program} {w : World} {A : Around} {E : Value → Shared → Prop} {s : Shared}
abbrev newS (w : World) : Obj := { cls := .type "set", dict := none, data := .set #[] 0 (.fresh 0 0 (!w.params.followText "set-order")) }
set_option maxHeartbeats 8000000 in
theorem set_listI {l : Addr} {items : Array Value} (ns : List Int) {Q : Value → Shared → Prop} (hh : A.handled = none) (hl : s.heap.IsList l items) (hit : IntsAre items.toList ns) (hb : ns.length + 1 < scanBound)
    (h : ∀ (h' : Heap) (tk c : Nat), SetR w h' s.heap.objs.size (fun j => decide (j ∈ ns)) c → c ≤ ns.length → (∀ b o, s.heap.get? b = some o → h'.get? b = some o) → Q (.ref s.heap.objs.size) { s with heap := h', toks := tk }) :
    wpAny (model P w) A (call (.type "set") [.ref l]) Q E s := by
  have sz : items.size = ns.length := by
    have q := IntsAre.length hit
    rw [Array.length_toList] at q
    exact q
  obtain ⟨c, tl, hmro⟩ := F.called_set.mro
  have a1 := F.called_set.made
  have a2 := F.called_set.sub
  refine wpAny_call (codeAny_of_tree ?_)
  show wpAny _ _ (callAny (.type "set") _) _ _ _
  refine wpAny_pure ⟨Code.quiet_builtin _ (by decide +kernel), codeAny_builtin F.entry_type_call ?_⟩
  rw [Around.under_plain (weight_type_call_type "set" [.ref l] []) rfl]
  have a3 := F.called_set.notType
  have a4 := F.called_set.canCreate
  have a5 := F.typeCall_set_1 (.ref l)
  repeat (any_goals (first | assumption | wp_step))
  refine codeAny_mono (code_set_led1 (.ref l) (E := E) (Q₁ := fun obj s₁ => obj = .ref s.heap.objs.size ∧ s₁ = { s with heap := s.heap.push (newS w) }) ⟨rfl, rfl⟩) fun r s₁ hr => ?_
  cases r with
  | error e => exact hr
  | ok fl =>
    cases fl with
    | ret obj =>
      obtain ⟨rfl, rfl⟩ := hr
      have hS : (s.heap.push (newS w)).get? s.heap.objs.size = some (newS w) := Heap.get?_push_size _ rfl
      have hT : Shared.TypeIs { s with heap := s.heap.push (newS w) } (.ref s.heap.objs.size) "set" := ⟨_, hS, rfl⟩
      have a6 := F.called_set.init.lookup
      have a7 := F.called_set.init.bind (.ref s.heap.objs.size)
      repeat (any_goals (first | assumption | wp_step))
      refine codeAny_mono (codeAny_call_builtin (R := wants (fun r s₂ => r = .none ∧ ∃ h' tk c, s₂ = { s with heap := h', toks := tk } ∧ SetR w h' s.heap.objs.size (fun j => decide (j ∈ ns)) c ∧ c ≤ ns.length ∧
          (∀ b o, s.heap.get? b = some o → h'.get? b = some o)) E) F.called_set.init.plain F.entry_set_init (check_set_init_1 hT ?_)) fun r₂ s₂ hr₂ => ?_
      · obtain ⟨ol, hol, hcl, nl, hdl⟩ := hl
        obtain ⟨ocls, odict, odata, oslots⟩ := ol
        simp only at hcl hdl
        subst hcl; subst hdl
        have hol' : (s.heap.push (newS w)).get? l = some { cls := .type "list", dict := odict, data := .seq items nl, slots := oslots } := Heap.get?_push_of_some _ hol
        have b1 := F.sub_list_set
        have b2 := F.sub_list_frozenset
        have b3 : (Value.type "list" == Value.type "dict") = false := by decide
        have hl1 : (s.heap.push (newS w)).IsList l items := ⟨_, hol', rfl, nl, rfl⟩
        unfold Builtin.«set.__init__» noKeywords Builtin.Frozenset.updateFrom
        generalize hPI : pyIter = PI
        wp_walk
        subst hPI
        refine wpAny_pyIter_list hl1 (wpAny_bind (wpAny_runValue ?_))
        have hlS : l < s.heap.objs.size := Heap.lt_size hol
        have hh3 : A.in1.in1.in1.handled = none := by simp [hh]
        have z1 : (s.heap.push (newS w)).objs.size = s.heap.objs.size + 1 := Heap.size_push ..
        have hneI : l ≠ (s.heap.push (newS w)).objs.size := by rw [z1]; exact Nat.ne_of_lt (Nat.lt_succ_of_lt hlS)
        have hSf : s.heap.objs.size ∉ [(s.heap.push (newS w)).objs.size, l] := by
          rw [z1]
          intro m
          rcases List.mem_cons.mp m with m | m
          · exact Nat.ne_of_lt (Nat.lt_succ_self _) m
          · exact Nat.ne_of_gt hlS (List.mem_singleton.mp m)
        have hval : ∀ (i : Nat) (v : Value), items[i]? = some v → ∃ k t, ns[i]? = some k ∧ v = .int k t := fun i v hv => by
          have hi : i < ns.length := by rw [← sz]; exact (Array.getElem?_eq_some_iff.mp hv).1
          obtain ⟨t, e⟩ := PyProof.Rows.IntsAre.int_at hit i v (by rw [Array.getElem?_toList]; exact hv)
          refine ⟨ns[i], t, List.getElem?_eq_getElem hi, ?_⟩
          rw [e, List.getD_eq_getElem?_getD, List.getElem?_eq_getElem hi] <;> rfl
        refine set_update_ints ((Walks.list hh3 _ l hneI items).toS) s.heap.objs.size hSf ns sz hb hval (items.size - 0) 0 _ (by omega) (Nat.zero_le _) ⟨⟨_, Heap.get?_push_size _ rfl, rfl, rfl⟩, (hl1.push _)⟩ ?hS0 ?hR
        case hS0 =>
          have g0 : ((s.heap.push (newS w)).push { cls := .type "list_iterator", data := .fields #[.ref l, .int 0 0] }).get? s.heap.objs.size = some (newS w) := Heap.get?_push_of_some _ hS
          exact ⟨0, Nat.le_refl 0, setR_new_at g0⟩
        case hR =>
          intro s' c' hm hc' hS'
          obtain ⟨h', g2, d', tk', os'⟩ := s'
          have e1 : g2 = s.gens := hm.gens
          have e2 : d' = s.drawn := hm.drawn
          have e3 : os' = s.os := hm.os
          subst e1; subst e2; subst e3
          show wpAny _ _ _ _ _ _
          refine wpAny_pure ?_
          show wpAny _ _ (ret Value.none) _ _ _
          rw [sz] at hc'
          refine wpAny_pure ⟨rfl, h', tk', c', rfl, hS', hc', fun b o e => ?_⟩
          have hb0 : b < s.heap.objs.size := Heap.lt_size e
          have n1 : b ≠ s.heap.objs.size := Nat.ne_of_lt hb0
          have n2 : b ≠ (s.heap.push (newS w)).objs.size := by rw [z1]; exact Nat.ne_of_lt (Nat.lt_succ_of_lt hb0)
          refine hm.heap b o (fun m => ?_) (Heap.get?_push_of_some _ (Heap.get?_push_of_some _ e))
          rcases List.mem_cons.mp m with m | m
          · exact n1 m
          · exact n2 (List.mem_singleton.mp m)
      · cases r₂ with
        | error e => exact hr₂
        | ok fl₂ =>
          cases fl₂ with
          | ret r =>
            obtain ⟨rfl, h', tk, c', rfl, hS', hc', hk'⟩ := hr₂
            repeat (any_goals (first | assumption | wp_step))
            exact h _ _ _ hS' hc' hk'
          | _ => exact hr₂.elim
    | _ => exact hr.elim
end
def rSetL (K : PySem.W.Frag) (w : World) : List V → Hp → VK → Prop := fun xs H Q => ∃ (l : Addr) (ns : List Int), xs = [V.ref l] ∧ SqL K H l (ns.map V.int) ∧ ns.length < 60 ∧
  ∀ a c, H a = none → c ≤ ns.length → Q (.ref a) (upd H a (SetO w a (fun j => decide (j ∈ ns)) c))
theorem cr_setL {X : Cx} (hc : X.calm = true) : CallR X (.type "set") (rSetL X.K X.w) := fun pins s σ H xs us Q I r h => by
  obtain ⟨l, ns, rfl, hq, hn, q⟩ := h
  rw [Vals.ref1 r]
  obtain ⟨its, rv, pl, hz⟩ := I.list hq
  refine set_listI ns (I.ok.hd hc) pl.isList (by simpa using rv.ints) (by unfold scanBound; omega) fun h' tk c R hcn k => ?_
  have fr : H s.heap.objs.size = none := I.hok.fresh (Nat.le_refl _)
  exact ⟨.ref s.heap.objs.size, _, I.laid (t' := tk) (fun b u e => k b u e) (Nat.le_refl _) (setO_new R), rfl, q _ c fr hcn⟩

end Mh
/-! MhRules -/
namespace Mh
open PySem PySem.Spec PyProof.Rows L2

/-! ### for i, x in enumerate(t), t a tuple -/
section
variable {prog : Program} {w : World} {A : Around} {E : Value → Shared → Prop} {s : Shared}
theorem meets_enT (l : Addr) (items : Array Value) (n : Nat) (dct : Option Addr) (sl : Array (Option Value)) :
    Meets (Builtin.«enumerate.__new__» ⟨[.type "enumerate", .ref l], []⟩) (fun _ R s => s.heap.get? l = some { cls := .type "tuple", dict := dct, data := .seq items n, slots := sl } ∧
      R (.ok (.ret (.ref (s.heap.push { cls := .type "tuple_iterator", data := .fields #[.ref l, .int 0 0] }).objs.size)))
        { s with heap := (s.heap.push { cls := .type "tuple_iterator", data := .fields #[.ref l, .int 0 0] }).push { cls := .type "enumerate", data := .fields #[.none, .bool false, .ref s.heap.objs.size, rawInt 0, .none, .none] } }) :=
  .of_wp fun prog w A R s h => by
    obtain ⟨hp, g, d, tk, os⟩ := s
    obtain ⟨hl, h⟩ := h
    have hsub := sub_enumerate
    have hL : Heap.IsTuple (Shared.heap ⟨hp, g, d, tk, os⟩) l items := ⟨_, hl, rfl, n, rfl⟩
    wp_walk using AutoSeq1.wpAny_loadPart' hl
    refine wpAny_stack_any fun st => wpAny_pure ?_
    split
    · rename_i c _ _ _ _ _
      cases (c == Value.type "enumerate") <;> (wp_walk using AutoSeq1.wpAny_loadPart' hl, wpAny_pyIter_tuple hL; exact ⟨_, rfl, h⟩)
    · wp_walk using AutoSeq1.wpAny_loadPart' hl, wpAny_pyIter_tuple hL
      exact ⟨_, rfl, h⟩
theorem call_enT {l : Addr} {items : Array Value} {Q : Value → Shared → Prop} (hL : s.heap.IsTuple l items)
    (h : ∀ h', IsEnum h' (s.heap.objs.size + 1) s.heap.objs.size 0 .none → h'.IsTupleIter s.heap.objs.size l 0 → (∀ b o, s.heap.get? b = some o → h'.get? b = some o) → Q (.ref (s.heap.objs.size + 1)) { s with heap := h' }) :
    wpAny (model prog w) A (call (.type "enumerate") [.ref l]) Q E s := by
  obtain ⟨⟨c, dct, dt, sl⟩, hl, hc, n, hd⟩ := hL
  replace hc : c = .type "tuple" := hc
  replace hd : dt = .seq items n := hd
  subst hc hd
  refine callType_new F.called_enumerate (by decide) (F.typeCall_enumerate_1 _) (F.newCall_enumerate_1 _) (fun obj => F.args_object_init_2 obj _) F.entry_enumerate_new (meets_enT l items n dct sl) ⟨hl, ?_⟩
  have hz : (s.heap.push { cls := .type "tuple_iterator", data := .fields #[.ref l, .int 0 0] }).objs.size = s.heap.objs.size + 1 := Heap.size_push ..
  show _ ∧ _
  rw [hz]
  have he : IsEnum ((s.heap.push { cls := .type "tuple_iterator", data := .fields #[.ref l, .int 0 0] }).push { cls := .type "enumerate", data := .fields #[.none, .bool false, .ref s.heap.objs.size, rawInt 0, .none, .none] }) (s.heap.objs.size + 1) s.heap.objs.size 0 .none := by
    have q := Heap.get?_push_size (s.heap.push { cls := .type "tuple_iterator", data := .fields #[.ref l, .int 0 0] }) (o := { cls := .type "enumerate", data := .fields #[.none, .bool false, .ref s.heap.objs.size, rawInt 0, .none, .none] }) rfl
    rw [hz] at q
    exact q
  exact ⟨⟨_, he, rfl⟩, h _ he ⟨_, Heap.get?_push_of_some _ (Heap.get?_push_size _ rfl), rfl, rfl⟩ fun b o x => Heap.get?_push_of_some _ (Heap.get?_push_of_some _ x)⟩
theorem enT_end {e it l : Addr} {i : Nat} {items : Array Value} {old : Value} {Q : Option Value → Shared → Prop} (hh : A.handled = none)
    (he : IsEnum s.heap e it i old) (hit : s.heap.IsTupleIter it l i) (hl : s.heap.IsTuple l items) (hx : items[i]? = none) (hQ : ∀ h', Heap.ExtBut it s.heap h' → Q none { s with heap := h' }) : wpAny (model prog w) A (pyNext (.ref e)) Q E s := by
  have hT : s.TypeIs (.ref e) "enumerate" := ⟨_, he, rfl⟩
  unfold pyNext
  refine wpAny_bind (wpAny_attempt (wpAny_callSpecial?_slot (name := Str.ofString "__next__") hT F.slot_enumerate_next (wpAny_call_entry F.slot_enumerate_next hT F.entry_enumerate_next ?_ (F.args_enumerate_next_1 _))))
  show wpAny _ _ (field (.ref e) 2 >>= _) _ _ _
  refine wpAny_bind (wpAny_field he rfl (x := .ref it) rfl ?_)
  refine wpAny_bind (RZ.nextOf_tuple_end hh hit hl hx fun h' x he' hx' => ?_)
  obtain ⟨o, ho, hc⟩ := hx'
  exact wpAny_bind (wpAny_isInstance (T := "StopIteration") (b := true) ⟨o, ho, hc⟩ isSubtype_stop (wpAny_pure (hQ _ he')))
end
def IteT (K : PySem.W.Frag) (a : Addr) : It :=
  ⟨fun i H => ∃ (xs : List V) (x : V), SqT K H a xs ∧ xs[i]? = some x, fun i H v H' => ∃ T x, v = .ref T ∧ H T = none ∧ H' = upd H T (.tup [.int (i : Nat), x]) ∧ ∀ xs, SqT K H a xs → xs[i]? = some x, fun i H => ∃ xs : List V, SqT K H a xs ∧ xs.length ≤ i⟩
theorem turn_enT {P : Program} {w : World} {K : PySem.W.Frag} {elts : List Expr} {kk : Nat} {tpos : Pos} (a e it : Addr) :
    Turn P w K (.Tuple elts kk tpos) (IteT K a) [e, it] e (fun i h => (∃ old, IsEnum h e it ((i : Nat) : Int) old) ∧ h.IsTupleIter it a i ∧ e ≠ it) where
  mem := by simp
  obj := fun i h st b hb => by
    obtain ⟨⟨old, he⟩, ⟨o, ho, hc, hd⟩, _⟩ := st
    have e' : b = e ∨ b = it := by simpa using hb
    rcases e' with z | z
    · rw [z]; exact ⟨_, he, fun v q => nomatch q⟩
    · rw [z]; exact ⟨o, ho, fun v q => by rw [hd] at q; cases q⟩
  keep := fun i h h' st k => let ⟨⟨old, he⟩, hi, hne⟩ := st; ⟨⟨old, k e (by simp) _ he⟩, hi.at fun o q => k it (by simp) o q, hne⟩
  item := fun {X} hP hw hK hc i pins s σ H E I hf st hg => by
    subst hP hw hK
    obtain ⟨⟨old, he⟩, hit, hne⟩ := st
    obtain ⟨xs, x, hq, hx⟩ := hg
    obtain ⟨its, rv, p, hz⟩ := I.tuple hq
    obtain ⟨u, hu, ru⟩ := rv.get hx
    have hel : e < s.heap.objs.size := Heap.lt_size he
    have hil : it < s.heap.objs.size := by obtain ⟨_, q, _⟩ := hit; exact Heap.lt_size q
    have hat : a ≠ it := fun z => by
      obtain ⟨o1, q1, c1, _⟩ := hit
      obtain ⟨o2, q2, c2, _⟩ := p
      rw [z, q1] at q2
      rw [← Option.some.inj q2, c1] at c2
      exact absurd (Value.type.inj c2) (by decide)
    have hae : e ≠ a := fun z => by
      obtain ⟨o2, q2, c2, _⟩ := p
      rw [← z, he] at q2
      rw [← Option.some.inj q2] at c2
      exact absurd (Value.type.inj c2) (by decide)
    have hlt : i < its.toArray.size := by
      have := (List.getElem?_eq_some_iff.mp hu).1
      simpa using this
    refine wpAny_pyNext_enum_itemD (Draws.tuple (by rw [show X.A.in1.handled = X.A.handled from rfl]; exact I.ok.hd hc) it a hat its.toArray) he ⟨hit, p⟩ hlt hne (fun m => ?_) fun x1 h' tk hx1 ho hst' hT hsz hk => ?_
    · rcases List.mem_cons.mp m with m | m
      · exact hne m
      · exact hae (List.mem_singleton.mp m)
    obtain ⟨hit', _⟩ := hst'
    have e1 : x1 = u := by
      have q : its[i]? = some x1 := by simpa using hx1
      rw [hu] at q
      exact (Option.some.inj q).symm
    subst e1
    refine ⟨_, rfl, wpAny_letOwnedTupleGo_enum (s := { s with heap := h', toks := tk + 1 }) ho fun h'' he' sb => ?_⟩
    have hT2 : h''.get? s.heap.objs.size = some { cls := .type "tuple", data := .seq #[.int i tk, x1] } := (sb.2 _ (Nat.ne_of_gt hel)).trans hT
    have new : ObjOk X.prog X.w (upd H s.heap.objs.size (.tup [.int (i : Nat), x])) h'' s.heap.objs.size (.tup [.int (i : Nat), x]) :=
      ⟨by show 2 ≤ sizeLine; decide, [.int i tk, x1], .cons ⟨_, rfl⟩ (.cons ru .nil), ⟨_, hT2, rfl, _, rfl⟩⟩
    have I1 : Inv X pins σ (upd H s.heap.objs.size (.tup [.int (i : Nat), x])) { s with heap := h'', toks := tk + 1 } :=
      I.turnedNew (ch := [e, it]) (fun b ob hb q => (sb.2 b (fun z => hb (by simp [z]))).trans (hk b ob (fun z => hb (by simp [z])) (fun z => hb (by simp [z])) q)) hf (Nat.le_refl _) new
    refine ⟨.ref s.heap.objs.size, _, I1, rfl, ⟨_, x, rfl, I.hok.fresh (Nat.le_refl _), rfl, fun ys hy => by rw [I.tuple_inj hy hq]; exact hx⟩, ⟨⟨x1, ?_⟩, hit'.at fun o q => (sb.2 it (Ne.symm hne)).trans q, hne⟩, fun b hb => ?_⟩
    · have e2 : ((i + 1 : Nat) : Int) = (i : Int) + 1 := by omega
      rw [e2]
      exact he'
    · have hb' : b < s.heap.objs.size := by
        have e' : b = e ∨ b = it := by simpa using hb
        rcases e' with z | z
        · rw [z]; exact hel
        · rw [z]; exact hil
      rw [upd_ne (Nat.ne_of_lt hb')]
      exact (hf b hb).1
  done := fun {X} hP hw hK hc i pins s σ H E I hf st hg => by
    subst hP hw hK
    obtain ⟨⟨old, he⟩, hit, hne⟩ := st
    obtain ⟨xs, hq, hx⟩ := hg
    obtain ⟨its, rv, p, hz⟩ := I.tuple hq
    have hl := rv.length
    have hat : a ≠ it := fun z => by
      obtain ⟨o1, q1, c1, _⟩ := hit
      obtain ⟨o2, q2, c2, _⟩ := p
      rw [z, q1] at q2
      rw [← Option.some.inj q2, c1] at c2
      exact absurd (Value.type.inj c2) (by decide)
    obtain ⟨f0, f1, f2, f3, f4, f5⟩ := hf it (by simp)
    refine enT_end (I.ok.hd hc) he hit p (by simp; omega) fun h' eb => ⟨rfl, I.turned (t' := s.toks) (fun b o hb q => eb b o hb q) f0 f1 f3 f4 f5⟩
  self := fun A i s Q E st h => let ⟨⟨_, he⟩, _⟩ := st; wpAny_pyIter_enum he h
def iEnT (K : PySem.W.Frag) (ta : TA) : TI := fun σ H R => ta σ H fun vs H1 => ∃ a xs, vs = [.ref a] ∧ SqT K H1 a xs ∧ R (IteT K a) H1
theorem pi_enumT {X : Cx} {e : Expr} {ta : TA} {p pos tpos : Pos} {elts : List Expr} {kk : Nat} (hg : Gl X "enumerate") (hm : X.mg "enumerate" = none) (ha : PA X [e] ta) (hs : starEach [e] X.env = [(false, eval e X.env)] := by rfl) :
    PI X (.Tuple elts kk tpos) (.Call (.Name "enumerate" p) [e] [] pos) (iEnT X.K ta) := ⟨fun pins s σ H R I h => by
  refine Call_ (ld_blt I hg hm boot_enumerate (PyProof.Rows.callWith_type1 (thn (ha.run pos pins s σ H _ I h) fun us s1 ⟨vs, H1, I1, r1, q1⟩ => ?_) hs rfl))
  obtain ⟨a, xs, ex, hq, q⟩ := q1
  subst ex
  rw [Vals.ref1 r1]
  obtain ⟨its, rv, p', hz⟩ := I1.tuple hq
  refine call_enT p' fun h' he hit hk => wpAny_pyIter_enum he ?_
  have I2 : Inv X pins σ H1 { s1 with heap := h' } := I1.kept (t' := s1.toks) hk
  refine ⟨s1.heap.objs.size + 1, [s1.heap.objs.size + 1, s1.heap.objs.size], _, _, H1, rfl, I2, turn_enT a (s1.heap.objs.size + 1) s1.heap.objs.size, ⟨⟨.none, he⟩, hit, Nat.succ_ne_self _⟩, fun b hb => ?_, q⟩
  have hle : s1.heap.objs.size ≤ b := by
    rcases List.mem_cons.mp hb with z | z
    · rw [z]; exact Nat.le_add_right _ _
    · rw [List.mem_singleton.mp z]; exact Nat.le_refl _
  exact I1.fpOk hle (I1.hok.fresh hle)⟩
/-- a loop over enumerate(t) -/
theorem for_enT {K : PySem.W.Frag} {a : Addr} {xs : List V} {g : TG} {tb : TS} {D : Ends} {σ : L2.St} {H : Hp} (Pv : Nat → L2.St → Hp → Prop) (h0 : Pv 0 σ H) (hq : ∀ i σ H, Pv i σ H → SqT K H a xs)
    (hs : ∀ (i : Nat) (x : V) (T : Addr) (σ : L2.St) (H : Hp), xs[i]? = some x → Pv i σ H → H T = none → g (.ref T) σ (upd H T (.tup [.int (i : Nat), x])) fun σ2 H2 => tb { D with nx := Pv (i + 1), ct := Pv (i + 1), bk := D.nx } σ2 H2) (hd : ∀ σ H, Pv xs.length σ H → D.nx σ H) :
    ∃ W : Nat → Nat → L2.St → Hp → Prop, (∃ m, W 0 m σ H) ∧ ∀ i m σ H, W i m σ H →
      ((IteT K a).stop i H ∧ D.nx σ H) ∨ ((IteT K a).go i H ∧ ∃ N : L2.St → Hp → Prop, (∀ σ' H', N σ' H' → ∃ m', m' < m ∧ W (i + 1) m' σ' H') ∧ ∀ v H', (IteT K a).yld i H v H' → g v σ H' fun σ2 H2 => tb { D with nx := N, ct := N, bk := D.nx } σ2 H2) := by
  refine ⟨fun i m σ H => m = xs.length - i ∧ i ≤ xs.length ∧ Pv i σ H, ⟨xs.length, rfl, Nat.zero_le _, h0⟩, ?_⟩
  rintro i m σ H ⟨rfl, hi, p⟩
  have q := hq i σ H p
  by_cases hlt : i < xs.length
  · refine .inr ⟨⟨xs, xs[i], q, List.getElem?_eq_getElem hlt⟩, Pv (i + 1), fun σ' H' p' => ⟨xs.length - (i + 1), by omega, rfl, hlt, p'⟩, fun v H' y => ?_⟩
    obtain ⟨T, x', rfl, hT, rfl, f1⟩ := y
    exact hs i x' T σ H (f1 xs q) p hT
  · have e : i = xs.length := by omega
    subst e
    exact .inl ⟨⟨xs, q, Nat.le_refl _⟩, hd σ H p⟩
/-- a comprehension over enumerate(t) -/
theorem lc_enT {K : PySem.W.Frag} {a : Addr} {xs : List V} {g : TG} {tt : TT} {te : TE} {vs : List Nat} {σ : L2.St} {H1 : Hp} {D : Addr} {Qd : Hp → Prop} (Pv : Nat → Hp → Prop) (h0 : Pv 0 (upd H1 D (.lst []))) (hl : ∀ i H, Pv i H → SqT K H a xs)
    (hs : ∀ (i : Nat) (x : V) (T : Addr) H, xs[i]? = some x → Pv i H → H T = none → g (.ref T) (wipe σ vs) (upd H T (.tup [.int (i : Nat), x])) fun σ2 H2 => wipe σ2 vs = wipe σ vs ∧ tt σ2 H2 fun b H3 =>
      if b = true then te σ2 H3 fun y H4 => ∃ acc, H4 D = some (.lst acc) ∧ acc.length < sizeLine ∧ Pv (i + 1) (upd H4 D (.lst (acc ++ [y]))) else Pv (i + 1) H3) (hd : ∀ H, Pv xs.length H → Qd H) :
    ∃ W : Nat → Nat → Hp → Prop, (∃ m, W 0 m (upd H1 D (.lst []))) ∧ ∀ i m H, W i m H →
      ((IteT K a).stop i H ∧ Qd H) ∨ ((IteT K a).go i H ∧ ∃ Nx : Hp → Prop, (∀ H', Nx H' → ∃ m', m' < m ∧ W (i + 1) m' H') ∧ ∀ x H', (IteT K a).yld i H x H' → g x (wipe σ vs) H' fun σ2 H2 => wipe σ2 vs = wipe σ vs ∧ tt σ2 H2 fun b H3 =>
        if b = true then te σ2 H3 fun y H4 => ∃ acc, H4 D = some (.lst acc) ∧ acc.length < sizeLine ∧ Nx (upd H4 D (.lst (acc ++ [y]))) else Nx H3) := by
  refine ⟨fun i m H => m = xs.length - i ∧ i ≤ xs.length ∧ Pv i H, ⟨xs.length, by simp, Nat.zero_le _, h0⟩, ?_⟩
  rintro i m H ⟨rfl, hi, p⟩
  have q := hl i H p
  by_cases hlt : i < xs.length
  · refine .inr ⟨⟨xs, xs[i], q, List.getElem?_eq_getElem hlt⟩, Pv (i + 1), fun H' p' => ⟨xs.length - (i + 1), by omega, rfl, hlt, p'⟩, fun x H' y => ?_⟩
    obtain ⟨T, x', rfl, hT, rfl, f1⟩ := y
    exact hs i x' T H (f1 xs q) p hT
  · have e : i = xs.length := by omega
    subst e
    exact .inl ⟨⟨xs, q, Nat.le_refl _⟩, hd H p⟩
end Mh
/-! MhMore -/
namespace Mh
open PySem PySem.Spec PyProof.Rows L2
/-- an object of one's own, new since H0, may change -/
theorem Fx.loc {M : List Addr} {H0 H : Hp} {D : Addr} {o : HO} (a : Fx M H0 H) (h : H0 D = none) (c : Chg H D) : Fx M H0 (upd H D o) :=
  ((a.mono fun x m => List.mem_cons_of_mem _ m).trans (Fx.set (M := D :: M) List.mem_cons_self c)).drop h
theorem Fx.ne {M : List Addr} {H0 H : Hp} {p q : Addr} {o : HO} (a : Fx M H0 H) (h : H0 p = some o) (h2 : H q = none) : p ≠ q := fun z => by
  have := a.free h2
  rw [← z, h] at this
  cases this
theorem execs_app (env : Env) (b : List Stmt) : ∀ a : List Stmt, execs (a ++ b) env = execs a env >>= fun f => match f with | .next => execs b env | f => pure f
  | [] => by
    show execs b env = pure Flow.next >>= _
    rw [pure_bind]
  | st :: r => by
    show (exec st env >>= fun f => match f with | .next => execs (r ++ b) env | f => pure f) = ((exec st env >>= fun f => match f with | .next => execs r env | f => pure f) >>= _)
    rw [bind_assoc]
    congr 1
    funext f
    cases f with
    | next => exact execs_app env b r
    | _ => rw [pure_bind]
/-- a block in two parts, a word between them -/
theorem pss_at {X : Cx} {st : List Stmt} {t u : TS} (n : Nat) (h1 : PSs X (st.take n) t) (h2 : PSs X (st.drop n) u) : PSs X st (Evl.tCut t u) := by
  refine ⟨fun pins s σ H D I h => ?_⟩
  obtain ⟨Mid, hm, hu⟩ := h
  rw [← List.take_append_drop n st, execs_app]
  refine wpAny_bind (thn (h1.run pins s σ H { D with nx := Mid } I hm) fun f s1 q => ?_)
  cases f with
  | next =>
    obtain ⟨σ', H', I', q⟩ := q
    exact h2.run pins s1 σ' H' D I' (hu σ' H' q)
  | ret v => exact wpAny_pure q
  | brk => exact wpAny_pure q
  | cont => exact wpAny_pure q
section
variable {X : Cx} {K : PySem.W.Frag}
theorem kix_list (h : X.K = K) : IxR X (rIxL K) := by rw [← h]; exact ix_list
theorem kix_tup (h : X.K = K) : IxR X (rIxT K) := by rw [← h]; exact ix_tup
theorem kix_seq (h : X.K = K) : IxR X (rIx K) := by rw [← h]; exact ix_seq
theorem kop_in (h : X.K = K) : OpR X (compareOp .In) (rIn K false) := by rw [← h]; exact op_in_seq
theorem kop_notIn (h : X.K = K) : OpR X (compareOp .NotIn) (rIn K true) := by rw [← h]; exact op_notIn_seq
theorem kcall_isi (h : X.K = K) : CallR X (.builtin "isinstance") (rIsD K) := by rw [← h]; exact call_isiD
theorem kcr_all (h : X.K = K) (hc : X.calm = true) : CallR X (.builtin "all") (rAll K) := by rw [← h]; exact cr_all hc
theorem kcr_sum (h : X.K = K) (hc : X.calm = true) : CallR X (.builtin "sum") (rSum K) := by rw [← h]; exact cr_sum hc
theorem kop_eqD (h : X.K = K) (hu : X.A.units + 64 < cLine) : OpR X (compareOp .Eq) (rEqD K) := by rw [← h]; exact op_eqD hu
theorem kop_neD (h : X.K = K) (hu : X.A.units + 64 < cLine) : OpR X (compareOp .NotEq) (rNeD K) := by rw [← h]; exact op_neD hu
theorem ksl_tup (h : X.K = K) : SlR X (rSlT K) := by rw [← h]; exact sl_tup
theorem ksl_list (h : X.K = K) : SlR X (rSlL K) := by rw [← h]; exact sl_list
def rLenK (K : PySem.W.Frag) : List V → Hp → VK → Prop := fun xs H Q => ∃ p ys, xs = [.ref p] ∧ (SqL K H p ys ∨ SqT K H p ys) ∧ Q (.int ys.length) H
theorem kcall_len (h : X.K = K) : CallR X (.builtin "len") (rLenK K) := by rw [← h]; exact call_len_seq
def rTupK (K : PySem.W.Frag) : List V → Hp → VK → Prop := fun xs H Q => ∃ p ys, xs = [.ref p] ∧ ((SqL K H p ys ∧ ∀ l, H l = none → Q (.ref l) (upd H l (.tup ys))) ∨ (SqT K H p ys ∧ Q (.ref p) H))
theorem kcall_tuple (h : X.K = K) : CallR X (.type "tuple") (rTupK K) := by rw [← h]; exact call_tuple_of
def rLstK (K : PySem.W.Frag) : List V → Hp → VK → Prop := fun xs H Q => ∃ p ys, xs = [.ref p] ∧ (SqL K H p ys ∨ SqT K H p ys) ∧ ∀ l, H l = none → Q (.ref l) (upd H l (.lst ys))
theorem kcall_list (h : X.K = K) : CallR X (.type "list") (rLstK K) := by rw [← h]; exact call_list_of
theorem kpi_list {tg l : Expr} {tl : TE} (h : X.K = K) (hl : PE X l tl) : PI X tg l (iList K tl) := by rw [← h]; exact pi_list hl
theorem kpi_tup {tg l : Expr} {tl : TE} (h : X.K = K) (hl : PE X l tl) : PI X tg l (iTup K tl) := by rw [← h]; exact pi_tup hl
end
section
variable {K : PySem.W.Frag} {a b : Addr} {xs ys : List V}
theorem walk_enT : Walk (IteT K a) xs.length (fun H => SqT K H a xs) (YPair (fun i => some (.int (i : Nat))) (fun i => xs[i]?)) := by
  refine ⟨fun i _ hi q => ⟨xs, xs[i], q, List.getElem?_eq_getElem hi⟩, fun _ q => ⟨xs, q, Nat.le_refl _⟩, fun i H v H' _ q y => ?_⟩
  obtain ⟨T, x, h1, h2, h3, h4⟩ := y
  exact ⟨T, .int (i : Nat), x, h1, h2, h3, rfl, h4 xs q⟩
theorem walk_zipT {n : Nat} (hn : n = min xs.length ys.length) : Walk (RZ.ItzT K a b) n (fun H => SqT K H a xs ∧ SqT K H b ys) (YPair (fun i => xs[i]?) (fun i => ys[i]?)) := by
  subst hn
  refine ⟨fun i _ hi q => ?_, fun _ q => ⟨xs, ys, q.1, q.2, by omega⟩, fun i H v H' _ q y => ?_⟩
  · have h1 : i < xs.length := by omega
    have h2 : i < ys.length := by omega
    exact ⟨xs, ys, xs[i], ys[i], q.1, q.2, List.getElem?_eq_getElem h1, List.getElem?_eq_getElem h2⟩
  · obtain ⟨T, x, z, h1, h2, h3, h4, h5⟩ := y
    exact ⟨T, x, z, h1, h2, h3, h4 xs q.1, h5 ys q.2⟩
theorem YAt.fx {M : List Addr} {i : Nat} {H H' : Hp} {x : V} (y : YAt xs i H x H') : Fx M H H' := by rw [y.1]; exact .refl
theorem YFn.fx {M : List Addr} {f : Nat → V} {i : Nat} {H H' : Hp} {x : V} (y : YFn f i H x H') : Fx M H H' := by rw [y.1]; exact .refl
theorem YPair.fx {M : List Addr} {p q : Nat → Option V} {i : Nat} {H H' : Hp} {x : V} (y : YPair p q i H x H') : Fx M H H' := by
  obtain ⟨T, _, _, _, h, e, _⟩ := y
  rw [e]
  exact .new h
theorem YPair.tup {p q : Nat → Option V} {i : Nat} {H H' : Hp} {x : V} (y : YPair p q i H x H') : ∃ T u v, x = .ref T ∧ H' T = some (.tup [u, v]) ∧ p i = some u ∧ q i = some v := by
  obtain ⟨T, u, v, h1, h, e, h2, h3⟩ := y
  exact ⟨T, u, v, h1, by rw [e]; exact upd_same, h2, h3⟩
end
section
variable {J : It} {n : Nat} {G : Hp → Prop} {Y : Nat → Hp → V → Hp → Prop}
/-- what stands while a comprehension runs: R by the turn, what is made so far (it stands at D), the heap -/
def Pvl (R : Nat → List V → Hp → Prop) (D : Addr) (i : Nat) (H : Hp) : Prop := ∃ acc, acc.length ≤ i ∧ H D = some (.lst acc) ∧ R i acc H
def Put (R : Nat → List V → Hp → Prop) (D : Addr) (i : Nat) : VK := fun y H => ∃ acc, H D = some (.lst acc) ∧ acc.length < sizeLine ∧ Pvl R D i (upd H D (.lst (acc ++ [y])))
theorem Put.ok {R : Nat → List V → Hp → Prop} {D : Addr} {i : Nat} {y : V} {H : Hp} {acc : List V} (hl : acc.length ≤ i) (hi : i < 1000000) (hD : H D = some (.lst acc)) (r : R (i + 1) (acc ++ [y]) (upd H D (.lst (acc ++ [y])))) : Put R D (i + 1) y H :=
  ⟨acc, hD, Nat.lt_of_lt_of_le (show acc.length < 1000000 by omega) (by decide), acc ++ [y], by rw [List.length_append]; exact Nat.succ_le_succ hl, upd_same, r⟩
theorem Pvl.skip {R : Nat → List V → Hp → Prop} {D : Addr} {i : Nat} {H : Hp} {acc : List V} (hl : acc.length ≤ i) (hD : H D = some (.lst acc)) (r : R (i + 1) acc H) : Pvl R D (i + 1) H := ⟨acc, Nat.le_succ_of_le hl, hD, r⟩
theorem lc_rel (w : Walk J n G Y) {g : TG} {tt : TT} {te : TE} {vs : List Nat} {σ : L2.St} {H1 : Hp} {D : Addr} {Qd : Hp → Prop} (R : Nat → List V → Hp → Prop) (h0 : R 0 [] (upd H1 D (.lst []))) (hG : ∀ i acc H, R i acc H → G H)
    (hs : ∀ i acc x H H', i < n → acc.length ≤ i → H D = some (.lst acc) → R i acc H → Y i H x H' → g x (wipe σ vs) H' fun σ2 H2 => wipe σ2 vs = wipe σ vs ∧ tt σ2 H2 fun b H3 =>
      if b = true then te σ2 H3 (Put R D (i + 1)) else Pvl R D (i + 1) H3)
    (hd : ∀ acc H, acc.length ≤ n → H D = some (.lst acc) → R n acc H → Qd H) :
    ∃ W : Nat → Nat → Hp → Prop, (∃ m, W 0 m (upd H1 D (.lst []))) ∧ ∀ i m H, W i m H →
      (J.stop i H ∧ Qd H) ∨ (J.go i H ∧ ∃ Nx : Hp → Prop, (∀ H', Nx H' → ∃ m', m' < m ∧ W (i + 1) m' H') ∧ ∀ x H', J.yld i H x H' → g x (wipe σ vs) H' fun σ2 H2 => wipe σ2 vs = wipe σ vs ∧ tt σ2 H2 fun b H3 =>
        if b = true then te σ2 H3 fun y H4 => ∃ acc, H4 D = some (.lst acc) ∧ acc.length < sizeLine ∧ Nx (upd H4 D (.lst (acc ++ [y]))) else Nx H3) :=
  lc_it w (Pvl R D) ⟨[], Nat.le_refl _, upd_same, h0⟩ (fun i H _ ⟨acc, _, _, r⟩ => hG i acc H r) (fun i x H H' hi ⟨acc, hl, hD, r⟩ y => hs i acc x H H' hi hl hD r y) (fun H ⟨acc, hl, hD, r⟩ => hd acc H hl hD r)
/-- a comprehension without a test whose i-th item is f i, that leaves what stood -/
theorem lc_map (w : Walk J n G Y) {g : TG} {te : TE} {vs : List Nat} {σ : L2.St} {H1 : Hp} {D : Addr} {Qd : Hp → Prop} (f : Nat → V) (hn : n < 1000000) (hD : H1 D = none) (hG : ∀ H, Fx [] H1 H → G H) (hY : ∀ i H x H', Y i H x H' → Fx [] H H')
    (hs : ∀ i x H H' (Qe : VK) (Z : Hp → Prop), i < n → Fx [] H1 H → Y i H x H' → (∀ H4, Fx [] H' H4 → Qe (f i) H4) → g x (wipe σ vs) H' fun σ2 H2 => wipe σ2 vs = wipe σ vs ∧ (if true = true then te σ2 H2 Qe else Z H2))
    (hd : ∀ H, Fx [] H1 H → H D = some (.lst ((List.range n).map f)) → Qd H) :
    ∃ W : Nat → Nat → Hp → Prop, (∃ m, W 0 m (upd H1 D (.lst []))) ∧ ∀ i m H, W i m H →
      (J.stop i H ∧ Qd H) ∨ (J.go i H ∧ ∃ Nx : Hp → Prop, (∀ H', Nx H' → ∃ m', m' < m ∧ W (i + 1) m' H') ∧ ∀ x H', J.yld i H x H' → g x (wipe σ vs) H' fun σ2 H2 => wipe σ2 vs = wipe σ vs ∧ tYes σ2 H2 fun b H3 =>
        if b = true then te σ2 H3 fun y H4 => ∃ acc, H4 D = some (.lst acc) ∧ acc.length < sizeLine ∧ Nx (upd H4 D (.lst (acc ++ [y]))) else Nx H3) :=
  lc_rel w (fun i acc H => Fx [] H1 H ∧ acc = (List.range i).map f) ⟨Fx.new hD, rfl⟩ (fun i acc H r => hG H r.1) (fun i acc x H H' hi hl hDa r y =>
    hs i x H H' _ (Pvl (fun i acc H => Fx [] H1 H ∧ acc = (List.range i).map f) D (i + 1)) hi r.1 y fun H4 k => by
      have k2 := (r.1.trans (hY i H x H' y)).trans k
      have hD4 : H4 D = some (.lst acc) := k.to ((hY i H x H' y).to hDa fun m => nomatch m) fun m => nomatch m
      exact Put.ok hl (by omega) hD4 ⟨k2.loc hD (Chg.lst hD4), by rw [r.2, List.range_succ, List.map_append]; rfl⟩)
    (fun acc H _ hDa r => hd H r.1 (by rw [hDa, r.2]))
end
end Mh
/-! MhOrd -/
namespace Mh
open PySem PySem.Spec PyProof.Rows L2
/-! ### orders: just one sorted arrangement -/
theorem perm_uniq {α : Type} {R : α → α → Prop} (anti : ∀ x y, R x y → R y x → x = y) : ∀ {l m : List α}, l.Pairwise R → m.Pairwise R → l.Perm m → l = m
  | [], m, _, _, h => (List.Perm.eq_nil h.symm).symm
  | x :: l, [], _, _, h => absurd h.length_eq (by simp)
  | x :: l, y :: m, hl, hm, h => by
    have e : x = y := by
      rcases List.mem_cons.mp (h.mem_iff.mp (List.mem_cons_self (a := x) (l := l))) with e | hx
      · exact e
      · rcases List.mem_cons.mp (h.mem_iff.mpr (List.mem_cons_self (a := y) (l := m))) with e | hy
        · exact e.symm
        · exact anti x y ((List.pairwise_cons.mp hl).1 y hy) ((List.pairwise_cons.mp hm).1 x hx)
    subst e
    rw [perm_uniq anti (List.pairwise_cons.mp hl).2 (List.pairwise_cons.mp hm).2 h.cons_inv]
def leS (x y : Str) : Bool := !ltCps y.cps.toList x.cps.toList
theorem leS_iff {x y : Str} : leS x y = true ↔ x.cps.toList ≤ y.cps.toList := by
  unfold leS
  rw [ltCps_eq]
  simp only [Bool.not_eq_true', decide_eq_false_iff_not, List.not_lt]
theorem leS_trans (x y z : Str) (h1 : leS x y = true) (h2 : leS y z = true) : leS x z = true := leS_iff.mpr (List.le_trans (leS_iff.mp h1) (leS_iff.mp h2))
theorem leS_total (x y : Str) : (leS x y || leS y x) = true := by
  rw [Bool.or_eq_true, leS_iff, leS_iff]
  exact List.le_total _ _
theorem leS_anti (x y : Str) (h1 : leS x y = true) (h2 : leS y x = true) : x = y := by
  have e := List.le_antisymm (leS_iff.mp h1) (leS_iff.mp h2)
  cases x
  cases y
  simp only at e
  rw [Array.toList_inj.mp e]
def sortS (xs : List Str) : List Str := xs.mergeSort leS
theorem sortS_perm (xs : List Str) : (sortS xs).Perm xs := List.mergeSort_perm _ _
theorem sortS_pw (xs : List Str) : (sortS xs).Pairwise (fun x y => leS x y = true) := List.pairwise_mergeSort leS_trans leS_total xs
theorem risingS_pw : ∀ {r : List Str} {p : Str}, risingS p r = true → (p :: r).Pairwise fun x y => leS x y = true
  | [], p, _ => List.pairwise_singleton _ _
  | x :: r, p, h => by
    obtain ⟨h1, h2⟩ := Bool.and_eq_true_iff.mp (show (leS p x && risingS x r) = true from h)
    have ih := risingS_pw h2
    refine List.pairwise_cons.mpr ⟨fun y hy => ?_, ih⟩
    rcases List.mem_cons.mp hy with e | hy
    · rw [e]; exact h1
    · exact leS_trans p x y h1 ((List.pairwise_cons.mp ih).1 y hy)
theorem sortedS_pw {xs : List Str} (h : sortedS xs = true) : xs.Pairwise fun x y => leS x y = true := by
  cases xs with
  | nil => exact List.Pairwise.nil
  | cons x r => exact risingS_pw h
theorem sortS_uniq {ys xs : List Str} (h1 : ys.Perm xs) (h2 : sortedS ys = true) : ys = sortS xs :=
  perm_uniq leS_anti (sortedS_pw h2) (sortS_pw xs) (h1.trans (sortS_perm xs).symm)
theorem sortS_mem {xs : List Str} {x : Str} : x ∈ sortS xs ↔ x ∈ xs := (sortS_perm xs).mem_iff
theorem sortS_len (xs : List Str) : (sortS xs).length = xs.length := (sortS_perm xs).length_eq
theorem sortS_nodup {xs : List Str} (h : xs.Nodup) : (sortS xs).Nodup := (sortS_perm xs).nodup_iff.mpr h
theorem sortS_congr {xs ys : List Str} (h : xs.Perm ys) : sortS xs = sortS ys :=
  perm_uniq leS_anti (sortS_pw xs) (sortS_pw ys) ((sortS_perm xs).trans (h.trans (sortS_perm ys).symm))

/-! ### rows by a number, then a text -/
def leK (p q : Int × Str) : Bool := if p.1 = q.1 then leS p.2 q.2 else decide (p.1 < q.1)
theorem leK_trans (x y z : Int × Str) (h1 : leK x y = true) (h2 : leK y z = true) : leK x z = true := by
  unfold leK at *
  split at h1
  · rename_i e1
    split at h2
    · rename_i e2
      rw [if_pos (e1.trans e2)]
      exact leS_trans _ _ _ h1 h2
    · rename_i e2
      have h3 := of_decide_eq_true h2
      rw [if_neg (by omega)]
      exact decide_eq_true (by omega)
  · rename_i e1
    have h4 := of_decide_eq_true h1
    split at h2
    · rename_i e2
      rw [if_neg (by omega)]
      exact decide_eq_true (by omega)
    · have h3 := of_decide_eq_true h2
      rw [if_neg (by omega)]
      exact decide_eq_true (by omega)
theorem leK_total (x y : Int × Str) : (leK x y || leK y x) = true := by
  unfold leK
  by_cases e : x.1 = y.1
  · rw [if_pos e, if_pos e.symm]
    exact leS_total _ _
  · rw [if_neg e, if_neg fun z => e z.symm, Bool.or_eq_true, decide_eq_true_iff, decide_eq_true_iff]
    omega
theorem leK_anti (x y : Int × Str) (h1 : leK x y = true) (h2 : leK y x = true) : x = y := by
  unfold leK at *
  by_cases e : x.1 = y.1
  · rw [if_pos e] at h1
    rw [if_pos e.symm] at h2
    exact Prod.ext e (leS_anti _ _ h1 h2)
  · rw [if_neg e] at h1
    rw [if_neg fun z => e z.symm] at h2
    have := of_decide_eq_true h1
    have := of_decide_eq_true h2
    omega
end Mh
/-! MhPin -/
namespace Mh
open PySem PySem.Spec PyProof.Rows L2
/-! ### objects pinned: known to the object, whatever is called -/
def pinO (o : Obj) : HO := .frz o (.ext fun _ => True)
abbrev Pins := List (Addr × Obj)
def addP (ps : Pins) (H : Hp) : Hp := fun a => match ps.lookup a with
  | some o => some (pinO o)
  | none => H a
def delP (ps : Pins) (H : Hp) : Hp := fun a => match ps.lookup a with
  | some _ => none
  | none => H a
section
variable {P : Program} {w : World} {K : PySem.W.Frag} {mg : Str → Option Value} {base : Heap} {A : Around} {outer : List Env} {s s' : Shared} {H H' H0 : Hp} {ps : Pins} {h : Heap} {a : Addr} {o : Obj}
theorem addP_in (e : ps.lookup a = some o) : addP ps H a = some (pinO o) := by unfold addP; rw [e]
theorem addP_out (e : ps.lookup a = none) : addP ps H a = H a := by unfold addP; rw [e]
theorem delP_in (e : ps.lookup a = some o) : delP ps H a = none := by unfold delP; rw [e]
theorem delP_out (e : ps.lookup a = none) : delP ps H a = H a := by unfold delP; rw [e]
theorem pin_ok (e : h.get? a = some o) : ObjOk P w H h a (pinO o) := ⟨e, trivial, ⟨_, e⟩, fun _ _ _ _ => trivial⟩
theorem pin_at (hok : HOk P w H h) (e : H a = some (pinO o)) : h.get? a = some o := (hok a _ e).1
theorem pinO_inj {o o' : Obj} (e : some (pinO o) = some (pinO o')) : o = o' := by
  have := Option.some.inj e
  unfold pinO at this
  injection this
/-- pins that may be laid on: nothing else is told of them -/
def Free (H : Hp) (ps : Pins) : Prop := ∀ a o, ps.lookup a = some o → H a = none
/-- pins that lie -/
def Lie (H : Hp) (ps : Pins) : Prop := ∀ a o, ps.lookup a = some o → H a = some (pinO o)
theorem Lie.add : Lie (addP ps H) ps := fun _ _ e => addP_in e
theorem Lie.fx {M : List Addr} (l : Lie H ps) (f : Fx M H H') : Lie H' ps := fun a o e => f.z _ _ _ (l a o e)
theorem Fx.add {M : List Addr} (n : Free H ps) : Fx M H (addP ps H) := by
  have key : ∀ {a : Addr} {u : HO}, H a = some u → ps.lookup a = none := fun {a u} e => by
    cases q : ps.lookup a with
    | none => rfl
    | some o => rw [n a o q] at e; cases e
  refine ⟨fun a u e _ => by rw [addP_out (key e)]; exact e, fun a u e => by rw [addP_out (key e)]; exact e, fun a u v e => by rw [addP_out (key e)]; exact e, fun a e => ?_⟩
  cases q : ps.lookup a with
  | none => rwa [addP_out q] at e
  | some o => rw [addP_in q] at e; cases e
/-- taken off again -/
theorem Fx.off {M : List Addr} (n : Free H ps) (f : Fx M (addP ps H) H') : Fx M H (delP ps H') := by
  have key : ∀ {a : Addr} {u : HO}, H a = some u → ps.lookup a = none := fun {a u} e => by
    cases q : ps.lookup a with
    | none => rfl
    | some o => rw [n a o q] at e; cases e
  refine ⟨fun a u e m => by rw [delP_out (key e)]; exact f.k _ _ (by rw [addP_out (key e)]; exact e) m, fun a u e => by rw [delP_out (key e)]; exact f.t _ _ (by rw [addP_out (key e)]; exact e), fun a u v e => by rw [delP_out (key e)]; exact f.z _ _ _ (by rw [addP_out (key e)]; exact e), fun a e => ?_⟩
  cases q : ps.lookup a with
  | none =>
    rw [delP_out q] at e
    have := f.d _ e
    rwa [addP_out q] at this
  | some o => exact n a o q
/-- hidden for a while, then laid on again -/
theorem Fx.back {M : List Addr} (l : Lie H ps) (f : Fx M (delP ps H) H') : Fx M H (addP ps H') := by
  refine ⟨fun a u e m => ?_, fun a u e => ?_, fun a u v e => ?_, fun a e => ?_⟩
  · cases q : ps.lookup a with
    | none => rw [addP_out q]; exact f.k _ _ (by rw [delP_out q]; exact e) m
    | some o => rw [addP_in q, ← l a o q]; exact e
  · cases q : ps.lookup a with
    | none => rw [addP_out q]; exact f.t _ _ (by rw [delP_out q]; exact e)
    | some o => rw [addP_in q, ← l a o q]; exact e
  · cases q : ps.lookup a with
    | none => rw [addP_out q]; exact f.z _ _ _ (by rw [delP_out q]; exact e)
    | some o => rw [addP_in q, ← l a o q]; exact e
  · cases q : ps.lookup a with
    | none =>
      rw [addP_out q] at e
      have := f.d _ e
      rwa [delP_out q] at this
    | some o => rw [addP_in q] at e; cases e
theorem off_on (n : Free H ps) : delP ps (addP ps H) = H := by
  funext a
  cases q : ps.lookup a with
  | none => rw [delP_out q, addP_out q]
  | some o => rw [delP_in q, n a o q]
theorem Free.del : Free (delP ps H) ps := fun _ _ e => delP_in e
/-! ### calls with pins laid on, hidden -/
theorem hok_add (n : Free H ps) (hok : HOk P w H h) (hg : ∀ a o, ps.lookup a = some o → h.get? a = some o) : HOk P w (addP ps H) h := fun b u e => by
  cases q : ps.lookup b with
  | some o =>
    rw [addP_in q] at e
    cases e
    exact pin_ok (hg b o q)
  | none =>
    rw [addP_out q] at e
    have key : ∀ {c : Addr} {u : HO}, H c = some u → addP ps H c = some u := fun {c u} e => by
      cases q : ps.lookup c with
      | none => rw [addP_out q]; exact e
      | some o => rw [n c o q] at e; cases e
    exact (hok b u e).stay (fun _ _ _ z => z) (fun _ z => key z) fun _ _ z => key z
theorem hok_del (l : Lie H ps) (hok : HOk P w H h) : HOk P w (delP ps H) h := fun b u e => by
  cases q : ps.lookup b with
  | some o => rw [delP_in q] at e; cases e
  | none =>
    rw [delP_out q] at e
    have key : ∀ {c : Addr} {u : HO}, H c = some u → (∀ o, u ≠ pinO o) → delP ps H c = some u := fun {c u} e ne => by
      cases q : ps.lookup c with
      | none => rw [delP_out q]; exact e
      | some o =>
        rw [l c o q] at e
        exact absurd (Option.some.inj e).symm (ne o)
    exact (hok b u e).stay (fun _ _ _ z => z) (fun _ z => key z fun o x => by unfold pinO at x; cases x) fun _ _ z => key z fun o x => by unfold pinO at x; cases x
/-- pins over a state of a call -/
structure PinsAt (base : Heap) (outer : List Env) (h : Heap) (ps : Pins) : Prop where
  g : ∀ a o, ps.lookup a = some o → h.get? a = some o
  f : ∀ a o, ps.lookup a = some o → a ∉ frs outer
  b : ∀ a o, ps.lookup a = some o → base.get? a = none
theorem Env0.addP (e0 : Env0 P w K mg base A outer s H) (n : Free H ps) (p : PinsAt base outer s.heap ps) : Env0 P w K mg base A outer s (addP ps H) := by
  refine ⟨e0.frames, e0.mod, fun b o e => ⟨(e0.bs b o e).1, ?_⟩, e0.bsz, e0.funs, fun b hb => ?_, hok_add n e0.hok p.g, e0.bare⟩
  · cases q : ps.lookup b with
    | none => rw [addP_out q]; exact (e0.bs b o e).2
    | some u => rw [p.b b u q] at e; cases e
  · cases q : ps.lookup b with
    | none => rw [addP_out q]; exact e0.frf b hb
    | some u => exact absurd hb (p.f b u q)
theorem Env0.delP (e0 : Env0 P w K mg base A outer s H) (l : Lie H ps) : Env0 P w K mg base A outer s (delP ps H) := by
  have key : ∀ {b : Addr}, H b = none → Mh.delP ps H b = none := fun {b} e => by
    cases q : ps.lookup b with
    | none => rw [delP_out q]; exact e
    | some u => exact delP_in q
  exact ⟨e0.frames, e0.mod, fun b o e => ⟨(e0.bs b o e).1, key (e0.bs b o e).2⟩, e0.bsz, e0.funs, fun b hb => key (e0.frf b hb), hok_del l e0.hok, e0.bare⟩
theorem ce_off {Q : VK} {u : Value} (n : Free H ps) (hg : ∀ a o, ps.lookup a = some o → s.heap.get? a = some o ∧ a ∉ frs outer) (h : CE outer P w (Mh.addP ps H) s (fun v H' => Q v (Mh.delP ps H')) u s') : CE outer P w H s Q u s' := by
  obtain ⟨v, H', os, bare, un, hok, rv, q⟩ := h
  have l : Lie H' ps := fun a o e => un.frzs _ _ _ (Lie.add a o e)
  have ou : ∀ {b : Addr} {u : HO}, H b = some u → ps.lookup b = none := fun {b u} e => by
    cases q : ps.lookup b with
    | none => rfl
    | some o => rw [n b o q] at e; cases e
  refine ⟨v, _, os, bare, ⟨fun b o e z hf hx => ?_, fun b o e z hf hx => ?_, fun b o e z hx => ?_, un.there, fun b xs e => ?_, fun b o u e => ?_, fun b p e => ?_⟩, hok_del l hok, rv, q⟩
  · cases k : ps.lookup b with
    | none => exact un.keep b o e (by rw [addP_out k]; exact z) hf hx
    | some oo =>
      have e1 := (hg b oo k).1
      rw [e] at e1
      cases e1
      exact pin_at hok (l b _ k)
  · cases k : ps.lookup b with
    | none => exact un.slot b o e (by rw [addP_out k]; exact z) hf hx
    | some oo => exact absurd hf (hg b oo k).2
  · cases k : ps.lookup b with
    | none => rw [delP_out k]; exact un.free b o e (by rw [addP_out k]; exact z) hx
    | some oo => exact delP_in k
  · rw [delP_out (ou e)]; exact un.tups b xs (by rw [addP_out (ou e)]; exact e)
  · rw [delP_out (ou e)]; exact un.frzs b o u (by rw [addP_out (ou e)]; exact e)
  · obtain ⟨more, z⟩ := un.tbls b p (by rw [addP_out (ou e)]; exact e)
    exact ⟨more, by rw [delP_out (ou e)]; exact z⟩
theorem ce_on {Q : VK} {u : Value} (l : Lie H ps) (hok0 : HOk P w H s.heap) (hf : ∀ a o, ps.lookup a = some o → a ∉ frs outer) (h : CE outer P w (Mh.delP ps H) s (fun v H' => Free H' ps → Q v (Mh.addP ps H')) u s') : CE outer P w H s Q u s' := by
  obtain ⟨v, H', os, bare, un, hok, rv, q⟩ := h
  have hg : ∀ a o, ps.lookup a = some o → s.heap.get? a = some o := fun a o e => pin_at hok0 (l a o e)
  have ou : ∀ {b : Addr}, H b = none → ps.lookup b = none := fun {b} e => by
    cases q : ps.lookup b with
    | none => rfl
    | some o => rw [l b o q] at e; cases e
  have n' : Free H' ps := fun a o e => un.free a o (hg a o e) (delP_in e) (fun z => nomatch z)
  have g' : ∀ a o, ps.lookup a = some o → s'.heap.get? a = some o := fun a o e => un.keep a o (hg a o e) (delP_in e) (hf a o e) (fun z => nomatch z)
  have np : ∀ {b : Addr} {u : HO}, H b = some u → (∀ o, u ≠ pinO o) → ps.lookup b = none := fun {b u} e ne => by
    cases q : ps.lookup b with
    | none => rfl
    | some o => rw [l b o q] at e; exact absurd (Option.some.inj e).symm (ne o)
  refine ⟨v, _, os, bare, ⟨fun b o e z hf hx => un.keep b o e (by rw [delP_out (ou z)]; exact z) hf hx, fun b o e z hf hx => un.slot b o e (by rw [delP_out (ou z)]; exact z) hf hx, fun b o e z hx => ?_, un.there, fun b xs e => ?_, fun b o u e => ?_, fun b p e => ?_⟩, hok_add n' hok g', rv, q n'⟩
  · rw [addP_out (ou z)]; exact un.free b o e (by rw [delP_out (ou z)]; exact z) hx
  · have k := np e fun o x => by unfold pinO at x; cases x
    rw [addP_out k]; exact un.tups b xs (by rw [delP_out k]; exact e)
  · cases k : ps.lookup b with
    | none => rw [addP_out k]; exact un.frzs b o u (by rw [delP_out k]; exact e)
    | some oo => rw [addP_in k, ← l b oo k]; exact e
  · have k := np e fun o x => by unfold pinO at x; cases x
    obtain ⟨more, z⟩ := un.tbls b p (by rw [delP_out k]; exact e)
    exact ⟨more, by rw [addP_out k]; exact z⟩
theorem cx_off {E : XK} {u : Value} (n : Free H ps) (hg : ∀ a o, ps.lookup a = some o → s.heap.get? a = some o ∧ a ∉ frs outer) (h : L2.CX P w outer (Mh.addP ps H) s (fun c d H' => E c d (Mh.delP ps H')) u s') : L2.CX P w outer H s E u s' := by
  obtain ⟨a, B, H', cls, d, eu, fly, hok, ub, na, os, ag, q⟩ := h
  have l : Lie H' ps := fun a o e => ub.frzs _ _ _ (Lie.add a o e)
  have ou : ∀ {b : Addr} {u : HO}, H b = some u → ps.lookup b = none := fun {b u} e => by
    cases q : ps.lookup b with
    | none => rfl
    | some o => rw [n b o q] at e; cases e
  refine ⟨a, B, _, cls, d, eu, fly, hok_del l hok, ⟨fun b o e z hf => ?_, ub.slot, fun b o e z => ?_, ub.there, fun b xs e => ?_, fun b o u e => ?_, fun b p e => ?_⟩, ?_, os, ag, q⟩
  · cases k : ps.lookup b with
    | none => exact ub.keep b o e (by rw [addP_out k]; exact z) hf
    | some oo =>
      have e1 := (hg b oo k).1
      rw [e] at e1
      cases e1
      exact pin_at hok (l b _ k)
  · cases k : ps.lookup b with
    | none => rw [delP_out k]; exact ub.free b o e (by rw [addP_out k]; exact z)
    | some oo => exact delP_in k
  · rw [delP_out (ou e)]; exact ub.tups b xs (by rw [addP_out (ou e)]; exact e)
  · rw [delP_out (ou e)]; exact ub.frzs b o u (by rw [addP_out (ou e)]; exact e)
  · obtain ⟨more, z⟩ := ub.tbls b p (by rw [addP_out (ou e)]; exact e)
    exact ⟨more, by rw [delP_out (ou e)]; exact z⟩
  · cases k : ps.lookup a with
    | none => rw [delP_out k]; exact na
    | some oo => exact delP_in k
theorem cx_on {E : XK} {u : Value} (l : Lie H ps) (hok0 : HOk P w H s.heap) (hf : ∀ a o, ps.lookup a = some o → a ∉ frs outer) (h : L2.CX P w outer (Mh.delP ps H) s (fun c d H' => Free H' ps → E c d (Mh.addP ps H')) u s') : L2.CX P w outer H s E u s' := by
  obtain ⟨a, B, H', cls, d, eu, fly, hok, ub, na, os, ag, q⟩ := h
  have hg : ∀ a o, ps.lookup a = some o → s.heap.get? a = some o := fun a o e => pin_at hok0 (l a o e)
  have ou : ∀ {b : Addr}, H b = none → ps.lookup b = none := fun {b} e => by
    cases q : ps.lookup b with
    | none => rfl
    | some o => rw [l b o q] at e; cases e
  have n' : Free H' ps := fun a o e => ub.free a o (hg a o e) (delP_in e)
  have g' : ∀ a o, ps.lookup a = some o → B.get? a = some o := fun a o e => ub.keep a o (hg a o e) (delP_in e) (hf a o e)
  have np : ∀ {b : Addr} {u : HO}, H b = some u → (∀ o, u ≠ pinO o) → ps.lookup b = none := fun {b u} e ne => by
    cases q : ps.lookup b with
    | none => rfl
    | some o => rw [l b o q] at e; exact absurd (Option.some.inj e).symm (ne o)
  have ha : ps.lookup a = none := by
    cases k : ps.lookup a with
    | none => rfl
    | some oo =>
      have e1 := g' a oo k
      rw [fly.2.1] at e1
      cases e1
  refine ⟨a, B, _, cls, d, eu, fly, hok_add n' hok g', ⟨fun b o e z hf => ub.keep b o e (by rw [delP_out (ou z)]; exact z) hf, ub.slot, fun b o e z => ?_, ub.there, fun b xs e => ?_, fun b o u e => ?_, fun b p e => ?_⟩, by rw [addP_out ha]; exact na, os, ag, q n'⟩
  · rw [addP_out (ou z)]; exact ub.free b o e (by rw [delP_out (ou z)]; exact z)
  · have k := np e fun o x => by unfold pinO at x; cases x
    rw [addP_out k]; exact ub.tups b xs (by rw [delP_out k]; exact e)
  · cases k : ps.lookup b with
    | none => rw [addP_out k]; exact ub.frzs b o u (by rw [delP_out k]; exact e)
    | some oo => rw [addP_in k, ← l b oo k]; exact e
  · have k := np e fun o x => by unfold pinO at x; cases x
    obtain ⟨more, z⟩ := ub.tbls b p (by rw [delP_out k]; exact e)
    exact ⟨more, by rw [addP_out k]; exact z⟩
end
end Mh
/-! MhExc -/
namespace Mh
open PySem PySem.Spec PyProof.Rows L2 PySem.HandSPX
/-! ### the program's own refusals, as the top leaves them -/
def EXS : List Str := ["BadQuestion", "BadSeed", "BadName", "TooMany", "Taken", "NoMachine", "NoTask", "BadScore", "NoRun", "NotRanked", "BadShare", "NotAhead", "NoPage", "BadMachine", "BadText", "BadTask", "BadDeed"]
abbrev xC (K : PySem.W.Frag) (x : Str) : Value := .ref (He.ga K x)
structure ExK (K : PySem.W.Frag) (mg : Str → Option Value) (x : Str) : Prop where
  g : mg x = some (xC K x)
  c : ExcC K (He.ga K x)
  kp : PySem.W.keepIn K (xC K x) = true
  ty : PySem.W.typeIn K (xC K x) = some (.type "type")
  he : PySem.W.exmOne K (xC K x) (xC K "HallError") = some true
  ve : PySem.W.kitOne K (xC K x) (.type "ValueError") = some true
  ki : ∀ y ∈ EXS, PySem.W.kitOne K (xC K x) (xC K y) = some (decide (x = y))
def exB (K : PySem.W.Frag) (x : Str) : Bool :=
  decide (PySem.W.findIn K (xC K x) "__getattribute__" = some (some (.builtin "BaseException.__getattribute__"))) && (decide (PySem.W.findIn K (xC K x) "__getattr__" = some none) && (decide (PySem.W.subIn K (xC K x) (.type "BaseException") = some true) && (PySem.W.hasDictIn K (He.ga K x) &&
  (decide (PySem.W.findIn K (xC K x) "__class__" = some (some (.builtin "object.__class__"))) && (decide (PySem.W.specialIn K (.builtin "object.__class__") "__get__" = some (some (.builtin "getset_descriptor.__get__"))) && (decide (PySem.W.takesIn K (.builtin "object.__class__") = some true) && (decide (PySem.W.mroIn K (He.ga K x) (.type "object") = some true) &&
  (PySem.W.keepIn K (xC K x) && (decide (PySem.W.typeIn K (xC K x) = some (.type "type")) && (decide (PySem.W.exmOne K (xC K x) (xC K "HallError") = some true) && (decide (PySem.W.kitOne K (xC K x) (.type "ValueError") = some true) &&
  EXS.all fun y => decide (PySem.W.kitOne K (xC K x) (xC K y) = some (decide (x = y))))))))))))))
theorem exB_ok {K : PySem.W.Frag} {mg : Str → Option Value} {x : Str} (g : mg x = some (xC K x)) (h : exB K x = true) : ExK K mg x := by
  unfold exB at h
  simp only [Bool.and_eq_true, decide_eq_true_eq, List.all_eq_true] at h
  obtain ⟨h1, h2, h3, h4, h5, h6, h7, h8, h9, h10, h11, h12, h13⟩ := h
  exact ⟨g, ⟨h1, h2, h3, h4, h5, h6, h7, h8⟩, h9, h10, h11, h12, h13⟩
/-- .. made with a text -/
structure ExT (K : PySem.W.Frag) (mg : Str → Option Value) (x : Str) : Prop extends ExK K mg x where
  i : PySem.W.excIn K (He.ga K x) veTail "ValueError.__new__" = true
def exTB (K : PySem.W.Frag) (x : Str) : Bool := exB K x && PySem.W.excIn K (He.ga K x) veTail "ValueError.__new__"
theorem exTB_ok {K : PySem.W.Frag} {mg : Str → Option Value} {x : Str} (g : mg x = some (xC K x)) (h : exTB K x = true) : ExT K mg x := by
  obtain ⟨h1, h2⟩ := Bool.and_eq_true_iff.mp h
  exact ⟨exB_ok g h1, h2⟩
/-- .. made with a number, kept as f -/
structure ExN (K : PySem.W.Frag) (mg : Str → Option Value) (x f : Str) : Prop extends ExK K mg x where
  o : OexC K (He.ga K x)
  n : PySem.W.findIn K (xC K x) f = some none
  iC : PySem.W.findIn K (xC K x) "__init__" = some (some (.ref (He.ma K (He.ga K x) "__init__")))
  tI : PySem.W.typeIn K (.ref (He.ma K (He.ga K x) "__init__")) = some (.type "function")
def oexB (K : PySem.W.Frag) (C : Addr) : Bool := match K.lookup C with
  | some ⟨.type t, _, .cls cd, sl⟩ => (match cd.mro, sl.toList with
    | .ref C' :: bm, [_, _, _, _, some (.builtin n), _] => decide (t = "type") && (decide (C' = C) && (decide (n = "ValueError.__new__") && (!cd.hasDel && (cd.hasDict && refsVE bm))))
    | _, _ => false)
  | _ => false
theorem oexB_ok {K : PySem.W.Frag} {C : Addr} (q : oexB K C = true) : ∃ nm q N bs bm sn sub ab col dd k0 k1 k2 k3 k5, K.lookup C = some (excClassObj nm q C N bs bm true sn sub ab col dd k0 k1 k2 k3 k5 "ValueError.__new__") ∧ refsVE bm = true := by
  unfold oexB at q
  split at q
  · rename_i t dd cd sl ho
    split at q
    · rename_i C' bm k0 k1 k2 k3 n k5 hm hs
      simp only [Bool.and_eq_true, decide_eq_true_eq, Bool.not_eq_true'] at q
      obtain ⟨rfl, rfl, rfl, hdel, hd, hb⟩ := q
      obtain ⟨nm, bs, mro, ns, qn, hdct, sn, sub, ab, col, del⟩ := cd
      dsimp only at hm hdel hd
      subst hm hdel hd
      have hsl : sl = #[k0, k1, k2, k3, some (.builtin "ValueError.__new__"), k5] := by
        obtain ⟨l⟩ := sl
        simp only at hs
        rw [hs]
      subst hsl
      exact ⟨nm, qn, ns, bs, bm, sn, sub, ab, col, dd, k0, k1, k2, k3, k5, ho, hb⟩
    · cases q
  · cases q
def exNB (K : PySem.W.Frag) (x f : Str) : Bool := exB K x && (oexB K (He.ga K x) && (decide (PySem.W.findIn K (xC K x) "__setattr__" = some (some (.builtin "object.__setattr__"))) && (decide (PySem.W.findIn K (xC K x) f = some none) &&
  (decide (PySem.W.findIn K (xC K x) "__init__" = some (some (.ref (He.ma K (He.ga K x) "__init__")))) && decide (PySem.W.typeIn K (.ref (He.ma K (He.ga K x) "__init__")) = some (.type "function"))))))
theorem exNB_ok {K : PySem.W.Frag} {mg : Str → Option Value} {x f : Str} (g : mg x = some (xC K x)) (h : exNB K x f = true) : ExN K mg x f := by
  unfold exNB at h
  simp only [Bool.and_eq_true, decide_eq_true_eq] at h
  obtain ⟨h1, h2, h3, h4, h5, h6⟩ := h
  have k := exB_ok g h1
  exact ⟨k, ⟨oexB_ok h2, h3, k.c.hs, k.ty, k.kp⟩, h4, h5, h6⟩
/-- the parent, whose __init__ is asked by name -/
structure ExH (K : PySem.W.Frag) (mg : Str → Option Value) : Prop where
  g : mg "HallError" = some (xC K "HallError")
  s : PySem.W.specialIn K (xC K "HallError") "__getattribute__" = some (some (.builtin "type.__getattribute__"))
  r : PySem.W.readsIn K (He.ga K "HallError") (.type "type") = true
  t : PySem.W.typeIn K (xC K "HallError") = some (.type "type")
  f : PySem.W.findCls K (xC K "HallError") (.type "type") "__init__" = some (.val (.builtin "ValueError.__init__"))
def isValB : Option PySem.W.CFound → Bool
  | some (.val (.builtin z)) => decide (z = "ValueError.__init__")
  | _ => false
theorem isValB_ok : ∀ {o : Option PySem.W.CFound}, isValB o = true → o = some (.val (.builtin "ValueError.__init__")) := fun {o} h => by
  unfold isValB at h
  split at h
  · rw [of_decide_eq_true h]
  · cases h
def exHB (K : PySem.W.Frag) : Bool := decide (PySem.W.specialIn K (xC K "HallError") "__getattribute__" = some (some (.builtin "type.__getattribute__"))) && (PySem.W.readsIn K (He.ga K "HallError") (.type "type") && (decide (PySem.W.typeIn K (xC K "HallError") = some (.type "type")) &&
  isValB (PySem.W.findCls K (xC K "HallError") (.type "type") "__init__")))
theorem exHB_ok {K : PySem.W.Frag} {mg : Str → Option Value} (g : mg "HallError" = some (xC K "HallError")) (h : exHB K = true) : ExH K mg := by
  unfold exHB at h
  simp only [Bool.and_eq_true, decide_eq_true_eq] at h
  obtain ⟨h1, h2, h3, h4⟩ := h
  exact ⟨g, h1, h2, h3, isValB_ok h4⟩
section
variable {X : Cx} {x f : Str} {p p1 p2 pos : Pos} {e : Expr} {es : List Expr} {ta : TA}
/-- raise X("..") -/
theorem pmk_txt {m : Str} {j : Nat} (F : ExT X.K X.mg x) (hg : Gl X x := by rfl) (hdb : (x == ("__debug__" : Str)) = false := by decide) : PMk X (.Call (.Name x p) [.Constant (.str m) j p2] [] pos) (fun _ H Q => Q (xC X.K x) none H) :=
  pmk_own PySem.F.excBase_ValueError F.i F.g F.kp (raises_own F.c.hs F.ty) hg hdb
/-- HallError.__init__(self, ..) -/
theorem pe_hinit {pl : Sem Bool} (F : ExH X.K X.mg) (ha : PA X (e :: es) ta) (hg : Gl X "HallError" := by rfl)
    (hc : eval (.Call (.Attribute (.Name "HallError" p1) "__init__" p2) (e :: es) [] pos) X.env = (do
      let ov ← eval (.Name "HallError" p1) X.env
      standAt p2.atName
      let (f, first) ← holding [ov] (getMethod ov "__init__" pl)
      callWith pos f first (backTo pos (starEach (e :: es) X.env)) (backToKw pos (keywordEach [] X.env))) := by rfl)
    (he : starEach (e :: es) X.env = (false, eval e X.env) :: starEach es X.env := by rfl) (hpl : (backTo pos (starEach es X.env)).any (·.1) = false := by rfl) :
    PE X (.Call (.Attribute (.Name "HallError" p1) "__init__" p2) (e :: es) [] pos) (tVeI X.K ta) := by
  refine ⟨fun pins s σ H Q I h => ?_⟩
  refine PySem.W.methodCall_KW (ld_glob I hg F.g ?_ (by decide)) hc
  obtain ⟨m, fr⟩ := I.fr
  refine PySem.W.method_of_cls fr I.ok.mod.kin F.s (PySem.W.cls_val fr I.ok.mod.kin F.t F.r F.f (by decide +kernel) ?_)
  show wpAny _ _ (callWith pos (Value.builtin "ValueError.__init__") [] (backTo pos (starEach (e :: es) X.env)) []) _ _ _
  refine PyProof.Rows.callWith_method1 (thn (ha.run pos pins _ σ H _ (I.tok _) h) fun us s1 ⟨vs, H1, I1, r1, a, C, ws, ev, hl, T, ea, q⟩ => ?_) he hpl
  subst ev
  cases r1 with
  | @cons _ u0 _ ur ra rw' =>
    obtain rfl : u0 = Value.ref a := ra
    exact oinit_ok T I1 ea (by rw [← Paired.length rw', sizeLine_eq]; omega) fun s' J => ⟨.non, H1, J, rfl, q⟩
/-- the promise of __init__(self, row): self.row = row -/
def spXInit (K : PySem.W.Frag) (x f : Str) : Sp := fun vs H Q _ => ∃ (a : Addr) (v : V), vs = [.ref a, v] ∧ H a = some (exo a (He.ga K x) none) ∧ ∀ d, H d = none → d ≠ a → Q .non (upd (upd H d (exd d [(f, v)])) a (exo a (He.ga K x) (some d)))
theorem pmk_num {k : Nat} {fd : FuncData} (F : ExN X.K X.mg x f) (F1 : FnOk X.prog X.w X.K X.mg X.base CX0 k (He.ma X.K (He.ga X.K x) "__init__") fd ["self", f] (spXInit X.K x f)) (hb : Binds X.K fd ["self", f] []) (hr : Room (k + 1) X.A) (ha : PA X (e :: es) ta) (hg : Gl X x := by rfl)
    (hdb : (x == ("__debug__" : Str)) = false := by decide) (he : starEach (e :: es) X.env = (false, eval e X.env) :: starEach es X.env := by rfl) (hpl : (backTo pos (starEach es X.env)).any (·.1) = false := by rfl) :
    PMk X (.Call (.Name x p) (e :: es) [] pos) (tMkO (He.ga X.K x) (spXInit X.K x f) [] ta) :=
  pmk_oex (CX := CX0) (dvs := []) (ds := []) F.o F.iC F.tI F1 hr hb .nil (fun _ _ _ _ _ _ _ z => z.elim) hg F.g ha hdb he hpl (p := p) (pos := pos)
/-- its reading's end -/
theorem num_end {K : PySem.W.Frag} {H1 : Hp} {v : V} {Q : XK} (q : ∀ d, H1 d = none → Q (xC K x) (some d) (upd H1 d (.xd [(f, v)]))) : [v].length ≤ 1000 ∧ ∀ a, H1 a = none → spXInit K x f (.ref a :: ([v] ++ [])) (upd H1 a (exo a (He.ga K x) none))
    (fun u H2 => u = .non ∧ ∃ (d : Addr) (fs : List (Str × V)), H2 a = some (exo a (He.ga K x) (some d)) ∧ H2 d = some (exd d fs) ∧ H1 d = none ∧ Q (.ref (He.ga K x)) (some d) (upd (del H2 a) d (.xd fs))) (fun _ _ _ => False) := by
  refine ⟨by show 1 ≤ 1000; decide, fun a ha => ⟨a, v, rfl, upd_same, fun d hd ne => ⟨rfl, d, [(f, v)], upd_same, by rw [upd_ne ne]; exact upd_same, ?_, ?_⟩⟩⟩
  · rwa [upd_ne ne] at hd
  · have hd1 : H1 d = none := by rwa [upd_ne ne] at hd
    have e : upd (del (upd (upd (upd H1 a (exo a (He.ga K x) none)) d (exd d [(f, v)])) a (exo a (He.ga K x) (some d))) a) d (.xd [(f, v)]) = upd H1 d (.xd [(f, v)]) := by
      funext b
      by_cases hb : b = d
      · rw [hb, upd_same, upd_same]
      · rw [upd_ne hb, upd_ne hb]
        by_cases ha2 : b = a
        · rw [ha2, del_same, ha]
        · rw [del_ne ha2, upd_ne ha2, upd_ne hb, upd_ne ha2]
    rw [e]
    exact q d hd1
end
end Mh
/-! MhHead -/
namespace Mh
open PySem PySem.Spec PyProof.Rows L2
def top (i : Nat) : Stmt := PySem.Challenge.pw_measurehall_k01_machines_refused.main.body.getD i (.Pass ⟨0, 0, 0, 0⟩)
abbrev s__wall : Stmt := top 0
abbrev s_is_number : Stmt := top 28
abbrev s_is_tagged : Stmt := top 29
abbrev s_is_rest : Stmt := top 30
abbrev s_are_known : Stmt := top 31
abbrev s_is_test : Stmt := top 32
abbrev s_is_answer : Stmt := top 33
abbrev s_need_machine : Stmt := top 34
abbrev s_need_seed : Stmt := top 35
abbrev s_holds_for : Stmt := top 36
abbrev s_answer_by : Stmt := top 37
abbrev s_asked : Stmt := top 38
abbrev s_answered : Stmt := top 39
abbrev s_common : Stmt := top 41
abbrev s_share : Stmt := top 42
abbrev s_totals_of : Stmt := top 43
abbrev s_above_of : Stmt := top 44
abbrev s_places_of : Stmt := top 45
abbrev s_ahead_of : Stmt := top 46
abbrev s_is_asked : Stmt := top 51
abbrev s_need_task : Stmt := top 52
abbrev s_right_of : Stmt := top 53
abbrev s_right : Stmt := top 54
abbrev s_score : Stmt := top 55
abbrev s_choose : Stmt := top 56
abbrev s_heart : Stmt := top 57
abbrev s_need_name : Stmt := top 64
abbrev s_part_words : Stmt := top 68
abbrev s_written : Stmt := top 69
abbrev s_l_dice : Stmt := top 71
abbrev s_l_off : Stmt := top 72
abbrev s_l_word_of : Stmt := top 73
abbrev s_l_are : Stmt := top 74
abbrev s_l_test : Stmt := top 75
abbrev s_l_answer : Stmt := top 76
abbrev s_l_machine : Stmt := top 77
abbrev s_law : Stmt := top 78
abbrev s_BadMachine_init : Stmt := inClass (top 16) 0
abbrev s_BadText_init : Stmt := inClass (top 17) 0
abbrev s_BadTask_init : Stmt := inClass (top 18) 0
abbrev s_BadDeed_init : Stmt := inClass (top 19) 0
abbrev s_Run_init : Stmt := inClass (top 65) 0
abbrev s_Run_copied : Stmt := inClass (top 65) 1
abbrev s_Hall_init : Stmt := inClass (top 66) 0
abbrev s_Hall_need_player : Stmt := inClass (top 66) 1
abbrev s_Hall_need_ranked : Stmt := inClass (top 66) 2
abbrev s_Hall_counting : Stmt := inClass (top 66) 3
abbrev s_Hall_ranked : Stmt := inClass (top 66) 4
abbrev s_Hall_mean_without : Stmt := inClass (top 66) 5
abbrev s_Hall_means : Stmt := inClass (top 66) 6
abbrev s_Hall_table : Stmt := inClass (top 66) 7
abbrev s_Hall_changes : Stmt := inClass (top 66) 8
abbrev s_Hall_points_of : Stmt := inClass (top 66) 9
abbrev s_Hall_task : Stmt := inClass (top 66) 10
abbrev s_Hall_machine : Stmt := inClass (top 66) 11
abbrev s_Hall_tell : Stmt := inClass (top 66) 12
abbrev s_Hall_strike : Stmt := inClass (top 66) 13
abbrev s_Hall_parted : Stmt := inClass (top 66) 14
abbrev s_Hall_clean : Stmt := inClass (top 66) 15
abbrev s_Hall_ranks : Stmt := inClass (top 66) 16
abbrev s_Hall_totals : Stmt := inClass (top 66) 17
abbrev s_Hall_spread : Stmt := inClass (top 66) 18
abbrev s_Hall_places : Stmt := inClass (top 66) 19
abbrev s_Hall_shares : Stmt := inClass (top 66) 20
abbrev s_Hall_holds : Stmt := inClass (top 66) 21
abbrev s_Hall_ahead : Stmt := inClass (top 66) 22
abbrev s_Hall_sure : Stmt := inClass (top 66) 23
abbrev s_Hall_is_greater : Stmt := inClass (top 66) 24
abbrev s_Hall_turned : Stmt := inClass (top 66) 25
abbrev s_Hall_publish : Stmt := inClass (top 66) 26
abbrev s_Hall_need_page : Stmt := inClass (top 66) 27
abbrev s_Hall_page : Stmt := inClass (top 66) 28
abbrev s_Hall_stale : Stmt := inClass (top 66) 29
abbrev s_Hall_deeds : Stmt := inClass (top 66) 30
abbrev s_Hall_do : Stmt := inClass (top 66) 31
abbrev s_Hall_deal : Stmt := inClass (top 66) 32
abbrev s_Hall_is_open : Stmt := inClass (top 66) 33
def fa : List He.Fa := [(.free "int"), (.free "str"), (.free "bool"), (.free "tuple"), (.free "list"), (.free "set"), (.free "len"), (.free "isinstance"), (.free "all"), (.free "sum"), (.free "sorted"), (.free "abs"), (.free "zip"), (.free "enumerate"), (.free "range"), (.free "ValueError"), (.int "MOST_ROWS" 12), (.int "MOST_KNOWN" 8), (.int "MOST_BY" 99), (.int "GREAT" 9999), (.int "MOST_SEED" 999), (.int "BY_QUESTION" 7), (.int "BY_SEED" 13), (.int "MOST_QUESTIONS" 16), (.int "MOST_WEIGHT" 9), (.int "MOST_DUE" 99999999), (.str "LETTERS" "abcdefghijklmnopqrstuvwxyz"), (.int "MOST_NAME" 6), (.int "MOST_TASKS" 4), (.int "MOST_MACHINES" 6), (.int "MOST_RUNS" 5), (.glo "is_number"), (.glo "is_tagged"), (.glo "is_rest"), (.glo "are_known"), (.glo "is_test"), (.glo "is_answer"), (.glo "need_machine"), (.glo "need_seed"), (.glo "holds_for"), (.glo "answer_by"), (.glo "asked"), (.glo "answered"), (.glo "common"), (.glo "share"), (.glo "is_asked"), (.glo "need_task"), (.glo "right_of"), (.glo "right"), (.glo "score"), (.glo "choose"), (.glo "heart"), (.glo "need_name"), (.glo "written"), (.glo "_law_dice"), (.glo "_law_off"), (.glo "_law_word_of"), (.glo "_law_are"), (.glo "_law_test"), (.glo "_law_answer"), (.glo "_law_machine"), (.glo "law"), (.glo "HallError"), (.glo "BadQuestion"), (.glo "BadSeed"), (.glo "BadName"), (.glo "TooMany"), (.glo "Taken"), (.glo "NoMachine"), (.glo "NoTask"), (.glo "BadScore"), (.glo "NoRun"), (.glo "NotRanked"), (.glo "BadShare"), (.glo "NotAhead"), (.glo "NoPage"), (.glo "BadMachine"), (.glo "BadText"), (.glo "BadTask"), (.glo "BadDeed"), (.glo "Run"), (.glo "Hall"), (.cls "Run"), (.mkr "Run"), (.noat "Run" "player"), (.noat "Run" "goal"), (.noat "Run" "seed"), (.noat "Run" "points"), (.noat "Run" "counts"), (.cls "Hall"), (.mkr "Hall"), (.noat "Hall" "goals"), (.noat "Hall" "players"), (.noat "Hall" "runs"), (.noat "Hall" "sheets"), (.noat "Hall" "rows"), (.noat "Hall" "dealing"), (.meth "Hall" "need_player"), (.meth "Hall" "counting"), (.meth "Hall" "ranked"), (.meth "Hall" "mean_without"), (.meth "Hall" "means"), (.meth "Hall" "table"), (.meth "Hall" "changes"), (.meth "Hall" "points_of"), (.meth "Hall" "task"), (.meth "Hall" "machine"), (.meth "Hall" "tell"), (.meth "Hall" "ranks"), (.meth "Hall" "deeds")]
def dd_is_number : He.DefD := ⟨("is_number", none), "is_number", "is_number", defArgs s_is_number, defBody s_is_number, defScope s_is_number, [], []⟩
def dd_is_tagged : He.DefD := ⟨("is_tagged", none), "is_tagged", "is_tagged", defArgs s_is_tagged, defBody s_is_tagged, defScope s_is_tagged, [], []⟩
def dd_is_rest : He.DefD := ⟨("is_rest", none), "is_rest", "is_rest", defArgs s_is_rest, defBody s_is_rest, defScope s_is_rest, [], []⟩
def dd_are_known : He.DefD := ⟨("are_known", none), "are_known", "are_known", defArgs s_are_known, defBody s_are_known, defScope s_are_known, [], []⟩
def dd_is_test : He.DefD := ⟨("is_test", none), "is_test", "is_test", defArgs s_is_test, defBody s_is_test, defScope s_is_test, [], []⟩
def dd_is_answer : He.DefD := ⟨("is_answer", none), "is_answer", "is_answer", defArgs s_is_answer, defBody s_is_answer, defScope s_is_answer, [], []⟩
def dd_need_machine : He.DefD := ⟨("need_machine", none), "need_machine", "need_machine", defArgs s_need_machine, defBody s_need_machine, defScope s_need_machine, [], []⟩
def dd_need_seed : He.DefD := ⟨("need_seed", none), "need_seed", "need_seed", defArgs s_need_seed, defBody s_need_seed, defScope s_need_seed, [], []⟩
def dd_holds_for : He.DefD := ⟨("holds_for", none), "holds_for", "holds_for", defArgs s_holds_for, defBody s_holds_for, defScope s_holds_for, [], []⟩
def dd_answer_by : He.DefD := ⟨("answer_by", none), "answer_by", "answer_by", defArgs s_answer_by, defBody s_answer_by, defScope s_answer_by, [], []⟩
def dd_asked : He.DefD := ⟨("asked", none), "asked", "asked", defArgs s_asked, defBody s_asked, defScope s_asked, [], []⟩
def dd_answered : He.DefD := ⟨("answered", none), "answered", "answered", defArgs s_answered, defBody s_answered, defScope s_answered, [], [("seed", .int 0)]⟩
def dd_common : He.DefD := ⟨("common", none), "common", "common", defArgs s_common, defBody s_common, defScope s_common, [], []⟩
def dd_share : He.DefD := ⟨("share", none), "share", "share", defArgs s_share, defBody s_share, defScope s_share, [], []⟩
def dd_is_asked : He.DefD := ⟨("is_asked", none), "is_asked", "is_asked", defArgs s_is_asked, defBody s_is_asked, defScope s_is_asked, [], []⟩
def dd_need_task : He.DefD := ⟨("need_task", none), "need_task", "need_task", defArgs s_need_task, defBody s_need_task, defScope s_need_task, [], []⟩
def dd_right_of : He.DefD := ⟨("right_of", none), "right_of", "right_of", defArgs s_right_of, defBody s_right_of, defScope s_right_of, [], []⟩
def dd_right : He.DefD := ⟨("right", none), "right", "right", defArgs s_right, defBody s_right, defScope s_right, [], [("seed", .int 0)]⟩
def dd_score : He.DefD := ⟨("score", none), "score", "score", defArgs s_score, defBody s_score, defScope s_score, [], [("seed", .int 0)]⟩
def dd_choose : He.DefD := ⟨("choose", none), "choose", "choose", defArgs s_choose, defBody s_choose, defScope s_choose, [], []⟩
def dd_heart : He.DefD := ⟨("heart", none), "heart", "heart", defArgs s_heart, defBody s_heart, defScope s_heart, [], [("seed", .int 0)]⟩
def dd_need_name : He.DefD := ⟨("need_name", none), "need_name", "need_name", defArgs s_need_name, defBody s_need_name, defScope s_need_name, [], []⟩
def dd_written : He.DefD := ⟨("written", none), "written", "written", defArgs s_written, defBody s_written, defScope s_written, [], []⟩
def dd_l_dice : He.DefD := ⟨("_law_dice", none), "_law_dice", "_law_dice", defArgs s_l_dice, defBody s_l_dice, defScope s_l_dice, [], []⟩
def dd_l_off : He.DefD := ⟨("_law_off", none), "_law_off", "_law_off", defArgs s_l_off, defBody s_l_off, defScope s_l_off, [], []⟩
def dd_l_word_of : He.DefD := ⟨("_law_word_of", none), "_law_word_of", "_law_word_of", defArgs s_l_word_of, defBody s_l_word_of, defScope s_l_word_of, [], []⟩
def dd_l_are : He.DefD := ⟨("_law_are", none), "_law_are", "_law_are", defArgs s_l_are, defBody s_l_are, defScope s_l_are, [], []⟩
def dd_l_test : He.DefD := ⟨("_law_test", none), "_law_test", "_law_test", defArgs s_l_test, defBody s_l_test, defScope s_l_test, [], []⟩
def dd_l_answer : He.DefD := ⟨("_law_answer", none), "_law_answer", "_law_answer", defArgs s_l_answer, defBody s_l_answer, defScope s_l_answer, [], []⟩
def dd_l_machine : He.DefD := ⟨("_law_machine", none), "_law_machine", "_law_machine", defArgs s_l_machine, defBody s_l_machine, defScope s_l_machine, [], []⟩
def dd_law : He.DefD := ⟨("law", none), "law", "law", defArgs s_law, defBody s_law, defScope s_law, [], []⟩
def dd_BadMachine_init : He.DefD := ⟨("BadMachine", some "__init__"), "__init__", "BadMachine.__init__", defArgs s_BadMachine_init, defBody s_BadMachine_init, defScope s_BadMachine_init, [], []⟩
def dd_BadTask_init : He.DefD := ⟨("BadTask", some "__init__"), "__init__", "BadTask.__init__", defArgs s_BadTask_init, defBody s_BadTask_init, defScope s_BadTask_init, [], []⟩
def dd_Run_init : He.DefD := ⟨("Run", some "__init__"), "__init__", "Run.__init__", defArgs s_Run_init, defBody s_Run_init, defScope s_Run_init, [], []⟩
def dd_Hall_init : He.DefD := ⟨("Hall", some "__init__"), "__init__", "Hall.__init__", defArgs s_Hall_init, defBody s_Hall_init, defScope s_Hall_init, [], []⟩
def dd_Hall_need_player : He.DefD := ⟨("Hall", some "need_player"), "need_player", "Hall.need_player", defArgs s_Hall_need_player, defBody s_Hall_need_player, defScope s_Hall_need_player, [], []⟩
def dd_Hall_counting : He.DefD := ⟨("Hall", some "counting"), "counting", "Hall.counting", defArgs s_Hall_counting, defBody s_Hall_counting, defScope s_Hall_counting, [], []⟩
def dd_Hall_ranked : He.DefD := ⟨("Hall", some "ranked"), "ranked", "Hall.ranked", defArgs s_Hall_ranked, defBody s_Hall_ranked, defScope s_Hall_ranked, [], []⟩
def dd_Hall_mean_without : He.DefD := ⟨("Hall", some "mean_without"), "mean_without", "Hall.mean_without", defArgs s_Hall_mean_without, defBody s_Hall_mean_without, defScope s_Hall_mean_without, [], []⟩
def dd_Hall_means : He.DefD := ⟨("Hall", some "means"), "means", "Hall.means", defArgs s_Hall_means, defBody s_Hall_means, defScope s_Hall_means, [], []⟩
def dd_Hall_table : He.DefD := ⟨("Hall", some "table"), "table", "Hall.table", defArgs s_Hall_table, defBody s_Hall_table, defScope s_Hall_table, [], []⟩
def dd_Hall_changes : He.DefD := ⟨("Hall", some "changes"), "changes", "Hall.changes", defArgs s_Hall_changes, defBody s_Hall_changes, defScope s_Hall_changes, [], []⟩
def dd_Hall_points_of : He.DefD := ⟨("Hall", some "points_of"), "points_of", "Hall.points_of", defArgs s_Hall_points_of, defBody s_Hall_points_of, defScope s_Hall_points_of, [], []⟩
def dd_Hall_task : He.DefD := ⟨("Hall", some "task"), "task", "Hall.task", defArgs s_Hall_task, defBody s_Hall_task, defScope s_Hall_task, [], []⟩
def dd_Hall_machine : He.DefD := ⟨("Hall", some "machine"), "machine", "Hall.machine", defArgs s_Hall_machine, defBody s_Hall_machine, defScope s_Hall_machine, [], []⟩
def dd_Hall_tell : He.DefD := ⟨("Hall", some "tell"), "tell", "Hall.tell", defArgs s_Hall_tell, defBody s_Hall_tell, defScope s_Hall_tell, [], []⟩
def dd_Hall_ranks : He.DefD := ⟨("Hall", some "ranks"), "ranks", "Hall.ranks", defArgs s_Hall_ranks, defBody s_Hall_ranks, defScope s_Hall_ranks, [], []⟩
def dd_Hall_deeds : He.DefD := ⟨("Hall", some "deeds"), "deeds", "Hall.deeds", defArgs s_Hall_deeds, defBody s_Hall_deeds, defScope s_Hall_deeds, [], []⟩
def fn : List He.DefD := [dd_is_number, dd_is_tagged, dd_is_rest, dd_are_known, dd_is_test, dd_is_answer, dd_need_machine, dd_need_seed, dd_holds_for, dd_answer_by, dd_asked, dd_answered, dd_common, dd_share, dd_is_asked, dd_need_task, dd_right_of, dd_right, dd_score, dd_choose, dd_heart, dd_need_name, dd_written, dd_l_dice, dd_l_off, dd_l_word_of, dd_l_are, dd_l_test, dd_l_answer, dd_l_machine, dd_law, dd_BadMachine_init, dd_BadTask_init, dd_Run_init, dd_Hall_init, dd_Hall_need_player, dd_Hall_counting, dd_Hall_ranked, dd_Hall_mean_without, dd_Hall_means, dd_Hall_table, dd_Hall_changes, dd_Hall_points_of, dd_Hall_task, dd_Hall_machine, dd_Hall_tell, dd_Hall_ranks, dd_Hall_deeds]
/-- what the walk leans on of what the top has left -/
structure Tx (K : PySem.W.Frag) (mg : Str → Option Value) : Prop where
  c : He.SaysD fa fn K
  x : ∃ h : Heap, K.In h ∧ h.Ns mainGlobals mg
section
variable {K : PySem.W.Frag} {mg : Str → Option Value}
theorem Tx.f_int (T : Tx K mg) : mg "int" = none := let ⟨_, X, G⟩ := T.x; He.free_ok X G (T.c.fact 0 rfl)
theorem Tx.f_str (T : Tx K mg) : mg "str" = none := let ⟨_, X, G⟩ := T.x; He.free_ok X G (T.c.fact 1 rfl)
theorem Tx.f_bool (T : Tx K mg) : mg "bool" = none := let ⟨_, X, G⟩ := T.x; He.free_ok X G (T.c.fact 2 rfl)
theorem Tx.f_tuple (T : Tx K mg) : mg "tuple" = none := let ⟨_, X, G⟩ := T.x; He.free_ok X G (T.c.fact 3 rfl)
theorem Tx.f_list (T : Tx K mg) : mg "list" = none := let ⟨_, X, G⟩ := T.x; He.free_ok X G (T.c.fact 4 rfl)
theorem Tx.f_set (T : Tx K mg) : mg "set" = none := let ⟨_, X, G⟩ := T.x; He.free_ok X G (T.c.fact 5 rfl)
theorem Tx.f_len (T : Tx K mg) : mg "len" = none := let ⟨_, X, G⟩ := T.x; He.free_ok X G (T.c.fact 6 rfl)
theorem Tx.f_isinstance (T : Tx K mg) : mg "isinstance" = none := let ⟨_, X, G⟩ := T.x; He.free_ok X G (T.c.fact 7 rfl)
theorem Tx.f_all (T : Tx K mg) : mg "all" = none := let ⟨_, X, G⟩ := T.x; He.free_ok X G (T.c.fact 8 rfl)
theorem Tx.f_sum (T : Tx K mg) : mg "sum" = none := let ⟨_, X, G⟩ := T.x; He.free_ok X G (T.c.fact 9 rfl)
theorem Tx.f_sorted (T : Tx K mg) : mg "sorted" = none := let ⟨_, X, G⟩ := T.x; He.free_ok X G (T.c.fact 10 rfl)
theorem Tx.f_abs (T : Tx K mg) : mg "abs" = none := let ⟨_, X, G⟩ := T.x; He.free_ok X G (T.c.fact 11 rfl)
theorem Tx.f_zip (T : Tx K mg) : mg "zip" = none := let ⟨_, X, G⟩ := T.x; He.free_ok X G (T.c.fact 12 rfl)
theorem Tx.f_enumerate (T : Tx K mg) : mg "enumerate" = none := let ⟨_, X, G⟩ := T.x; He.free_ok X G (T.c.fact 13 rfl)
theorem Tx.f_range (T : Tx K mg) : mg "range" = none := let ⟨_, X, G⟩ := T.x; He.free_ok X G (T.c.fact 14 rfl)
theorem Tx.f_ValueError (T : Tx K mg) : mg "ValueError" = none := let ⟨_, X, G⟩ := T.x; He.free_ok X G (T.c.fact 15 rfl)
theorem Tx.c_MOST_ROWS (T : Tx K mg) : ∃ t, mg "MOST_ROWS" = some (.int 12 t) := let ⟨_, X, G⟩ := T.x; He.int_ok X G (T.c.fact 16 rfl)
theorem Tx.c_MOST_KNOWN (T : Tx K mg) : ∃ t, mg "MOST_KNOWN" = some (.int 8 t) := let ⟨_, X, G⟩ := T.x; He.int_ok X G (T.c.fact 17 rfl)
theorem Tx.c_MOST_BY (T : Tx K mg) : ∃ t, mg "MOST_BY" = some (.int 99 t) := let ⟨_, X, G⟩ := T.x; He.int_ok X G (T.c.fact 18 rfl)
theorem Tx.c_GREAT (T : Tx K mg) : ∃ t, mg "GREAT" = some (.int 9999 t) := let ⟨_, X, G⟩ := T.x; He.int_ok X G (T.c.fact 19 rfl)
theorem Tx.c_MOST_SEED (T : Tx K mg) : ∃ t, mg "MOST_SEED" = some (.int 999 t) := let ⟨_, X, G⟩ := T.x; He.int_ok X G (T.c.fact 20 rfl)
theorem Tx.c_BY_QUESTION (T : Tx K mg) : ∃ t, mg "BY_QUESTION" = some (.int 7 t) := let ⟨_, X, G⟩ := T.x; He.int_ok X G (T.c.fact 21 rfl)
theorem Tx.c_BY_SEED (T : Tx K mg) : ∃ t, mg "BY_SEED" = some (.int 13 t) := let ⟨_, X, G⟩ := T.x; He.int_ok X G (T.c.fact 22 rfl)
theorem Tx.c_MOST_QUESTIONS (T : Tx K mg) : ∃ t, mg "MOST_QUESTIONS" = some (.int 16 t) := let ⟨_, X, G⟩ := T.x; He.int_ok X G (T.c.fact 23 rfl)
theorem Tx.c_MOST_WEIGHT (T : Tx K mg) : ∃ t, mg "MOST_WEIGHT" = some (.int 9 t) := let ⟨_, X, G⟩ := T.x; He.int_ok X G (T.c.fact 24 rfl)
theorem Tx.c_MOST_DUE (T : Tx K mg) : ∃ t, mg "MOST_DUE" = some (.int 99999999 t) := let ⟨_, X, G⟩ := T.x; He.int_ok X G (T.c.fact 25 rfl)
theorem Tx.s_LETTERS (T : Tx K mg) : ∃ t, mg "LETTERS" = some (.str "abcdefghijklmnopqrstuvwxyz" t) := let ⟨_, X, G⟩ := T.x; He.str_ok X G (T.c.fact 26 rfl)
theorem Tx.c_MOST_NAME (T : Tx K mg) : ∃ t, mg "MOST_NAME" = some (.int 6 t) := let ⟨_, X, G⟩ := T.x; He.int_ok X G (T.c.fact 27 rfl)
theorem Tx.c_MOST_TASKS (T : Tx K mg) : ∃ t, mg "MOST_TASKS" = some (.int 4 t) := let ⟨_, X, G⟩ := T.x; He.int_ok X G (T.c.fact 28 rfl)
theorem Tx.c_MOST_MACHINES (T : Tx K mg) : ∃ t, mg "MOST_MACHINES" = some (.int 6 t) := let ⟨_, X, G⟩ := T.x; He.int_ok X G (T.c.fact 29 rfl)
theorem Tx.c_MOST_RUNS (T : Tx K mg) : ∃ t, mg "MOST_RUNS" = some (.int 5 t) := let ⟨_, X, G⟩ := T.x; He.int_ok X G (T.c.fact 30 rfl)
theorem Tx.g_is_number (T : Tx K mg) : mg "is_number" = some (.ref (He.ga K "is_number")) := let ⟨_, X, G⟩ := T.x; He.glo_ok X G (T.c.fact 31 rfl)
theorem Tx.g_is_tagged (T : Tx K mg) : mg "is_tagged" = some (.ref (He.ga K "is_tagged")) := let ⟨_, X, G⟩ := T.x; He.glo_ok X G (T.c.fact 32 rfl)
theorem Tx.g_is_rest (T : Tx K mg) : mg "is_rest" = some (.ref (He.ga K "is_rest")) := let ⟨_, X, G⟩ := T.x; He.glo_ok X G (T.c.fact 33 rfl)
theorem Tx.g_are_known (T : Tx K mg) : mg "are_known" = some (.ref (He.ga K "are_known")) := let ⟨_, X, G⟩ := T.x; He.glo_ok X G (T.c.fact 34 rfl)
theorem Tx.g_is_test (T : Tx K mg) : mg "is_test" = some (.ref (He.ga K "is_test")) := let ⟨_, X, G⟩ := T.x; He.glo_ok X G (T.c.fact 35 rfl)
theorem Tx.g_is_answer (T : Tx K mg) : mg "is_answer" = some (.ref (He.ga K "is_answer")) := let ⟨_, X, G⟩ := T.x; He.glo_ok X G (T.c.fact 36 rfl)
theorem Tx.g_need_machine (T : Tx K mg) : mg "need_machine" = some (.ref (He.ga K "need_machine")) := let ⟨_, X, G⟩ := T.x; He.glo_ok X G (T.c.fact 37 rfl)
theorem Tx.g_need_seed (T : Tx K mg) : mg "need_seed" = some (.ref (He.ga K "need_seed")) := let ⟨_, X, G⟩ := T.x; He.glo_ok X G (T.c.fact 38 rfl)
theorem Tx.g_holds_for (T : Tx K mg) : mg "holds_for" = some (.ref (He.ga K "holds_for")) := let ⟨_, X, G⟩ := T.x; He.glo_ok X G (T.c.fact 39 rfl)
theorem Tx.g_answer_by (T : Tx K mg) : mg "answer_by" = some (.ref (He.ga K "answer_by")) := let ⟨_, X, G⟩ := T.x; He.glo_ok X G (T.c.fact 40 rfl)
theorem Tx.g_asked (T : Tx K mg) : mg "asked" = some (.ref (He.ga K "asked")) := let ⟨_, X, G⟩ := T.x; He.glo_ok X G (T.c.fact 41 rfl)
theorem Tx.g_answered (T : Tx K mg) : mg "answered" = some (.ref (He.ga K "answered")) := let ⟨_, X, G⟩ := T.x; He.glo_ok X G (T.c.fact 42 rfl)
theorem Tx.g_common (T : Tx K mg) : mg "common" = some (.ref (He.ga K "common")) := let ⟨_, X, G⟩ := T.x; He.glo_ok X G (T.c.fact 43 rfl)
theorem Tx.g_share (T : Tx K mg) : mg "share" = some (.ref (He.ga K "share")) := let ⟨_, X, G⟩ := T.x; He.glo_ok X G (T.c.fact 44 rfl)
theorem Tx.g_is_asked (T : Tx K mg) : mg "is_asked" = some (.ref (He.ga K "is_asked")) := let ⟨_, X, G⟩ := T.x; He.glo_ok X G (T.c.fact 45 rfl)
theorem Tx.g_need_task (T : Tx K mg) : mg "need_task" = some (.ref (He.ga K "need_task")) := let ⟨_, X, G⟩ := T.x; He.glo_ok X G (T.c.fact 46 rfl)
theorem Tx.g_right_of (T : Tx K mg) : mg "right_of" = some (.ref (He.ga K "right_of")) := let ⟨_, X, G⟩ := T.x; He.glo_ok X G (T.c.fact 47 rfl)
theorem Tx.g_right (T : Tx K mg) : mg "right" = some (.ref (He.ga K "right")) := let ⟨_, X, G⟩ := T.x; He.glo_ok X G (T.c.fact 48 rfl)
theorem Tx.g_score (T : Tx K mg) : mg "score" = some (.ref (He.ga K "score")) := let ⟨_, X, G⟩ := T.x; He.glo_ok X G (T.c.fact 49 rfl)
theorem Tx.g_choose (T : Tx K mg) : mg "choose" = some (.ref (He.ga K "choose")) := let ⟨_, X, G⟩ := T.x; He.glo_ok X G (T.c.fact 50 rfl)
theorem Tx.g_heart (T : Tx K mg) : mg "heart" = some (.ref (He.ga K "heart")) := let ⟨_, X, G⟩ := T.x; He.glo_ok X G (T.c.fact 51 rfl)
theorem Tx.g_need_name (T : Tx K mg) : mg "need_name" = some (.ref (He.ga K "need_name")) := let ⟨_, X, G⟩ := T.x; He.glo_ok X G (T.c.fact 52 rfl)
theorem Tx.g_written (T : Tx K mg) : mg "written" = some (.ref (He.ga K "written")) := let ⟨_, X, G⟩ := T.x; He.glo_ok X G (T.c.fact 53 rfl)
theorem Tx.g_l_dice (T : Tx K mg) : mg "_law_dice" = some (.ref (He.ga K "_law_dice")) := let ⟨_, X, G⟩ := T.x; He.glo_ok X G (T.c.fact 54 rfl)
theorem Tx.g_l_off (T : Tx K mg) : mg "_law_off" = some (.ref (He.ga K "_law_off")) := let ⟨_, X, G⟩ := T.x; He.glo_ok X G (T.c.fact 55 rfl)
theorem Tx.g_l_word_of (T : Tx K mg) : mg "_law_word_of" = some (.ref (He.ga K "_law_word_of")) := let ⟨_, X, G⟩ := T.x; He.glo_ok X G (T.c.fact 56 rfl)
theorem Tx.g_l_are (T : Tx K mg) : mg "_law_are" = some (.ref (He.ga K "_law_are")) := let ⟨_, X, G⟩ := T.x; He.glo_ok X G (T.c.fact 57 rfl)
theorem Tx.g_l_test (T : Tx K mg) : mg "_law_test" = some (.ref (He.ga K "_law_test")) := let ⟨_, X, G⟩ := T.x; He.glo_ok X G (T.c.fact 58 rfl)
theorem Tx.g_l_answer (T : Tx K mg) : mg "_law_answer" = some (.ref (He.ga K "_law_answer")) := let ⟨_, X, G⟩ := T.x; He.glo_ok X G (T.c.fact 59 rfl)
theorem Tx.g_l_machine (T : Tx K mg) : mg "_law_machine" = some (.ref (He.ga K "_law_machine")) := let ⟨_, X, G⟩ := T.x; He.glo_ok X G (T.c.fact 60 rfl)
theorem Tx.g_law (T : Tx K mg) : mg "law" = some (.ref (He.ga K "law")) := let ⟨_, X, G⟩ := T.x; He.glo_ok X G (T.c.fact 61 rfl)
theorem Tx.g_HallError (T : Tx K mg) : mg "HallError" = some (.ref (He.ga K "HallError")) := let ⟨_, X, G⟩ := T.x; He.glo_ok X G (T.c.fact 62 rfl)
theorem Tx.g_BadQuestion (T : Tx K mg) : mg "BadQuestion" = some (.ref (He.ga K "BadQuestion")) := let ⟨_, X, G⟩ := T.x; He.glo_ok X G (T.c.fact 63 rfl)
theorem Tx.g_BadSeed (T : Tx K mg) : mg "BadSeed" = some (.ref (He.ga K "BadSeed")) := let ⟨_, X, G⟩ := T.x; He.glo_ok X G (T.c.fact 64 rfl)
theorem Tx.g_BadName (T : Tx K mg) : mg "BadName" = some (.ref (He.ga K "BadName")) := let ⟨_, X, G⟩ := T.x; He.glo_ok X G (T.c.fact 65 rfl)
theorem Tx.g_TooMany (T : Tx K mg) : mg "TooMany" = some (.ref (He.ga K "TooMany")) := let ⟨_, X, G⟩ := T.x; He.glo_ok X G (T.c.fact 66 rfl)
theorem Tx.g_Taken (T : Tx K mg) : mg "Taken" = some (.ref (He.ga K "Taken")) := let ⟨_, X, G⟩ := T.x; He.glo_ok X G (T.c.fact 67 rfl)
theorem Tx.g_NoMachine (T : Tx K mg) : mg "NoMachine" = some (.ref (He.ga K "NoMachine")) := let ⟨_, X, G⟩ := T.x; He.glo_ok X G (T.c.fact 68 rfl)
theorem Tx.g_NoTask (T : Tx K mg) : mg "NoTask" = some (.ref (He.ga K "NoTask")) := let ⟨_, X, G⟩ := T.x; He.glo_ok X G (T.c.fact 69 rfl)
theorem Tx.g_BadScore (T : Tx K mg) : mg "BadScore" = some (.ref (He.ga K "BadScore")) := let ⟨_, X, G⟩ := T.x; He.glo_ok X G (T.c.fact 70 rfl)
theorem Tx.g_NoRun (T : Tx K mg) : mg "NoRun" = some (.ref (He.ga K "NoRun")) := let ⟨_, X, G⟩ := T.x; He.glo_ok X G (T.c.fact 71 rfl)
theorem Tx.g_NotRanked (T : Tx K mg) : mg "NotRanked" = some (.ref (He.ga K "NotRanked")) := let ⟨_, X, G⟩ := T.x; He.glo_ok X G (T.c.fact 72 rfl)
theorem Tx.g_BadShare (T : Tx K mg) : mg "BadShare" = some (.ref (He.ga K "BadShare")) := let ⟨_, X, G⟩ := T.x; He.glo_ok X G (T.c.fact 73 rfl)
theorem Tx.g_NotAhead (T : Tx K mg) : mg "NotAhead" = some (.ref (He.ga K "NotAhead")) := let ⟨_, X, G⟩ := T.x; He.glo_ok X G (T.c.fact 74 rfl)
theorem Tx.g_NoPage (T : Tx K mg) : mg "NoPage" = some (.ref (He.ga K "NoPage")) := let ⟨_, X, G⟩ := T.x; He.glo_ok X G (T.c.fact 75 rfl)
theorem Tx.g_BadMachine (T : Tx K mg) : mg "BadMachine" = some (.ref (He.ga K "BadMachine")) := let ⟨_, X, G⟩ := T.x; He.glo_ok X G (T.c.fact 76 rfl)
theorem Tx.g_BadText (T : Tx K mg) : mg "BadText" = some (.ref (He.ga K "BadText")) := let ⟨_, X, G⟩ := T.x; He.glo_ok X G (T.c.fact 77 rfl)
theorem Tx.g_BadTask (T : Tx K mg) : mg "BadTask" = some (.ref (He.ga K "BadTask")) := let ⟨_, X, G⟩ := T.x; He.glo_ok X G (T.c.fact 78 rfl)
theorem Tx.g_BadDeed (T : Tx K mg) : mg "BadDeed" = some (.ref (He.ga K "BadDeed")) := let ⟨_, X, G⟩ := T.x; He.glo_ok X G (T.c.fact 79 rfl)
theorem Tx.g_Run (T : Tx K mg) : mg "Run" = some (.ref (He.ga K "Run")) := let ⟨_, X, G⟩ := T.x; He.glo_ok X G (T.c.fact 80 rfl)
theorem Tx.g_Hall (T : Tx K mg) : mg "Hall" = some (.ref (He.ga K "Hall")) := let ⟨_, X, G⟩ := T.x; He.glo_ok X G (T.c.fact 81 rfl)
theorem Tx.k_Run (T : Tx K mg) : Cls K (He.ga K "Run") := He.cls_ok (T.c.fact 82 rfl)
theorem Tx.mk_Run (T : Tx K mg) : Mk K (He.ga K "Run") (He.ma K (He.ga K "Run") "__init__") := He.mkr_ok (T.c.fact 83 rfl)
theorem Tx.n_Run_player (T : Tx K mg) : NoAttr K (He.ga K "Run") "player" := He.noat_ok (T.c.fact 84 rfl)
theorem Tx.n_Run_goal (T : Tx K mg) : NoAttr K (He.ga K "Run") "goal" := He.noat_ok (T.c.fact 85 rfl)
theorem Tx.n_Run_seed (T : Tx K mg) : NoAttr K (He.ga K "Run") "seed" := He.noat_ok (T.c.fact 86 rfl)
theorem Tx.n_Run_points (T : Tx K mg) : NoAttr K (He.ga K "Run") "points" := He.noat_ok (T.c.fact 87 rfl)
theorem Tx.n_Run_counts (T : Tx K mg) : NoAttr K (He.ga K "Run") "counts" := He.noat_ok (T.c.fact 88 rfl)
theorem Tx.k_Hall (T : Tx K mg) : Cls K (He.ga K "Hall") := He.cls_ok (T.c.fact 89 rfl)
theorem Tx.mk_Hall (T : Tx K mg) : Mk K (He.ga K "Hall") (He.ma K (He.ga K "Hall") "__init__") := He.mkr_ok (T.c.fact 90 rfl)
theorem Tx.n_Hall_goals (T : Tx K mg) : NoAttr K (He.ga K "Hall") "goals" := He.noat_ok (T.c.fact 91 rfl)
theorem Tx.n_Hall_players (T : Tx K mg) : NoAttr K (He.ga K "Hall") "players" := He.noat_ok (T.c.fact 92 rfl)
theorem Tx.n_Hall_runs (T : Tx K mg) : NoAttr K (He.ga K "Hall") "runs" := He.noat_ok (T.c.fact 93 rfl)
theorem Tx.n_Hall_sheets (T : Tx K mg) : NoAttr K (He.ga K "Hall") "sheets" := He.noat_ok (T.c.fact 94 rfl)
theorem Tx.n_Hall_rows (T : Tx K mg) : NoAttr K (He.ga K "Hall") "rows" := He.noat_ok (T.c.fact 95 rfl)
theorem Tx.n_Hall_dealing (T : Tx K mg) : NoAttr K (He.ga K "Hall") "dealing" := He.noat_ok (T.c.fact 96 rfl)
theorem Tx.m_Hall_need_player (T : Tx K mg) : Meth K (He.ga K "Hall") "need_player" (He.ma K (He.ga K "Hall") "need_player") := He.meth_ok (T.c.fact 97 rfl)
theorem Tx.m_Hall_counting (T : Tx K mg) : Meth K (He.ga K "Hall") "counting" (He.ma K (He.ga K "Hall") "counting") := He.meth_ok (T.c.fact 98 rfl)
theorem Tx.m_Hall_ranked (T : Tx K mg) : Meth K (He.ga K "Hall") "ranked" (He.ma K (He.ga K "Hall") "ranked") := He.meth_ok (T.c.fact 99 rfl)
theorem Tx.m_Hall_mean_without (T : Tx K mg) : Meth K (He.ga K "Hall") "mean_without" (He.ma K (He.ga K "Hall") "mean_without") := He.meth_ok (T.c.fact 100 rfl)
theorem Tx.m_Hall_means (T : Tx K mg) : Meth K (He.ga K "Hall") "means" (He.ma K (He.ga K "Hall") "means") := He.meth_ok (T.c.fact 101 rfl)
theorem Tx.m_Hall_table (T : Tx K mg) : Meth K (He.ga K "Hall") "table" (He.ma K (He.ga K "Hall") "table") := He.meth_ok (T.c.fact 102 rfl)
theorem Tx.m_Hall_changes (T : Tx K mg) : Meth K (He.ga K "Hall") "changes" (He.ma K (He.ga K "Hall") "changes") := He.meth_ok (T.c.fact 103 rfl)
theorem Tx.m_Hall_points_of (T : Tx K mg) : Meth K (He.ga K "Hall") "points_of" (He.ma K (He.ga K "Hall") "points_of") := He.meth_ok (T.c.fact 104 rfl)
theorem Tx.m_Hall_task (T : Tx K mg) : Meth K (He.ga K "Hall") "task" (He.ma K (He.ga K "Hall") "task") := He.meth_ok (T.c.fact 105 rfl)
theorem Tx.m_Hall_machine (T : Tx K mg) : Meth K (He.ga K "Hall") "machine" (He.ma K (He.ga K "Hall") "machine") := He.meth_ok (T.c.fact 106 rfl)
theorem Tx.m_Hall_tell (T : Tx K mg) : Meth K (He.ga K "Hall") "tell" (He.ma K (He.ga K "Hall") "tell") := He.meth_ok (T.c.fact 107 rfl)
theorem Tx.m_Hall_ranks (T : Tx K mg) : Meth K (He.ga K "Hall") "ranks" (He.ma K (He.ga K "Hall") "ranks") := He.meth_ok (T.c.fact 108 rfl)
theorem Tx.m_Hall_deeds (T : Tx K mg) : Meth K (He.ga K "Hall") "deeds" (He.ma K (He.ga K "Hall") "deeds") := He.meth_ok (T.c.fact 109 rfl)
theorem Tx.d_is_number (T : Tx K mg) : ∃ fd, FunD K "is_number" "is_number" (defArgs s_is_number) (defBody s_is_number) (defScope s_is_number) [] [] (He.fAd K ("is_number", none)) fd := T.c.def_ 0 (d := dd_is_number) rfl
theorem Tx.d_is_tagged (T : Tx K mg) : ∃ fd, FunD K "is_tagged" "is_tagged" (defArgs s_is_tagged) (defBody s_is_tagged) (defScope s_is_tagged) [] [] (He.fAd K ("is_tagged", none)) fd := T.c.def_ 1 (d := dd_is_tagged) rfl
theorem Tx.d_is_rest (T : Tx K mg) : ∃ fd, FunD K "is_rest" "is_rest" (defArgs s_is_rest) (defBody s_is_rest) (defScope s_is_rest) [] [] (He.fAd K ("is_rest", none)) fd := T.c.def_ 2 (d := dd_is_rest) rfl
theorem Tx.d_are_known (T : Tx K mg) : ∃ fd, FunD K "are_known" "are_known" (defArgs s_are_known) (defBody s_are_known) (defScope s_are_known) [] [] (He.fAd K ("are_known", none)) fd := T.c.def_ 3 (d := dd_are_known) rfl
theorem Tx.d_is_test (T : Tx K mg) : ∃ fd, FunD K "is_test" "is_test" (defArgs s_is_test) (defBody s_is_test) (defScope s_is_test) [] [] (He.fAd K ("is_test", none)) fd := T.c.def_ 4 (d := dd_is_test) rfl
theorem Tx.d_is_answer (T : Tx K mg) : ∃ fd, FunD K "is_answer" "is_answer" (defArgs s_is_answer) (defBody s_is_answer) (defScope s_is_answer) [] [] (He.fAd K ("is_answer", none)) fd := T.c.def_ 5 (d := dd_is_answer) rfl
theorem Tx.d_need_machine (T : Tx K mg) : ∃ fd, FunD K "need_machine" "need_machine" (defArgs s_need_machine) (defBody s_need_machine) (defScope s_need_machine) [] [] (He.fAd K ("need_machine", none)) fd := T.c.def_ 6 (d := dd_need_machine) rfl
theorem Tx.d_need_seed (T : Tx K mg) : ∃ fd, FunD K "need_seed" "need_seed" (defArgs s_need_seed) (defBody s_need_seed) (defScope s_need_seed) [] [] (He.fAd K ("need_seed", none)) fd := T.c.def_ 7 (d := dd_need_seed) rfl
theorem Tx.d_holds_for (T : Tx K mg) : ∃ fd, FunD K "holds_for" "holds_for" (defArgs s_holds_for) (defBody s_holds_for) (defScope s_holds_for) [] [] (He.fAd K ("holds_for", none)) fd := T.c.def_ 8 (d := dd_holds_for) rfl
theorem Tx.d_answer_by (T : Tx K mg) : ∃ fd, FunD K "answer_by" "answer_by" (defArgs s_answer_by) (defBody s_answer_by) (defScope s_answer_by) [] [] (He.fAd K ("answer_by", none)) fd := T.c.def_ 9 (d := dd_answer_by) rfl
theorem Tx.d_asked (T : Tx K mg) : ∃ fd, FunD K "asked" "asked" (defArgs s_asked) (defBody s_asked) (defScope s_asked) [] [] (He.fAd K ("asked", none)) fd := T.c.def_ 10 (d := dd_asked) rfl
theorem Tx.d_answered (T : Tx K mg) : ∃ fd, FunD K "answered" "answered" (defArgs s_answered) (defBody s_answered) (defScope s_answered) [] [("seed", .int 0)] (He.fAd K ("answered", none)) fd := T.c.def_ 11 (d := dd_answered) rfl
theorem Tx.d_common (T : Tx K mg) : ∃ fd, FunD K "common" "common" (defArgs s_common) (defBody s_common) (defScope s_common) [] [] (He.fAd K ("common", none)) fd := T.c.def_ 12 (d := dd_common) rfl
theorem Tx.d_share (T : Tx K mg) : ∃ fd, FunD K "share" "share" (defArgs s_share) (defBody s_share) (defScope s_share) [] [] (He.fAd K ("share", none)) fd := T.c.def_ 13 (d := dd_share) rfl
theorem Tx.d_is_asked (T : Tx K mg) : ∃ fd, FunD K "is_asked" "is_asked" (defArgs s_is_asked) (defBody s_is_asked) (defScope s_is_asked) [] [] (He.fAd K ("is_asked", none)) fd := T.c.def_ 14 (d := dd_is_asked) rfl
theorem Tx.d_need_task (T : Tx K mg) : ∃ fd, FunD K "need_task" "need_task" (defArgs s_need_task) (defBody s_need_task) (defScope s_need_task) [] [] (He.fAd K ("need_task", none)) fd := T.c.def_ 15 (d := dd_need_task) rfl
theorem Tx.d_right_of (T : Tx K mg) : ∃ fd, FunD K "right_of" "right_of" (defArgs s_right_of) (defBody s_right_of) (defScope s_right_of) [] [] (He.fAd K ("right_of", none)) fd := T.c.def_ 16 (d := dd_right_of) rfl
theorem Tx.d_right (T : Tx K mg) : ∃ fd, FunD K "right" "right" (defArgs s_right) (defBody s_right) (defScope s_right) [] [("seed", .int 0)] (He.fAd K ("right", none)) fd := T.c.def_ 17 (d := dd_right) rfl
theorem Tx.d_score (T : Tx K mg) : ∃ fd, FunD K "score" "score" (defArgs s_score) (defBody s_score) (defScope s_score) [] [("seed", .int 0)] (He.fAd K ("score", none)) fd := T.c.def_ 18 (d := dd_score) rfl
theorem Tx.d_choose (T : Tx K mg) : ∃ fd, FunD K "choose" "choose" (defArgs s_choose) (defBody s_choose) (defScope s_choose) [] [] (He.fAd K ("choose", none)) fd := T.c.def_ 19 (d := dd_choose) rfl
theorem Tx.d_heart (T : Tx K mg) : ∃ fd, FunD K "heart" "heart" (defArgs s_heart) (defBody s_heart) (defScope s_heart) [] [("seed", .int 0)] (He.fAd K ("heart", none)) fd := T.c.def_ 20 (d := dd_heart) rfl
theorem Tx.d_need_name (T : Tx K mg) : ∃ fd, FunD K "need_name" "need_name" (defArgs s_need_name) (defBody s_need_name) (defScope s_need_name) [] [] (He.fAd K ("need_name", none)) fd := T.c.def_ 21 (d := dd_need_name) rfl
theorem Tx.d_written (T : Tx K mg) : ∃ fd, FunD K "written" "written" (defArgs s_written) (defBody s_written) (defScope s_written) [] [] (He.fAd K ("written", none)) fd := T.c.def_ 22 (d := dd_written) rfl
theorem Tx.d_l_dice (T : Tx K mg) : ∃ fd, FunD K "_law_dice" "_law_dice" (defArgs s_l_dice) (defBody s_l_dice) (defScope s_l_dice) [] [] (He.fAd K ("_law_dice", none)) fd := T.c.def_ 23 (d := dd_l_dice) rfl
theorem Tx.d_l_off (T : Tx K mg) : ∃ fd, FunD K "_law_off" "_law_off" (defArgs s_l_off) (defBody s_l_off) (defScope s_l_off) [] [] (He.fAd K ("_law_off", none)) fd := T.c.def_ 24 (d := dd_l_off) rfl
theorem Tx.d_l_word_of (T : Tx K mg) : ∃ fd, FunD K "_law_word_of" "_law_word_of" (defArgs s_l_word_of) (defBody s_l_word_of) (defScope s_l_word_of) [] [] (He.fAd K ("_law_word_of", none)) fd := T.c.def_ 25 (d := dd_l_word_of) rfl
theorem Tx.d_l_are (T : Tx K mg) : ∃ fd, FunD K "_law_are" "_law_are" (defArgs s_l_are) (defBody s_l_are) (defScope s_l_are) [] [] (He.fAd K ("_law_are", none)) fd := T.c.def_ 26 (d := dd_l_are) rfl
theorem Tx.d_l_test (T : Tx K mg) : ∃ fd, FunD K "_law_test" "_law_test" (defArgs s_l_test) (defBody s_l_test) (defScope s_l_test) [] [] (He.fAd K ("_law_test", none)) fd := T.c.def_ 27 (d := dd_l_test) rfl
theorem Tx.d_l_answer (T : Tx K mg) : ∃ fd, FunD K "_law_answer" "_law_answer" (defArgs s_l_answer) (defBody s_l_answer) (defScope s_l_answer) [] [] (He.fAd K ("_law_answer", none)) fd := T.c.def_ 28 (d := dd_l_answer) rfl
theorem Tx.d_l_machine (T : Tx K mg) : ∃ fd, FunD K "_law_machine" "_law_machine" (defArgs s_l_machine) (defBody s_l_machine) (defScope s_l_machine) [] [] (He.fAd K ("_law_machine", none)) fd := T.c.def_ 29 (d := dd_l_machine) rfl
theorem Tx.d_law (T : Tx K mg) : ∃ fd, FunD K "law" "law" (defArgs s_law) (defBody s_law) (defScope s_law) [] [] (He.fAd K ("law", none)) fd := T.c.def_ 30 (d := dd_law) rfl
theorem Tx.d_BadMachine_init (T : Tx K mg) : ∃ fd, FunD K "__init__" "BadMachine.__init__" (defArgs s_BadMachine_init) (defBody s_BadMachine_init) (defScope s_BadMachine_init) [] [] (He.fAd K ("BadMachine", some "__init__")) fd := T.c.def_ 31 (d := dd_BadMachine_init) rfl
theorem Tx.d_BadTask_init (T : Tx K mg) : ∃ fd, FunD K "__init__" "BadTask.__init__" (defArgs s_BadTask_init) (defBody s_BadTask_init) (defScope s_BadTask_init) [] [] (He.fAd K ("BadTask", some "__init__")) fd := T.c.def_ 32 (d := dd_BadTask_init) rfl
theorem Tx.d_Run_init (T : Tx K mg) : ∃ fd, FunD K "__init__" "Run.__init__" (defArgs s_Run_init) (defBody s_Run_init) (defScope s_Run_init) [] [] (He.fAd K ("Run", some "__init__")) fd := T.c.def_ 33 (d := dd_Run_init) rfl
theorem Tx.d_Hall_init (T : Tx K mg) : ∃ fd, FunD K "__init__" "Hall.__init__" (defArgs s_Hall_init) (defBody s_Hall_init) (defScope s_Hall_init) [] [] (He.fAd K ("Hall", some "__init__")) fd := T.c.def_ 34 (d := dd_Hall_init) rfl
theorem Tx.d_Hall_need_player (T : Tx K mg) : ∃ fd, FunD K "need_player" "Hall.need_player" (defArgs s_Hall_need_player) (defBody s_Hall_need_player) (defScope s_Hall_need_player) [] [] (He.fAd K ("Hall", some "need_player")) fd := T.c.def_ 35 (d := dd_Hall_need_player) rfl
theorem Tx.d_Hall_counting (T : Tx K mg) : ∃ fd, FunD K "counting" "Hall.counting" (defArgs s_Hall_counting) (defBody s_Hall_counting) (defScope s_Hall_counting) [] [] (He.fAd K ("Hall", some "counting")) fd := T.c.def_ 36 (d := dd_Hall_counting) rfl
theorem Tx.d_Hall_ranked (T : Tx K mg) : ∃ fd, FunD K "ranked" "Hall.ranked" (defArgs s_Hall_ranked) (defBody s_Hall_ranked) (defScope s_Hall_ranked) [] [] (He.fAd K ("Hall", some "ranked")) fd := T.c.def_ 37 (d := dd_Hall_ranked) rfl
theorem Tx.d_Hall_mean_without (T : Tx K mg) : ∃ fd, FunD K "mean_without" "Hall.mean_without" (defArgs s_Hall_mean_without) (defBody s_Hall_mean_without) (defScope s_Hall_mean_without) [] [] (He.fAd K ("Hall", some "mean_without")) fd := T.c.def_ 38 (d := dd_Hall_mean_without) rfl
theorem Tx.d_Hall_means (T : Tx K mg) : ∃ fd, FunD K "means" "Hall.means" (defArgs s_Hall_means) (defBody s_Hall_means) (defScope s_Hall_means) [] [] (He.fAd K ("Hall", some "means")) fd := T.c.def_ 39 (d := dd_Hall_means) rfl
theorem Tx.d_Hall_table (T : Tx K mg) : ∃ fd, FunD K "table" "Hall.table" (defArgs s_Hall_table) (defBody s_Hall_table) (defScope s_Hall_table) [] [] (He.fAd K ("Hall", some "table")) fd := T.c.def_ 40 (d := dd_Hall_table) rfl
theorem Tx.d_Hall_changes (T : Tx K mg) : ∃ fd, FunD K "changes" "Hall.changes" (defArgs s_Hall_changes) (defBody s_Hall_changes) (defScope s_Hall_changes) [] [] (He.fAd K ("Hall", some "changes")) fd := T.c.def_ 41 (d := dd_Hall_changes) rfl
theorem Tx.d_Hall_points_of (T : Tx K mg) : ∃ fd, FunD K "points_of" "Hall.points_of" (defArgs s_Hall_points_of) (defBody s_Hall_points_of) (defScope s_Hall_points_of) [] [] (He.fAd K ("Hall", some "points_of")) fd := T.c.def_ 42 (d := dd_Hall_points_of) rfl
theorem Tx.d_Hall_task (T : Tx K mg) : ∃ fd, FunD K "task" "Hall.task" (defArgs s_Hall_task) (defBody s_Hall_task) (defScope s_Hall_task) [] [] (He.fAd K ("Hall", some "task")) fd := T.c.def_ 43 (d := dd_Hall_task) rfl
theorem Tx.d_Hall_machine (T : Tx K mg) : ∃ fd, FunD K "machine" "Hall.machine" (defArgs s_Hall_machine) (defBody s_Hall_machine) (defScope s_Hall_machine) [] [] (He.fAd K ("Hall", some "machine")) fd := T.c.def_ 44 (d := dd_Hall_machine) rfl
theorem Tx.d_Hall_tell (T : Tx K mg) : ∃ fd, FunD K "tell" "Hall.tell" (defArgs s_Hall_tell) (defBody s_Hall_tell) (defScope s_Hall_tell) [] [] (He.fAd K ("Hall", some "tell")) fd := T.c.def_ 45 (d := dd_Hall_tell) rfl
theorem Tx.d_Hall_ranks (T : Tx K mg) : ∃ fd, FunD K "ranks" "Hall.ranks" (defArgs s_Hall_ranks) (defBody s_Hall_ranks) (defScope s_Hall_ranks) [] [] (He.fAd K ("Hall", some "ranks")) fd := T.c.def_ 46 (d := dd_Hall_ranks) rfl
theorem Tx.d_Hall_deeds (T : Tx K mg) : ∃ fd, FunD K "deeds" "Hall.deeds" (defArgs s_Hall_deeds) (defBody s_Hall_deeds) (defScope s_Hall_deeds) [] [] (He.fAd K ("Hall", some "deeds")) fd := T.c.def_ 47 (d := dd_Hall_deeds) rfl
end
/-! ### dicts of the written part -/
def tabsW : List (PySem.Str × List PySem.Str) := []
def tabQ : List (PySem.Str × PySem.Str × Option V) := []
def valB : V → Value → Bool
  | .int i, .int j _ => decide (i = j)
  | .str x, .str y _ => decide (x = y)
  | _, _ => false
theorem valB_ok {v : V} {u : Value} (h : valB v u = true) : RelV v u := by
  cases v <;> cases u <;> first | exact ⟨_, by rw [of_decide_eq_true h]⟩ | cases h
def tabOk (K : PySem.W.Frag) (t : PySem.Str × PySem.Str × Option V) : Bool := match PySem.W.nsIn K (He.ga K t.1) t.2.1, t.2.2 with
  | some none, none => true
  | some (some u), some v => valB v u
  | _, _ => false
def TabV (K : PySem.W.Frag) (d : Addr) (z : PySem.Str) : Option V → Prop
  | none => PySem.W.nsIn K d z = some none
  | some v => ∃ u, PySem.W.nsIn K d z = some (some u) ∧ RelV v u
structure TabD (K : PySem.W.Frag) (w : World) : Prop where
  t : tabsW.map (fun t => He.dicW K (He.ga K t.1)) = tabsW.map (fun t => some (He.keysIn w.params t.2))
  q : tabQ.all (tabOk K) = true
theorem TabD.dic {K : PySem.W.Frag} {w : World} (c : TabD K w) (i : Nat) {x : PySem.Str} {ks : List PySem.Str} (h : tabsW[i]? = some (x, ks)) : ∃ es n, KDict K w (He.ga K x) es n := by
  have e := c.t
  have e2 : (tabsW.map fun t => He.dicW K (He.ga K t.1))[i]? = (tabsW.map fun t => some (He.keysIn w.params t.2))[i]? := by rw [e]
  rw [List.getElem?_map, List.getElem?_map, h] at e2
  exact He.dicW_ok (Option.some.inj e2)
theorem TabD.val {K : PySem.W.Frag} {w : World} (c : TabD K w) (i : Nat) {x z : PySem.Str} {o : Option V} (h : tabQ[i]? = some (x, z, o)) : TabV K (He.ga K x) z o := by
  have e := List.all_eq_true.mp c.q _ (List.mem_of_getElem? h)
  unfold tabOk at e
  cases hn : PySem.W.nsIn K (He.ga K x) z with
  | none => simp only [hn] at e; cases e
  | some r =>
    cases r with
    | none => cases o with
      | none => exact hn
      | some v => simp only [hn] at e; cases e
    | some u => cases o with
      | none => simp only [hn] at e; cases e
      | some v => simp only [hn] at e; exact ⟨u, hn, valB_ok e⟩
/-! ### refusals -/
def txL : List PySem.Str := ["BadQuestion", "BadSeed", "BadName", "TooMany", "Taken", "NoMachine", "NoTask", "BadScore", "NoRun", "NotRanked", "BadShare", "NotAhead", "NoPage"]
def nxL : List (PySem.Str × PySem.Str) := [("BadMachine", "row"), ("BadText", "row"), ("BadTask", "number"), ("BadDeed", "number")]
def exAll (K : PySem.W.Frag) : Bool := exHB K && (txL.all (exTB K) && nxL.all fun q => exNB K q.1 q.2)
structure ExD (K : PySem.W.Frag) : Prop where
  b : exAll K = true
theorem ExD.h {K : PySem.W.Frag} (x : ExD K) : exHB K = true := (Bool.and_eq_true_iff.mp x.b).1
theorem ExD.t {K : PySem.W.Frag} (x : ExD K) {z : PySem.Str} (h : z ∈ txL) : exTB K z = true := List.all_eq_true.mp (Bool.and_eq_true_iff.mp (Bool.and_eq_true_iff.mp x.b).2).1 z h
theorem ExD.n {K : PySem.W.Frag} (x : ExD K) {z : PySem.Str × PySem.Str} (h : z ∈ nxL) : exNB K z.1 z.2 = true := List.all_eq_true.mp (Bool.and_eq_true_iff.mp (Bool.and_eq_true_iff.mp x.b).2).2 z h
theorem xh {K : PySem.W.Frag} {mg : Str → Option Value} (T : Tx K mg) (XD : ExD K) : ExH K mg := exHB_ok T.g_HallError XD.h
theorem xt_BadQuestion {K : PySem.W.Frag} {mg : Str → Option Value} (T : Tx K mg) (XD : ExD K) : ExT K mg "BadQuestion" := exTB_ok T.g_BadQuestion (XD.t (by decide +kernel))
theorem xt_BadSeed {K : PySem.W.Frag} {mg : Str → Option Value} (T : Tx K mg) (XD : ExD K) : ExT K mg "BadSeed" := exTB_ok T.g_BadSeed (XD.t (by decide +kernel))
theorem xt_BadName {K : PySem.W.Frag} {mg : Str → Option Value} (T : Tx K mg) (XD : ExD K) : ExT K mg "BadName" := exTB_ok T.g_BadName (XD.t (by decide +kernel))
theorem xt_TooMany {K : PySem.W.Frag} {mg : Str → Option Value} (T : Tx K mg) (XD : ExD K) : ExT K mg "TooMany" := exTB_ok T.g_TooMany (XD.t (by decide +kernel))
theorem xt_Taken {K : PySem.W.Frag} {mg : Str → Option Value} (T : Tx K mg) (XD : ExD K) : ExT K mg "Taken" := exTB_ok T.g_Taken (XD.t (by decide +kernel))
theorem xt_NoMachine {K : PySem.W.Frag} {mg : Str → Option Value} (T : Tx K mg) (XD : ExD K) : ExT K mg "NoMachine" := exTB_ok T.g_NoMachine (XD.t (by decide +kernel))
theorem xt_NoTask {K : PySem.W.Frag} {mg : Str → Option Value} (T : Tx K mg) (XD : ExD K) : ExT K mg "NoTask" := exTB_ok T.g_NoTask (XD.t (by decide +kernel))
theorem xt_BadScore {K : PySem.W.Frag} {mg : Str → Option Value} (T : Tx K mg) (XD : ExD K) : ExT K mg "BadScore" := exTB_ok T.g_BadScore (XD.t (by decide +kernel))
theorem xt_NoRun {K : PySem.W.Frag} {mg : Str → Option Value} (T : Tx K mg) (XD : ExD K) : ExT K mg "NoRun" := exTB_ok T.g_NoRun (XD.t (by decide +kernel))
theorem xt_NotRanked {K : PySem.W.Frag} {mg : Str → Option Value} (T : Tx K mg) (XD : ExD K) : ExT K mg "NotRanked" := exTB_ok T.g_NotRanked (XD.t (by decide +kernel))
theorem xt_BadShare {K : PySem.W.Frag} {mg : Str → Option Value} (T : Tx K mg) (XD : ExD K) : ExT K mg "BadShare" := exTB_ok T.g_BadShare (XD.t (by decide +kernel))
theorem xt_NotAhead {K : PySem.W.Frag} {mg : Str → Option Value} (T : Tx K mg) (XD : ExD K) : ExT K mg "NotAhead" := exTB_ok T.g_NotAhead (XD.t (by decide +kernel))
theorem xt_NoPage {K : PySem.W.Frag} {mg : Str → Option Value} (T : Tx K mg) (XD : ExD K) : ExT K mg "NoPage" := exTB_ok T.g_NoPage (XD.t (by decide +kernel))
theorem xn_BadMachine {K : PySem.W.Frag} {mg : Str → Option Value} (T : Tx K mg) (XD : ExD K) : ExN K mg "BadMachine" "row" := exNB_ok T.g_BadMachine (XD.n (z := ("BadMachine", "row")) (by decide +kernel))
theorem xn_BadText {K : PySem.W.Frag} {mg : Str → Option Value} (T : Tx K mg) (XD : ExD K) : ExN K mg "BadText" "row" := exNB_ok T.g_BadText (XD.n (z := ("BadText", "row")) (by decide +kernel))
theorem xn_BadTask {K : PySem.W.Frag} {mg : Str → Option Value} (T : Tx K mg) (XD : ExD K) : ExN K mg "BadTask" "number" := exNB_ok T.g_BadTask (XD.n (z := ("BadTask", "number")) (by decide +kernel))
theorem xn_BadDeed {K : PySem.W.Frag} {mg : Str → Option Value} (T : Tx K mg) (XD : ExD K) : ExN K mg "BadDeed" "number" := exNB_ok T.g_BadDeed (XD.n (z := ("BadDeed", "number")) (by decide +kernel))
/-! ### tables of code objects -/
def tdL : List (PySem.Str × Option PySem.Str) := [("law", none)]
def tdT (K : PySem.W.Frag) : List (Addr × PySem.Str) := [((He.cT K ("law", none)).2, ("law" : PySem.Str) ++ ".<locals>." ++ "<lambda>")]
theorem tdT_nil {K : PySem.W.Frag} {H : Hp} (h : ∀ p ∈ tdL, H (He.cT K p).2 = some (.tbl #[])) : LamX.Tabs (tdT K) H := by
  intro p hp
  simp only [tdT, List.mem_cons, List.mem_nil_iff, or_false] at hp
  subst hp
  exact LamX.TabS.nil (h ("law", none) (by decide))
structure TabL (K : PySem.W.Frag) (mg : Str → Option Value) (base : Heap) : Prop where
  tb : ∀ p ∈ tdL, LamX.TabB base mg (He.cT K p).1 (He.cT K p).2
  nd : (tdL.map fun p => (He.cT K p).2).Nodup
end Mh
/-! MhRun -/
namespace Mh
open PySem PySem.Spec PyProof.Rows L2
abbrev R : PySem.W.OpenRow := PySem.W.OpenLaw.row PySem.Challenge.rw_measurehall_k01_machines_refused
def lvD (g : Addr → Option Obj) : Nat → List Addr → List Addr
  | 0, as => as
  | n + 1, as => as ++ lvD g n (as.flatMap fun a => match g a with
    | some o => (He.refsD o).filter fun b => !(b == a)
    | none => [])
structure SX (w : World) (h : Heap) (K : PySem.W.Frag) : Prop where
  c : He.obsD fa fn K = He.valD fn
  t : tabsW.map (fun t => He.dicW K (He.ga K t.1)) = tabsW.map (fun t => some (He.keysIn w.params t.2))
  q : tabQ.all (tabOk K) = true
  x : exAll K = true
  nd : (tdL.map fun p => (He.cT K p).2).Nodup
  hd : ∀ p ∈ tdL, PySem.W.codeHdIn K (He.cT K p).1 (He.cT K p).2 = true
  out : ∀ p ∈ tdL, K.lookup (He.cT K p).2 = none
  em : ∀ p ∈ tdL, h.get? (He.cT K p).2 = some { cls := .none, data := .fields #[] }
def obB (g : Addr → Option Obj) (K : PySem.W.Frag) : Bool := tabQ.all (tabOk K) && (exAll K && (decide ((tdL.map fun p => (He.cT K p).2).Nodup) && He.tabsB g tdL K))
def obX (g : Addr → Option Obj) (K : PySem.W.Frag) := (He.obsD fa fn K, tabsW.map (fun t => He.dicW K (He.ga K t.1)), obB g K)
theorem sx_of {w : World} {h : Heap} {as : List Addr} (e : obX h.get? (He.frT h.get? as) = (He.valD fn, tabsW.map (fun t => some (He.keysIn w.params t.2)), true)) : SX w h (He.frT h.get? as) := by
  have e1 : He.obsD fa fn (He.frT h.get? as) = He.valD fn := congrArg Prod.fst e
  have e2 : tabsW.map (fun t => He.dicW (He.frT h.get? as) (He.ga (He.frT h.get? as) t.1)) = tabsW.map (fun t => some (He.keysIn w.params t.2)) := congrArg (fun z => z.2.1) e
  have e3 : obB h.get? (He.frT h.get? as) = true := congrArg (fun z => z.2.2) e
  obtain ⟨b1, e3⟩ := Bool.and_eq_true_iff.mp e3
  obtain ⟨b2, e3⟩ := Bool.and_eq_true_iff.mp e3
  obtain ⟨b3, b4⟩ := Bool.and_eq_true_iff.mp e3
  have key : ∀ p ∈ tdL, PySem.W.codeHdIn (He.frT h.get? as) (He.cT (He.frT h.get? as) p).1 (He.cT (He.frT h.get? as) p).2 = true ∧ ∃ o, h.get? (He.cT (He.frT h.get? as) p).2 = some o ∧ He.emptyTab o = true := fun p hp => by
    obtain ⟨h3, h4⟩ := Bool.and_eq_true_iff.mp (List.all_eq_true.mp b4 p hp)
    refine ⟨h3, ?_⟩
    cases z : h.get? (He.cT (He.frT h.get? as) p).2 with
    | none => rw [z] at h4; cases h4
    | some o => rw [z] at h4; exact ⟨o, rfl, h4⟩
  exact ⟨e1, e2, b1, b2, of_decide_eq_true b3, fun p hp => (key p hp).1, fun p hp => let ⟨_, o, a, b⟩ := key p hp; He.frT_none a b, fun p hp => let ⟨_, o, a, b⟩ := key p hp; by rw [a, He.emptyTab_eq b]⟩
def asX (g : Addr → Option Obj) : List Addr := PySem.cStatics :: lvD g 5 [mainGlobals]
def hkN : PySem.W.Hook where
  α := He.AlD × List (Option (List (Option (PySem.Str × Int)))) × Bool
  obs := fun s => obX s.heap.get? (He.frT s.heap.get? (asX s.heap.get?))
  val := fun w => (He.valD fn, tabsW.map (fun t => some (He.keysIn w.params t.2)), true)
  says := fun w h => ∃ K : PySem.W.Frag, K.In h ∧ SX w h K
  of := fun _ _ e => ⟨_, He.frT_in, sx_of e⟩
  keeps := fun _ _ _ ⟨K, hK, c⟩ k => ⟨K, PySem.W.Frag.In.keeps hK k, ⟨c.c, c.t, c.q, c.x, c.nd, c.hd, c.out, fun p hp => k _ _ (c.em p hp)⟩⟩
abbrev hk : PySem.W.Hook := hkN
def ob (s : PySem.W.SharedT) : hk.α := obX (HandSHeadRun.getT s) (He.frT (HandSHeadRun.getT s) (asX (HandSHeadRun.getT s)))
theorem ob_eq (s : PySem.W.SharedT) : ob s = hk.obs s.abs := by
  have e : HandSHeadRun.getT s = s.abs.heap.get? := funext (HandSHeadRun.getT_eq s)
  unfold ob
  rw [e]
  rfl
theorem map3 {α β γ δ : Type} {x : Option α} {f : α → β} {g : α → γ} {k : α → δ} {a : β} {b : γ} {c : δ} (h1 : x.map f = some a) (h2 : x.map g = some b) (h3 : x.map k = some c) : x.map (fun s => (f s, g s, k s)) = some (a, b, c) := by
  cases x with
  | none => cases h1
  | some v => exact congrArg some (Prod.ext (Option.some.inj h1) (Prod.ext (Option.some.inj h2) (Option.some.inj h3)))
def looseN : List PySem.Str := (["MOST_ROWS", "MOST_KNOWN", "MOST_BY", "GREAT", "MOST_SEED", "BY_QUESTION", "BY_SEED", "MOST_QUESTIONS", "MOST_WEIGHT", "MOST_DUE", "LETTERS", "MOST_NAME", "MOST_TASKS", "MOST_MACHINES", "MOST_RUNS", "HallError", "BadQuestion", "BadSeed", "BadName", "TooMany", "Taken", "NoMachine", "NoTask", "BadScore", "NoRun", "NotRanked", "BadShare", "NotAhead", "NoPage", "BadMachine"] : List PySem.Str) ++ (["BadText", "BadTask", "BadDeed", "Run", "Hall", "_wall", "is_number", "is_tagged", "is_rest", "are_known", "is_test", "is_answer", "need_machine", "need_seed", "holds_for", "answer_by", "asked", "answered", "common", "share", "totals_of", "above_of", "places_of", "ahead_of", "is_asked", "need_task", "right_of", "right", "score", "choose"] : List PySem.Str) ++ (["heart", "need_name", "part_words", "written", "_law_dice", "_law_off", "_law_word_of", "_law_are", "_law_test", "_law_answer", "_law_machine"] : List PySem.Str)
noncomputable abbrev EndR (r : PySem.W.OpenRow) (M : Nat) (w : World) (os : OsState) : Option PySem.W.SharedT := HandSHeadRun.endF (HandSHeadRun.stepQ (HandSHeadRun.denQ HandSHeadRun.tabQ) r.prog w) M r.prog w os
def P1 (r : PySem.W.OpenRow) (M : Nat) (w : World) : Prop := ∀ os, (EndR r M w os).map (fun s => HandSHeadRun.looksF r.prog (PySem.W.boot_heap w.params) s.abs) = some true
def P2 (r : PySem.W.OpenRow) (q : Program) (M : Nat) (loose : List PySem.Str) (w : World) : Prop := ∀ os, (EndR r M w os).map (fun s => HandSHeadRun.seenQ q loose (PySem.importedModules r.prog.main.body) (fun s => PySem.W.xlAt q [] s && PySem.W.recOk r.toRowW.records s) s.abs) = some (PySem.W.openGood q loose)
def P3 (r : PySem.W.OpenRow) (H : PySem.W.Hook) (ob : PySem.W.SharedT → H.α) (M : Nat) (w : World) : Prop := ∀ os, (EndR r M w os).map (fun s => ob s) = some (H.val w)
theorem runEq3 {r : PySem.W.OpenRow} {q : Program} {H : PySem.W.Hook} {ob : PySem.W.SharedT → H.α} {M : Nat} {loose : List PySem.Str} {w : World} (h1 : P1 r M w) (h2 : P2 r q M loose w) (h3 : P3 r H ob M w) : HandSHeadRun.RunEq r q H ob M loose w := fun os => map3 (h1 os) (h2 os) (h3 os)
def ftB (b : Bool) (f : String → Bool) : String → Bool := fun s => match decide (s = "special-get-raises") with
  | true => b
  | false => f s
def wB (b : Bool) (w : World) : World := { w with params := { w.params with followText := ftB b w.params.followText } }
theorem ftB_eq {b : Bool} {f : String → Bool} (h : f "special-get-raises" = b) : ftB b f = f := by
  funext s
  unfold ftB
  by_cases e : s = "special-get-raises"
  · rw [decide_eq_true e, e, h]
  · rw [decide_eq_false e]
theorem wB_eq {b : Bool} {w : World} (h : w.params.followText "special-get-raises" = b) : wB b w = w := by
  unfold wB
  rw [ftB_eq h]
theorem run1t (w : World) : P1 R 9000 (wB true w) := by
  intro os
  kernel_rfl
theorem run1f (w : World) : P1 R 9000 (wB false w) := by
  intro os
  kernel_rfl
theorem run1 (w : World) : P1 R 9000 w := by
  cases h : w.params.followText "special-get-raises" with
  | true =>
    have e := run1t w
    rw [wB_eq h] at e
    exact e
  | false =>
    have e := run1f w
    rw [wB_eq h] at e
    exact e
theorem run2t (w : World) : P2 R (PySem.W.view R.prog [78]) 9000 looseN (wB true w) := by
  intro os
  kernel_rfl
theorem run2f (w : World) : P2 R (PySem.W.view R.prog [78]) 9000 looseN (wB false w) := by
  intro os
  kernel_rfl
theorem run2 (w : World) : P2 R (PySem.W.view R.prog [78]) 9000 looseN w := by
  cases h : w.params.followText "special-get-raises" with
  | true =>
    have e := run2t w
    rw [wB_eq h] at e
    exact e
  | false =>
    have e := run2f w
    rw [wB_eq h] at e
    exact e
theorem run3t (w : World) : P3 R hk ob 9000 (wB true w) := by
  intro os
  kernel_rfl
theorem run3f (w : World) : P3 R hk ob 9000 (wB false w) := by
  intro os
  kernel_rfl
theorem run3 (w : World) : P3 R hk ob 9000 w := by
  cases h : w.params.followText "special-get-raises" with
  | true =>
    have e := run3t w
    rw [wB_eq h] at e
    exact e
  | false =>
    have e := run3f w
    rw [wB_eq h] at e
    exact e
theorem run (w : World) : HandSHeadRun.RunEq R (PySem.W.view R.prog [78]) hk ob 9000 looseN w := runEq3 (run1 w) (run2 w) (run3 w)
end Mh
/-! MhMach -/
namespace Mh
open PySem PySem.Spec PyProof.Rows L2

/-! ### what the small looks of machines.py say of data -/
def isNum (d : PyData) (lo hi : Int) : Bool := match d with
  | .int i => decide (lo ≤ i) && decide (i ≤ hi)
  | _ => false
def isTag (n : Nat) : PyData → Bool
  | .tuple (.str _ :: xs) => xs.length + 1 == n
  | _ => false
theorem rd_isD {K : PySem.W.Frag} {σ : L2.St} {H : Hp} {Q : VK} {i : Nat} {v : V} {n : String} {d : PyData} (hv : σ[i]? = some (some v)) (hn : n ∈ sixTy) (hd : Dp K H v d) (q : Q (.bl (isTy n d)) H) :
    tCB (rIsD K) (tCons (tVar i) (tCons (tC (.ty n)) tNil)) σ H Q := ⟨v, hv, v, n, d, rfl, hn, hd, q⟩
theorem sc_is_number : FnScope ["thing", "low", "high"] ["thing", "low", "high"] (defScope s_is_number) := ⟨rfl, rfl, rfl, by decide +kernel, rfl, by decide +kernel, by decide +kernel⟩
def spIsNumber (K : PySem.W.Frag) : Sp := fun vs H Q _ => ∃ v d lo hi, vs = [v, .int lo, .int hi] ∧ Dp K H v d ∧ Q (.bl (isNum d lo hi)) H
theorem ok_is_number {P : Program} {w : World} {K : PySem.W.Frag} {mg : Str → Option Value} {base : Heap} (T : Tx K mg) : Def P w K mg base CX0 1 "is_number" ["thing", "low", "high"] (spIsNumber K) := by
  obtain ⟨fd, F⟩ := T.d_is_number
  refine ⟨_, fd, F.ok sc_is_number (fun vs H Q E h => ?_) (fun cdv A outer s H vs Q E hr h => ?_), F.bindsN fun _ _ _ _ _ _ us hl => match us, hl with | [_, _, _], _ => rfl, T.g_is_number, F.kp⟩
  · obtain ⟨v, d, lo, hi, rfl, _⟩ := h
    rfl
  · obtain ⟨v, d, lo, hi, rfl, hd, q⟩ := h
    refine ⟨_, PSs.nox (pss_one (ps_ret (pe_and (pe_callB call_isiD (by rfl) T.f_isinstance (by decide +kernel) (pa_cons (pv 0) (pa_cons (gT (n := "int") T.f_int) pa_nil))) (pe_and (pe_not (pe_callB call_isiD (by rfl) T.f_isinstance (by decide +kernel) (pa_cons (pv 0) (pa_cons (gT (n := "bool") T.f_bool) pa_nil)))) (pe_one (pe_chain op_le op_le (pv 1) (pv 0) (pv 2))))))), ?_⟩
    refine rd_isD rfl (by decide) hd ⟨_, rfl, ?_⟩
    cases hd with
    | int i =>
      refine ifT rfl (rd_isD rfl (by decide) (.int i) ⟨_, rfl, _, rfl, ifT rfl ?_⟩)
      refine ⟨_, rfl, _, rfl, _, _, rfl, rfl, _, rfl, ?_⟩
      have q2 : Q (.bl (decide (lo ≤ i) && decide (i ≤ hi))) H := q
      refine ifB (fun c => ?_) (fun c => ?_)
      · rw [c] at q2
        exact ⟨_, rfl, _, _, rfl, rfl, q2⟩
      · rw [c] at q2
        exact q2
    | bl b => exact ifT rfl (rd_isD rfl (by decide) (.bl b) ⟨_, rfl, _, rfl, ifF rfl q⟩)
    | _ => exact ifF rfl q

/-- an item of a tuple at a written place -/
theorem rd_ixT {K : PySem.W.Frag} {σ : L2.St} {H : Hp} {Q : VK} {i j : Nat} {a : Addr} {xs : List V} {v : V} (hv : σ[i]? = some (some (.ref a))) (hs : SqT K H a xs) (hj : xs[j]? = some v) (q : Q v H) : tOp (rIxT K) (tVar i) (tC (.int (j : Int))) σ H Q :=
  ⟨_, hv, a, xs, (j : Int), v, rfl, rfl, hs, atI_nat hj, q⟩
theorem isTag_inv {n : Nat} {d : PyData} (h : isTag n d = true) : ∃ z xs, d = .tuple (.str z :: xs) ∧ xs.length + 1 = n := by
  unfold isTag at h
  split at h
  · exact ⟨_, _, rfl, by simpa using h⟩
  · cases h
theorem sc_is_tagged : FnScope ["thing", "many"] ["thing", "many"] (defScope s_is_tagged) := ⟨rfl, rfl, rfl, by decide +kernel, rfl, by decide +kernel, by decide +kernel⟩
def spIsTagged (K : PySem.W.Frag) : Sp := fun vs H Q _ => ∃ v d n, vs = [v, .int ((n + 1 : Nat) : Int)] ∧ Dp K H v d ∧ Q (.bl (isTag (n + 1) d)) H
theorem ok_is_tagged {P : Program} {w : World} {K : PySem.W.Frag} {mg : Str → Option Value} {base : Heap} (T : Tx K mg) : Def P w K mg base CX0 1 "is_tagged" ["thing", "many"] (spIsTagged K) := by
  obtain ⟨fd, F⟩ := T.d_is_tagged
  refine ⟨_, fd, F.ok sc_is_tagged (fun vs H Q E h => ?_) (fun cdv A outer s H vs Q E hr h => ?_), F.bindsN fun _ _ _ _ _ _ us hl => match us, hl with | [_, _], _ => rfl, T.g_is_tagged, F.kp⟩
  · obtain ⟨v, d, n, rfl, _⟩ := h
    rfl
  · obtain ⟨v, d, n, rfl, hd, q⟩ := h
    refine ⟨_, PSs.nox (pss_one (ps_ret (pe_and (pe_callB call_isiD (by rfl) T.f_isinstance (by decide +kernel) (pa_cons (pv 0) (pa_cons (gT (n := "tuple") T.f_tuple) pa_nil))) (pe_and (pe_cmpR op_eq (pe_callB call_len_seq (by rfl) T.f_len (by decide +kernel) (pa_cons (pv 0) pa_nil)) (pv 1) (nomark _)) (pe_one (pe_callB call_isiD (by rfl) T.f_isinstance (by decide +kernel) (pa_cons (pe_ix ix_tup (pv 0) pe_int (fun _ _ => rfl)) (pa_cons (gT (n := "str") T.f_str) pa_nil)))))))), ?_⟩
    refine rd_isD rfl (by decide) hd ⟨_, rfl, ?_⟩
    cases hd with
    | @tup a xs ds hs ha =>
      refine ifT rfl ⟨_, rfl, a, xs, rfl, .inr hs, _, rfl, rfl, _, rfl, ifB (fun c => ?_) (fun c => ?_)⟩
      · have e : ((xs.length : Nat) : Int) = ((n + 1 : Nat) : Int) := V.int.inj (of_decide_eq_true c)
        cases ha with
        | nil => exact absurd e (by simp; omega)
        | @cons x0 xs d0 ds h0 ht =>
          refine rd_ixT (j := 0) rfl hs rfl ⟨x0, "str", d0, rfl, by decide, h0, ?_⟩
          have e2 : ds.length + 1 = n + 1 := by
            rw [← ht.len]
            exact Int.ofNat.inj e
          cases h0 with
          | str z =>
            have e3 : isTag (n + 1) (.tuple (.str z :: ds)) = true := by
              show (ds.length + 1 == n + 1) = true
              rw [e2]
              exact beq_self_eq_true _
            rw [e3] at q
            exact q
          | _ => exact q
      · have c2 := of_decide_eq_false c
        have e3 : isTag (n + 1) (.tuple ds) = false := by
          cases e : isTag (n + 1) (.tuple ds) with
          | false => rfl
          | true =>
            obtain ⟨z, ys, e4, e5⟩ := isTag_inv e
            refine absurd ?_ c2
            have e6 : ds = .str z :: ys := PyData.tuple.inj e4
            rw [ha.len, e6, List.length_cons, e5]
        rw [e3] at q
        exact q
    | _ => exact ifF rfl q

def intOf : PyData → Int
  | .int i => i
  | _ => 0
theorem isNum_inv {d : PyData} {lo hi : Int} (h : isNum d lo hi = true) : ∃ i, d = .int i ∧ lo ≤ i ∧ i ≤ hi := by
  unfold isNum at h
  split at h
  · obtain ⟨h1, h2⟩ := Bool.and_eq_true_iff.mp h
    exact ⟨_, rfl, of_decide_eq_true h1, of_decide_eq_true h2⟩
  · cases h
def isRest : PyData → Bool
  | .tuple [.str _, x, y] => isNum x 2 99 && isNum y 0 (intOf x - 1)
  | _ => false
theorem sc_is_rest : FnScope ["thing"] ["thing"] (defScope s_is_rest) := ⟨rfl, rfl, rfl, by decide +kernel, rfl, by decide +kernel, by decide +kernel⟩
def spIsRest (K : PySem.W.Frag) : Sp := fun vs H Q _ => ∃ v d, vs = [v] ∧ Dp K H v d ∧ Q (.bl (isRest d)) H
theorem ok_is_rest {P : Program} {w : World} {K : PySem.W.Frag} {mg : Str → Option Value} {base : Heap} (T : Tx K mg) : Def P w K mg base CX0 2 "is_rest" ["thing"] (spIsRest K) := by
  obtain ⟨fd, F⟩ := T.d_is_rest
  have G_is_tagged := ok_is_tagged (P := P) (w := w) (base := base) T
  have G_is_number := ok_is_number (P := P) (w := w) (base := base) T
  refine ⟨_, fd, F.ok sc_is_rest (fun vs H Q E h => ?_) (fun cdv A outer s H vs Q E hr h => ?_), F.bindsN fun _ _ _ _ _ _ us hl => match us, hl with | [_], _ => rfl, T.g_is_rest, F.kp⟩
  · obtain ⟨v, d, rfl, _⟩ := h
    rfl
  · obtain ⟨v, d, rfl, hd, q⟩ := h
    refine ⟨_, PSs.nox (pss_one (ps_ret (pe_and (pe_def G_is_tagged (hr.mono (by omega)) pass0 (pa_cons (pv 0) (pa_cons pe_int pa_nil))) (pe_and (pe_def G_is_number (hr.mono (by omega)) pass0 (pa_cons (pe_ix ix_tup (pv 0) pe_int (fun _ _ => rfl)) (pa_cons pe_int (pa_cons (gC T.c_MOST_BY) pa_nil)))) (pe_one (pe_def G_is_number (hr.mono (by omega)) pass0 (pa_cons (pe_ix ix_tup (pv 0) pe_int (fun _ _ => rfl)) (pa_cons pe_int (pa_cons (pe_op op_sub (pe_ix ix_tup (pv 0) pe_int (fun _ _ => rfl)) pe_int) pa_nil))))))))), ?_⟩
    refine ⟨v, rfl, v, d, 2, rfl, hd, _, rfl, ifB (fun c => ?_) (fun c => ?_)⟩
    · obtain ⟨z, xs, rfl, e⟩ := isTag_inv c
      obtain ⟨x, y, rfl⟩ : ∃ x y, xs = [x, y] := by
        match xs, e with
        | [x, y], _ => exact ⟨x, y, rfl⟩
      obtain ⟨a, v0, v1, v2, rfl, hs, h0, h1, h2⟩ := hd.tup3
      have q2 : Q (.bl (isNum x 2 99 && isNum y 0 (intOf x - 1))) H := q
      refine rd_ixT (j := 1) rfl hs rfl ⟨v1, x, 2, 99, rfl, h1, _, rfl, ifB (fun c1 => ?_) (fun c1 => ?_)⟩
      · obtain ⟨m, rfl, _⟩ := isNum_inv c1
        rw [c1, Bool.true_and] at q2
        cases h1
        refine rd_ixT (j := 2) rfl hs rfl ⟨_, rfl, ?_⟩
        exact ⟨a, _, 1, _, rfl, rfl, hs, atI_nat (j := 1) rfl, m, 1, rfl, rfl, v2, y, 0, m - 1, rfl, h2, q2⟩
      · rw [c1, Bool.false_and] at q2
        exact q2
    · have e : isRest d = false := by
        unfold isRest
        split
        · cases c
        · rfl
      rw [e] at q
      exact q
end Mh
/-! MhMach2 -/
namespace Mh
open PySem PySem.Spec PyProof.Rows L2
def rising : List Int → Bool
  | x :: y :: r => decide (x < y) && rising (y :: r)
  | _ => true
def areKnown : PyData → Bool
  | .tuple xs => (decide (1 ≤ xs.length) && decide (xs.length ≤ 8)) && ((xs.all fun x => isNum x 0 9999) && rising (xs.map intOf))
  | _ => false
theorem areKnown_tup (xs : List PyData) : areKnown (.tuple xs) = ((decide (1 ≤ xs.length) && decide (xs.length ≤ 8)) && ((xs.all fun x => isNum x 0 9999) && rising (xs.map intOf))) := rfl
theorem range_all {n : Nat} {p : Nat → Bool} {q : Bool} (h : ((List.range n).all p) = q) : (((List.range n).map fun i => p i).all id) = q := by
  rw [List.all_map]
  exact h
theorem all_range_get {α : Type} (p : α → Bool) (d : α) (xs : List α) : (List.range xs.length).all (fun i => p (xs.getD i d)) = xs.all p := by
  apply Bool.eq_iff_iff.mpr
  rw [List.all_eq_true, List.all_eq_true]
  constructor
  · intro h x hx
    obtain ⟨i, hi, e⟩ := List.getElem_of_mem hx
    have := h i (List.mem_range.mpr hi)
    rw [List.getD_eq_getElem?_getD, List.getElem?_eq_getElem hi] at this
    rw [← e]
    exact this
  · intro h i hi
    have hi := List.mem_range.mp hi
    show p (xs.getD i d) = true
    rw [List.getD_eq_getElem?_getD, List.getElem?_eq_getElem hi]
    exact h _ (List.getElem_mem hi)
theorem rising_range : ∀ xs : List Int, (List.range (xs.length - 1)).all (fun i => decide (xs.getD i 0 < xs.getD (i + 1) 0)) = rising xs
  | [] => rfl
  | [_] => rfl
  | x :: y :: r => by
    have ih := rising_range (y :: r)
    have e : (x :: y :: r).length - 1 = (r.length) + 1 := by simp
    rw [e, List.range_succ_eq_map, List.all_cons, List.all_map]
    show (decide (x < y) && ((List.range r.length).all fun i => decide ((y :: r).getD i 0 < (y :: r).getD (i + 1) 0))) = _
    have e2 : (y :: r).length - 1 = r.length := by simp
    rw [e2] at ih
    rw [ih]
    rfl
theorem getD_of {α : Type} {xs : List α} {i : Nat} {d x : α} (h : xs[i]? = some x) : xs.getD i d = x := by
  rw [List.getD_eq_getElem?_getD, h]
  rfl
theorem sc_are_known : FnScope ["thing", "one", "other"] ["thing"] (defScope s_are_known) := ⟨rfl, rfl, rfl, by decide +kernel, rfl, by decide +kernel, by decide +kernel⟩
def spAreKnown (K : PySem.W.Frag) : Sp := fun vs H Q _ => ∃ v d, vs = [v] ∧ Dp K H v d ∧ ∀ H', Fx [] H H' → Q (.bl (areKnown d)) H'
theorem ok_are_known {P : Program} {w : World} {K : PySem.W.Frag} {mg : Str → Option Value} {base : Heap} (T : Tx K mg) : Def P w K mg base CX0 2 "are_known" ["thing"] (spAreKnown K) := by
  obtain ⟨fd, F⟩ := T.d_are_known
  have G_is_number := ok_is_number (P := P) (w := w) (base := base) T
  refine ⟨_, fd, F.ok sc_are_known (fun vs H Q E h => ?_) (fun cdv A outer s H vs Q E hr h => ?_), F.bindsN fun _ _ _ _ _ _ us hl => match us, hl with | [_], _ => rfl, T.g_are_known, F.kp⟩
  · obtain ⟨v, d, rfl, _⟩ := h
    rfl
  · obtain ⟨v, d, rfl, hd, q⟩ := h
    refine ⟨_, PSs.nox (pss_cons (ps_if (PW.pt (pw_or (pt_not (pt_val (pe_callB call_isiD (by rfl) T.f_isinstance (by decide +kernel) (pa_cons (pv 0) (pa_cons (gT (n := "tuple") T.f_tuple) pa_nil))))) (pw_or1 (pt_not (pt_chain op_le op_le pe_int (pe_callB call_len_seq (by rfl) T.f_len (by decide +kernel) (pa_cons (pv 0) pa_nil)) (gC T.c_MOST_KNOWN))))))
        (pss_one (ps_ret pe_bl))
        pss_nil)
        (pss_cons (ps_if (pt_not (pt_val (pe_callB (cr_all rfl) (by rfl) T.f_all (by decide +kernel) (pa_cons (pe_lc (own := [("one", 1)]) (g := (gName 1)) (tt := tYes) rfl sc_are_known.nd (pi_tup (pv 0)) (blkOk_by (own := [("one", 1)]) (N := ["thing", "one", "other"]) (sc := defScope s_are_known) (by decide +kernel)) (fun _ _ _ _ _ => pg_name (i := 1) sc_are_known.nd rfl (by first | exact Or.inl rfl | exact Or.inr rfl)) (fun _ _ _ _ _ => pts_nil) (fun _ _ _ _ _ => (pe_def G_is_number (hr.mono (by omega)) pass0 (pa_cons (pv 1) (pa_cons pe_int (pa_cons (gC T.c_GREAT) pa_nil)))))) pa_nil))))
        (pss_one (ps_ret pe_bl))
        pss_nil)
        (pss_one (ps_ret (pe_callB (cr_all rfl) (by rfl) T.f_all (by decide +kernel) (pa_cons (pe_lc (own := [("one", 1), ("other", 2)]) (g := (gTup _ 2 (gCons (gName 1) (gCons (gName 2) gNil)))) (tt := tYes) rfl sc_are_known.nd (RZ.pi_zipA (by rfl) T.f_zip (pa_cons (pv 0) (pa_cons (pe_slice sl_tup (pv 0) (po_some pe_int) po_none) pa_nil))) (blkOk_by (own := [("one", 1), ("other", 2)]) (N := ["thing", "one", "other"]) (sc := defScope s_are_known) (by decide +kernel)) (fun _ _ _ _ _ => pg_tup rfl (pgs_cons (pg_name (i := 1) sc_are_known.nd rfl (by first | exact Or.inl rfl | exact Or.inr rfl)) (pgs_cons (pg_name (i := 2) sc_are_known.nd rfl (by first | exact Or.inl rfl | exact Or.inr rfl)) pgs_nil))) (fun _ _ _ _ _ => pts_nil) (fun _ _ _ _ _ => (pe_cmpR op_lt (pv 1) (pv 2) (nomark _)))) pa_nil)))))), ?_⟩
    refine rd_isD rfl (by decide) hd ⟨_, rfl, ?_⟩
    cases hd with
    | @tup a xs ds hs ha =>
      have hl := ha.len
      have qf : areKnown (.tuple ds) = false → Q (.bl false) H := fun e => by
        have := q H Fx.refl
        rw [e] at this
        exact this
      refine ifF rfl ⟨_, rfl, a, xs, rfl, .inr hs, _, _, rfl, rfl, _, rfl, ?_⟩
      refine ifB (fun c1 => ⟨_, _, rfl, rfl, _, rfl, ?_⟩) (fun c1 => ⟨_, rfl, ifT rfl ?_⟩)
      · have c1' : (1 : Int) ≤ (xs.length : Int) := of_decide_eq_true c1
        refine ifB (fun c2 => ?_) (fun c2 => ?_)
        · exact qf (by
            have c2' : decide ((xs.length : Int) ≤ 8) = false := by simpa using c2
            have : ¬ ds.length ≤ 8 := fun z => absurd c2' (by rw [decide_eq_true (by omega)]; decide)
            simp [areKnown_tup, this])
        · have c2' : (xs.length : Int) ≤ 8 := by simpa using c2
          -- all([is_number(one, 0, GREAT) for one in thing])
          refine ⟨_, rfl, a, rfl, ⟨xs, hs⟩, fun D hD => lc_map (walk_tup (xs := xs)) (fun i => .bl (isNum (ds.getD i .none) 0 9999)) (by omega) hD (fun H2 f => f.sqT hs) (fun _ _ _ _ y => YAt.fx y) (fun i x H2 H3 Qe Z hi f y k => ?_) (fun H2 f hL => ?_)⟩
          · refine ⟨rfl, ifT rfl ?_⟩
            obtain ⟨d, h1, h2⟩ := ha.get y.2
            refine ⟨x, rfl, x, d, 0, 9999, rfl, (h2.ext f).ext (YAt.fx y), ?_⟩
            rw [getD_of (d := .none) h1] at k
            exact k _ .refl
          · refine ⟨D, (List.range xs.length).map fun i => isNum (ds.getD i .none) 0 9999, rfl, SqL.of (by rw [hL, List.map_map]; rfl), _, rfl, ?_⟩
            have eA : (((List.range xs.length).map fun i => isNum (ds.getD i .none) 0 9999).all id) = ds.all fun x => isNum x 0 9999 := range_all (by rw [hl]; exact all_range_get (fun x => isNum x 0 9999) .none ds)
            rw [eA]
            refine ifB (fun c3 => ?_) (fun c3 => ?_)
            · have := q H2 f
              have e3 : (ds.all fun x => isNum x 0 9999) = false := by simpa using c3
              have e4 : areKnown (.tuple ds) = false := by
                rw [areKnown_tup]
                rw [e3, Bool.false_and, Bool.and_false]
              rw [e4] at this
              exact this
            · have e3 : (ds.all fun x => isNum x 0 9999) = true := by simpa using c3
              have hs2 := f.sqT hs
              -- all([one < other for one, other in zip(thing, thing[1:])])
              refine ⟨_, rfl, _, rfl, 1, rfl, a, xs, rfl, hs2, ?_, fun p hp => ?_⟩
              · rw [HT.sIx_none, show HT.sIx xs.length 0 (some 1) = min 1 xs.length from HT.sIx_nat xs.length 0 1]
                intro z
                omega
              have f2 : Fx [] H2 (upd H2 p (.tup (cutV xs (some 1) none))) := Fx.new hp
              have ecut : cutV xs (some 1) none = xs.drop 1 := by
                unfold cutV
                rw [HT.sIx_none, show HT.sIx xs.length 0 (some 1) = min 1 xs.length from HT.sIx_nat xs.length 0 1, show min 1 xs.length = 1 by omega]
                exact List.take_of_length_le (by rw [List.length_drop]; exact Nat.le_refl _)
              rw [ecut] at f2 ⊢
              have hs3 := f2.sqT hs2
              have hp3 : SqT K (upd H2 p (.tup (xs.drop 1))) p (xs.drop 1) := SqT.of upd_same
              refine ⟨a, p, xs, xs.drop 1, rfl, .inr ⟨hs3, hp3, fun D2 hD2 => ?_⟩⟩
              have hm : xs.length - 1 = min xs.length (xs.drop 1).length := by rw [List.length_drop]; omega
              refine lc_map (walk_zipT hm) (fun i => .bl (decide ((ds.map intOf).getD i 0 < (ds.map intOf).getD (i + 1) 0))) (by omega) hD2 (fun H4 f4 => ⟨f4.sqT hs3, f4.sqT hp3⟩) (fun _ _ _ _ y => YPair.fx y) (fun i x H4 H5 Qe Z hi f4 y k => ?_) (fun H4 f4 hL4 => ?_)
              · obtain ⟨T, u, v, rfl, hT, hu, hv⟩ := YPair.tup y
                obtain ⟨d1, g1, g2⟩ := ha.get hu
                have hv' : xs[i + 1]? = some v := by
                  rw [List.getElem?_drop, Nat.add_comm] at hv
                  exact hv
                obtain ⟨d2, g3, g4⟩ := ha.get hv'
                have a1 := List.all_eq_true.mp e3 d1 (List.mem_of_getElem? g1)
                have a2 := List.all_eq_true.mp e3 d2 (List.mem_of_getElem? g3)
                obtain ⟨m1, rfl, _⟩ := isNum_inv a1
                obtain ⟨m2, rfl, _⟩ := isNum_inv a2
                cases g2
                cases g4
                refine ⟨T, _, rfl, SqT.of hT, rfl, _, _, rfl, _, _, rfl, rfl, rfl, ifT rfl ⟨_, rfl, _, rfl, m1, m2, rfl, rfl, ?_⟩⟩
                rw [show (ds.map intOf).getD i 0 = m1 from getD_of (by rw [List.getElem?_map, g1]; rfl), show (ds.map intOf).getD (i + 1) 0 = m2 from getD_of (by rw [List.getElem?_map, g3]; rfl)] at k
                exact k _ .refl
              · refine ⟨D2, (List.range (xs.length - 1)).map fun i => decide ((ds.map intOf).getD i 0 < (ds.map intOf).getD (i + 1) 0), rfl, SqL.of (by rw [hL4, List.map_map]; rfl), ?_⟩
                have eB : (((List.range (xs.length - 1)).map fun i => decide ((ds.map intOf).getD i 0 < (ds.map intOf).getD (i + 1) 0)).all id) = rising (ds.map intOf) := range_all (by rw [hl, ← List.length_map (f := intOf)]; exact rising_range _)
                rw [eB]
                have := q H4 ((f.trans f2).trans f4)
                have e4 : areKnown (.tuple ds) = rising (ds.map intOf) := by
                  rw [areKnown_tup]
                  rw [e3, Bool.true_and, decide_eq_true (show 1 ≤ ds.length by omega), decide_eq_true (show ds.length ≤ 8 by omega)]
                  rfl
                rw [e4] at this
                exact this
      · exact qf (by
          have c1' : ¬ (1 : Int) ≤ (xs.length : Int) := of_decide_eq_false c1
          have : ds.length = 0 := by omega
          simp [areKnown_tup, this])
    | _ => exact ifT rfl (q H .refl)
end Mh
/-! MhMach3 -/
namespace Mh
open PySem PySem.Spec PyProof.Rows L2
def isTest : PyData → Bool
  | .tuple [.str z] => z == ("any" : Str)
  | .tuple [.str z, x] => (z == ("below" : Str) && isNum x 0 9999) || (z == ("known" : Str) && areKnown x)
  | .tuple [.str z, x, y] => isRest (.tuple [.str z, x, y]) && inV (.str z) [.str "rest", .str "chance"]
  | _ => false
theorem isTag_no {n : Nat} {d : PyData} (h : isTag n d = false) {z : Str} {xs : List PyData} (e : xs.length + 1 = n) : d ≠ .tuple (.str z :: xs) := fun q => by
  subst q
  have : (xs.length + 1 == n) = false := h
  rw [e] at this
  simp at this
theorem isRest_inv {d : PyData} (h : isRest d = true) : ∃ z x y, d = .tuple [.str z, x, y] := by
  unfold isRest at h
  split at h
  · exact ⟨_, _, _, rfl⟩
  · cases h
/-- x == a written text -/
theorem rd_eqS {σ : L2.St} {H : Hp} {Q : VK} {x : Str} {z : Str} (q : Q (.bl (x == z)) H) : tC (.str z) σ H fun y H2 => rEq (.str x) y H2 Q := ⟨rfl, by rw [dec_str]; exact q⟩
theorem sc_is_test : FnScope ["thing"] ["thing"] (defScope s_is_test) := ⟨rfl, rfl, rfl, by decide +kernel, rfl, by decide +kernel, by decide +kernel⟩
def spIsTest (K : PySem.W.Frag) : Sp := fun vs H Q _ => ∃ v d, vs = [v] ∧ Dp K H v d ∧ ∀ H', Fx [] H H' → Q (.bl (isTest d)) H'
theorem ok_is_test {P : Program} {w : World} {K : PySem.W.Frag} {mg : Str → Option Value} {base : Heap} (T : Tx K mg) : Def P w K mg base CX0 3 "is_test" ["thing"] (spIsTest K) := by
  obtain ⟨fd, F⟩ := T.d_is_test
  have G_is_tagged := ok_is_tagged (P := P) (w := w) (base := base) T
  have G_is_rest := ok_is_rest (P := P) (w := w) (base := base) T
  have G_is_number := ok_is_number (P := P) (w := w) (base := base) T
  have G_are_known := ok_are_known (P := P) (w := w) (base := base) T
  refine ⟨_, fd, F.ok sc_is_test (fun vs H Q E h => ?_) (fun cdv A outer s H vs Q E hr h => ?_), F.bindsN fun _ _ _ _ _ _ us hl => match us, hl with | [_], _ => rfl, T.g_is_test, F.kp⟩
  · obtain ⟨v, d, rfl, _⟩ := h
    rfl
  · obtain ⟨v, d, rfl, hd, q⟩ := h
    refine ⟨_, PSs.nox (pss_cons (ps_if (pt_val (pe_def G_is_tagged (hr.mono (by omega)) pass0 (pa_cons (pv 0) (pa_cons pe_int pa_nil))))
        (pss_one (ps_ret (pe_cmpR op_eq (pe_ix ix_tup (pv 0) pe_int (fun _ _ => rfl)) pe_str (nomark _))))
        pss_nil)
        (pss_cons (ps_if (pt_val (pe_def G_is_tagged (hr.mono (by omega)) pass0 (pa_cons (pv 0) (pa_cons pe_int pa_nil))))
        (pss_one (ps_ret (pe_or (pe_and (pe_cmpR op_eq (pe_ix ix_tup (pv 0) pe_int (fun _ _ => rfl)) pe_str (nomark _)) (pe_one (pe_def G_is_number (hr.mono (by omega)) pass0 (pa_cons (pe_ix ix_tup (pv 0) pe_int (fun _ _ => rfl)) (pa_cons pe_int (pa_cons (gC T.c_GREAT) pa_nil)))))) (pe_one (pe_and (pe_cmpR op_eq (pe_ix ix_tup (pv 0) pe_int (fun _ _ => rfl)) pe_str (nomark _)) (pe_one (pe_def G_are_known (hr.mono (by omega)) pass0 (pa_cons (pe_ix ix_tup (pv 0) pe_int (fun _ _ => rfl)) pa_nil))))))))
        pss_nil)
        (pss_one (ps_ret (pe_and (pe_def G_is_rest (hr.mono (by omega)) pass0 (pa_cons (pv 0) pa_nil)) (pe_one (pe_cmpR op_in_seq (pe_ix ix_tup (pv 0) pe_int (fun _ _ => rfl)) (pe_tup (pa_cons pe_str (pa_cons pe_str pa_nil))) (by rfl)))))))), ?_⟩
    refine ⟨v, rfl, v, d, 0, rfl, hd, _, rfl, ifB (fun c => ?_) (fun c => ?_)⟩
    · obtain ⟨z, xs, rfl, e⟩ := isTag_inv c
      obtain rfl : xs = [] := List.length_eq_zero_iff.mp (by omega)
      obtain ⟨a, v0, rfl, hs, h0⟩ := hd.tup1
      cases h0
      exact rd_ixT (j := 0) rfl hs rfl (rd_eqS (q H .refl))
    refine ⟨v, rfl, v, d, 1, rfl, hd, _, rfl, ifB (fun c2 => ?_) (fun c2 => ?_)⟩
    · obtain ⟨z, xs, rfl, e⟩ := isTag_inv c2
      obtain ⟨x, rfl⟩ : ∃ x, xs = [x] := by
        match xs, e with
        | [x], _ => exact ⟨x, rfl⟩
      obtain ⟨a, v0, v1, rfl, hs, h0, h1⟩ := hd.tup2
      cases h0
      have q2 : ∀ H', Fx [] H H' → Q (.bl ((z == ("below" : Str) && isNum x 0 9999) || (z == ("known" : Str) && areKnown x))) H' := q
      have fin : (z == ("below" : Str) && isNum x 0 9999) = false → tAndV (tOp rEq (tOp (rIxT K) (tVar 0) (tC (.int 0))) (tC (.str "known"))) (tCall (spAreKnown K) [] E0 (tCons (tOp (rIxT K) (tVar 0) (tC (.int 1))) tNil)) [some (.ref a)] H Q := fun e0 => by
        refine rd_ixT (j := 0) rfl hs rfl (rd_eqS ⟨_, rfl, ifB (fun c4 => ?_) (fun c4 => ?_)⟩)
        · refine rd_ixT (j := 1) rfl hs rfl ⟨v1, x, rfl, h1, fun H' f => ?_⟩
          have := q2 H' f
          rw [e0, c4, Bool.false_or, Bool.true_and] at this
          exact this
        · have := q2 H .refl
          rw [e0, c4] at this
          exact this
      refine rd_ixT (j := 0) rfl hs rfl (rd_eqS ⟨_, rfl, ifB (fun c3 => ?_) (fun c3 => ?_)⟩)
      · refine rd_ixT (j := 1) rfl hs rfl ⟨v1, x, 0, 9999, rfl, h1, _, rfl, ifB (fun c4 => ?_) (fun c4 => ?_)⟩
        · have := q2 H .refl
          rw [c3, c4] at this
          exact this
        · exact fin (by rw [c3, c4]; rfl)
      · exact ⟨_, rfl, ifF rfl (fin (by rw [c3]; rfl))⟩
    · refine ⟨v, rfl, v, d, rfl, hd, _, rfl, ifB (fun c3 => ?_) (fun c3 => ?_)⟩
      · obtain ⟨z, x, y, rfl⟩ := isRest_inv c3
        obtain ⟨a, v0, v1, v2, rfl, hs, h0, h1, h2⟩ := hd.tup3
        cases h0
        have q2 : ∀ H', Fx [] H H' → Q (.bl (isRest (.tuple [.str z, x, y]) && inV (.str z) [.str "rest", .str "chance"])) H' := q
        refine rd_ixT (j := 0) rfl hs rfl ⟨by show 2 ≤ sizeLine; decide, fun p hp => ?_⟩
        have := q2 _ (Fx.new (o := .tup [.str "rest", .str "chance"]) hp)
        rw [c3] at this
        exact ⟨p, _, rfl, .inr (SqT.of upd_same), rfl, rfl, this⟩
      · have e : isTest d = false := by
          unfold isTest
          split
          · exact absurd rfl (isTag_no c rfl)
          · exact absurd rfl (isTag_no c2 rfl)
          · rw [c3]; rfl
          · rfl
        have := q H .refl
        rw [e] at this
        exact this

def isAns : PyData → Bool
  | .tuple [.str z] => z == ("none" : Str)
  | .tuple [.str z, x] => if z == ("rest" : Str) then isNum x 2 99 else inV (.str z) [.str "num", .str "plus", .str "times"] && isNum x (-9999) 9999
  | _ => false
theorem sc_is_answer : FnScope ["thing"] ["thing"] (defScope s_is_answer) := ⟨rfl, rfl, rfl, by decide +kernel, rfl, by decide +kernel, by decide +kernel⟩
def spIsAnswer (K : PySem.W.Frag) : Sp := fun vs H Q _ => ∃ v d, vs = [v] ∧ Dp K H v d ∧ ∀ H', Fx [] H H' → Q (.bl (isAns d)) H'
theorem ok_is_answer {P : Program} {w : World} {K : PySem.W.Frag} {mg : Str → Option Value} {base : Heap} (T : Tx K mg) : Def P w K mg base CX0 2 "is_answer" ["thing"] (spIsAnswer K) := by
  obtain ⟨fd, F⟩ := T.d_is_answer
  have G_is_tagged := ok_is_tagged (P := P) (w := w) (base := base) T
  have G_is_number := ok_is_number (P := P) (w := w) (base := base) T
  refine ⟨_, fd, F.ok sc_is_answer (fun vs H Q E h => ?_) (fun cdv A outer s H vs Q E hr h => ?_), F.bindsN fun _ _ _ _ _ _ us hl => match us, hl with | [_], _ => rfl, T.g_is_answer, F.kp⟩
  · obtain ⟨v, d, rfl, _⟩ := h
    rfl
  · obtain ⟨v, d, rfl, hd, q⟩ := h
    refine ⟨_, PSs.nox (pss_cons (ps_if (pt_val (pe_def G_is_tagged (hr.mono (by omega)) pass0 (pa_cons (pv 0) (pa_cons pe_int pa_nil))))
        (pss_one (ps_ret (pe_cmpR op_eq (pe_ix ix_tup (pv 0) pe_int (fun _ _ => rfl)) pe_str (nomark _))))
        pss_nil)
        (pss_cons (ps_if (pt_not (pt_val (pe_def G_is_tagged (hr.mono (by omega)) pass0 (pa_cons (pv 0) (pa_cons pe_int pa_nil)))))
        (pss_one (ps_ret pe_bl))
        pss_nil)
        (pss_cons (ps_if (pt_cmpR op_eq (pe_ix ix_tup (pv 0) pe_int (fun _ _ => rfl)) pe_str (nomark _))
        (pss_one (ps_ret (pe_def G_is_number (hr.mono (by omega)) pass0 (pa_cons (pe_ix ix_tup (pv 0) pe_int (fun _ _ => rfl)) (pa_cons pe_int (pa_cons (gC T.c_MOST_BY) pa_nil))))))
        pss_nil)
        (pss_one (ps_ret (pe_and (pe_cmpR op_in_seq (pe_ix ix_tup (pv 0) pe_int (fun _ _ => rfl)) (pe_tup (pa_cons pe_str (pa_cons pe_str (pa_cons pe_str pa_nil)))) (by rfl)) (pe_one (pe_def G_is_number (hr.mono (by omega)) pass0 (pa_cons (pe_ix ix_tup (pv 0) pe_int (fun _ _ => rfl)) (pa_cons (pe_op op_sub pe_int (gC T.c_GREAT)) (pa_cons (gC T.c_GREAT) pa_nil))))))))))), ?_⟩
    refine ⟨v, rfl, v, d, 0, rfl, hd, _, rfl, ifB (fun c => ?_) (fun c => ?_)⟩
    · obtain ⟨z, xs, rfl, e⟩ := isTag_inv c
      obtain rfl : xs = [] := List.length_eq_zero_iff.mp (by omega)
      obtain ⟨a, v0, rfl, hs, h0⟩ := hd.tup1
      cases h0
      exact rd_ixT (j := 0) rfl hs rfl (rd_eqS (q H .refl))
    refine ⟨v, rfl, v, d, 1, rfl, hd, _, rfl, ifB (fun c2 => ?_) (fun c2 => ?_)⟩
    · have e : isAns d = false := by
        have c2' : isTag 2 d = false := by simpa using c2
        unfold isAns
        split
        · exact absurd rfl (isTag_no c rfl)
        · exact absurd rfl (isTag_no c2' rfl)
        · rfl
      have := q H .refl
      rw [e] at this
      exact this
    · have c2' : isTag 2 d = true := by simpa using c2
      obtain ⟨z, xs, rfl, e⟩ := isTag_inv c2'
      obtain ⟨x, rfl⟩ : ∃ x, xs = [x] := by
        match xs, e with
        | [x], _ => exact ⟨x, rfl⟩
      obtain ⟨a, v0, v1, rfl, hs, h0, h1⟩ := hd.tup2
      cases h0
      have q2 : ∀ H', Fx [] H H' → Q (.bl (if z == ("rest" : Str) then isNum x 2 99 else inV (.str z) [.str "num", .str "plus", .str "times"] && isNum x (-9999) 9999)) H' := q
      refine rd_ixT (j := 0) rfl hs rfl (rd_eqS ⟨_, rfl, ifB (fun c3 => ?_) (fun c3 => ?_)⟩)
      · rw [c3] at q2
        exact rd_ixT (j := 1) rfl hs rfl ⟨v1, x, 2, 99, rfl, h1, q2 H .refl⟩
      · rw [c3] at q2
        refine rd_ixT (j := 0) rfl hs rfl ⟨by show 3 ≤ sizeLine; decide, fun p hp => ?_⟩
        have fp : Fx [] H (upd H p (.tup [.str "num", .str "plus", .str "times"])) := Fx.new hp
        have q3 : Q (.bl (inV (.str z) [.str "num", .str "plus", .str "times"] && isNum x (-9999) 9999)) _ := q2 _ fp
        refine ⟨p, _, rfl, .inr (SqT.of upd_same), rfl, rfl, _, rfl, ifB (fun c4 => ?_) (fun c4 => ?_)⟩
        · have c4' : inV (.str z) [.str "num", .str "plus", .str "times"] = true := c4
          rw [c4', Bool.true_and] at q3
          exact rd_ixT (j := 1) rfl (fp.sqT hs) rfl ⟨0, 9999, rfl, rfl, v1, x, -9999, 9999, rfl, h1.ext fp, q3⟩
        · have c4' : inV (.str z) [.str "num", .str "plus", .str "times"] = false := c4
          rw [c4', Bool.false_and] at q3
          exact q3
end Mh
/-! MhMach4 -/
namespace Mh
open PySem PySem.Spec PyProof.Rows L2
def rowOk : PyData → Bool
  | .tuple [t, a] => isTest t && isAns a
  | _ => false
theorem rowOk_inv {d : PyData} (h : rowOk d = true) : ∃ t a, d = .tuple [t, a] ∧ isTest t = true ∧ isAns a = true := by
  unfold rowOk at h
  split at h
  · obtain ⟨h1, h2⟩ := Bool.and_eq_true_iff.mp h
    exact ⟨_, _, rfl, h1, h2⟩
  · cases h
/-- x == n, n a written number -/
theorem rd_eqI {σ : L2.St} {H : Hp} {Q : VK} {x : Int} {z : Int} (q : Q (.bl (x == z)) H) : tC (.int z) σ H fun y H2 => rEq (.int x) y H2 Q := ⟨rfl, by rw [dec_int]; exact q⟩
theorem sc_need_machine : FnScope ["machine", "row", "one"] ["machine"] (defScope s_need_machine) := ⟨rfl, rfl, rfl, by decide +kernel, rfl, by decide +kernel, by decide +kernel⟩
def spNeedMachine (K : PySem.W.Frag) : Sp := fun vs H Q _ => ∃ v ds, vs = [v] ∧ Dp K H v (.tuple ds) ∧ ds ≠ [] ∧ ds.length ≤ 12 ∧ (∀ d ∈ ds, rowOk d = true) ∧ SeqAt.shaped (.tuple ds) = true ∧ ∀ H', Fx [] H H' → Q .non H'
theorem ok_need_machine {P : Program} {w : World} {K : PySem.W.Frag} {mg : Str → Option Value} {base : Heap} (T : Tx K mg) : Def P w K mg base CX0 4 "need_machine" ["machine"] (spNeedMachine K) := by
  obtain ⟨fd, F⟩ := T.d_need_machine
  have G_is_test := ok_is_test (P := P) (w := w) (base := base) T
  have G_is_answer := ok_is_answer (P := P) (w := w) (base := base) T
  refine ⟨_, fd, F.ok sc_need_machine (fun vs H Q E h => ?_) (fun cdv A outer s H vs Q E hr h => ?_), F.bindsN fun _ _ _ _ _ _ us hl => match us, hl with | [_], _ => rfl, T.g_need_machine, F.kp⟩
  · obtain ⟨v, ds, rfl, _⟩ := h
    rfl
  · obtain ⟨v, ds, rfl, hd, hne, hlen, hrows, hsh, q⟩ := h
    refine ⟨_, PSs.nox (pss_cons (ps_if (PW.pt (pw_or (pt_not (pt_val (pe_callB call_isiD (by rfl) T.f_isinstance (by decide +kernel) (pa_cons (pv 0) (pa_cons (gT (n := "tuple") T.f_tuple) pa_nil))))) (pw_or1 (pt_cmpR (op_eqD hr.units) (pv 0) (pe_tup pa_nil) (nomark _)))))
        (pss_one ps_never)
        pss_nil)
        (pss_one (ps_for PassesOwn.never rfl (pi_enumT (by rfl) T.f_enumerate (pa_cons (pv 0) pa_nil)) (pg_tup rfl (pgs_cons (pg_name (i := 1) sc_need_machine.nd rfl (by first | exact Or.inl rfl | exact Or.inr rfl)) (pgs_cons (pg_name (i := 2) sc_need_machine.nd rfl (by first | exact Or.inl rfl | exact Or.inr rfl)) pgs_nil)))
        (pss_cons (ps_if (PW.pt (pw_or (pt_cmpR op_eq (pv 1) (gC T.c_MOST_ROWS) (nomark _)) (pw_or (pt_not (pt_val (pe_callB call_isiD (by rfl) T.f_isinstance (by decide +kernel) (pa_cons (pv 2) (pa_cons (gT (n := "tuple") T.f_tuple) pa_nil))))) (pw_or1 (pt_cmpR op_ne (pe_callB call_len_seq (by rfl) T.f_len (by decide +kernel) (pa_cons (pv 2) pa_nil)) pe_int (nomark _))))))
        (pss_one ps_never)
        pss_nil)
        (pss_one (ps_if (PW.pt (pw_or (pt_not (pt_val (pe_def G_is_test (hr.mono (by omega)) pass0 (pa_cons (pe_ix ix_tup (pv 2) pe_int (fun _ _ => rfl)) pa_nil)))) (pw_or1 (pt_not (pt_val (pe_def G_is_answer (hr.mono (by omega)) pass0 (pa_cons (pe_ix ix_tup (pv 2) pe_int (fun _ _ => rfl)) pa_nil)))))))
        (pss_one ps_never)
        pss_nil)))))), ?_⟩
    obtain ⟨a, xs, rfl, hs, ha⟩ := hd.tupI
    have hl := ha.len
    refine rd_isD rfl (by decide) hd ⟨_, rfl, ifF rfl ⟨_, rfl, by show 0 ≤ sizeLine; decide, fun p hp => ?_⟩⟩
    have f1 : Fx [] H (upd H p (.tup [])) := Fx.new hp
    refine ⟨.tuple ds, .tuple [], hd.ext f1, .tup (SqT.of upd_same) .nil, hsh, by decide +kernel, _, rfl, ifF ?_ ?_⟩
    · cases ds with
      | nil => exact absurd rfl hne
      | cons d ds => simp [PyData.eqv, PyData.eqvAll]
    refine ⟨_, rfl, a, xs, rfl, f1.sqT hs, for_it walk_enT (fun i σ' H' => ∃ y1 y2, σ' = [some (.ref a), y1, y2] ∧ Fx [] H H') ⟨none, none, rfl, f1⟩ (fun i σ' H' _ ⟨_, _, _, f⟩ => f.sqT hs) (fun i x σ' H2 H3 hi hP y => ?_) (fun σ' H' hP => ?_)⟩
    · obtain ⟨y1, y2, rfl, f⟩ := hP
      obtain ⟨T, u, v, rfl, hT, hu, hv⟩ := YPair.tup y
      cases hu
      have f3 := f.trans (YPair.fx y)
      obtain ⟨d, g1, g2⟩ := ha.get hv
      obtain ⟨t, an, rfl, ht, han⟩ := rowOk_inv (hrows d (List.mem_of_getElem? g1))
      have g3 := g2.ext f3
      obtain ⟨b, w1, w2, rfl, hb, k1, k2⟩ := g3.tup2
      refine ⟨T, _, rfl, SqT.of hT, rfl, _, _, rfl, _, _, rfl, rfl, ?_⟩
      refine ⟨_, rfl, rd_eqI ⟨_, rfl, ifF ?_ ?_⟩⟩
      · have : (i : Int) ≠ 12 := by omega
        simpa using this
      refine rd_isD rfl (by decide) g3 ⟨_, rfl, ifF rfl ⟨_, rfl, b, _, rfl, .inr hb, rfl, _, rfl, ifF rfl ?_⟩⟩
      refine rd_ixT (j := 0) rfl hb rfl ⟨w1, t, rfl, k1, fun H4 f4 => ⟨_, rfl, ifF (by rw [ht]; rfl) ?_⟩⟩
      refine rd_ixT (j := 1) rfl (f4.sqT hb) rfl ⟨w2, an, rfl, k2.ext f4, fun H5 f5 => ⟨_, rfl, ifF (by rw [han]; rfl) ?_⟩⟩
      exact ⟨_, _, rfl, (f3.trans f4).trans f5⟩
    · obtain ⟨y1, y2, rfl, f⟩ := hP
      exact q H' f

/-! ### good tests, answers, machines as data of Lean -/
inductive Tst where
  | any | below (n : Int) | rest (m r : Int) | chance (m r : Int) | known (ns : List Int)
inductive Ans where
  | num (n : Int) | plus (n : Int) | times (n : Int) | rest (m : Int) | none
def Tst.d : Tst → PyData
  | .any => .tuple [.str "any"]
  | .below n => .tuple [.str "below", .int n]
  | .rest m r => .tuple [.str "rest", .int m, .int r]
  | .chance m r => .tuple [.str "chance", .int m, .int r]
  | .known ns => .tuple [.str "known", .tuple (ns.map .int)]
def Ans.d : Ans → PyData
  | .num n => .tuple [.str "num", .int n]
  | .plus n => .tuple [.str "plus", .int n]
  | .times n => .tuple [.str "times", .int n]
  | .rest m => .tuple [.str "rest", .int m]
  | .none => .tuple [.str "none"]
def Tst.ok : Tst → Prop
  | .any => True
  | .below n => 0 ≤ n ∧ n ≤ 9999
  | .rest m r => 2 ≤ m ∧ m ≤ 99 ∧ 0 ≤ r ∧ r < m
  | .chance m r => 2 ≤ m ∧ m ≤ 99 ∧ 0 ≤ r ∧ r < m
  | .known ns => 1 ≤ ns.length ∧ ns.length ≤ 8 ∧ (∀ n ∈ ns, 0 ≤ n ∧ n ≤ 9999) ∧ rising ns = true
def Ans.ok : Ans → Prop
  | .num n => -9999 ≤ n ∧ n ≤ 9999
  | .plus n => -9999 ≤ n ∧ n ≤ 9999
  | .times n => -9999 ≤ n ∧ n ≤ 9999
  | .rest m => 2 ≤ m ∧ m ≤ 99
  | .none => True
abbrev Mch := List (Tst × Ans)
def rowD (r : Tst × Ans) : PyData := .tuple [r.1.d, r.2.d]
def machD (m : Mch) : PyData := .tuple (m.map rowD)
structure Mch.ok (m : Mch) : Prop where
  ne : m ≠ []
  len : m.length ≤ 12
  rows : ∀ r ∈ m, r.1.ok ∧ r.2.ok
theorem intOf_map (ns : List Int) : (ns.map PyData.int).map intOf = ns := by
  rw [List.map_map]
  exact List.map_id ns
theorem Tst.ok_test {t : Tst} (h : t.ok) : isTest t.d = true := by
  cases t with
  | any => decide +kernel
  | below n =>
    have e : isNum (.int n) 0 9999 = true := by simp [isNum, h.1, h.2]
    have e1 : (("below" : Str) == ("below" : Str)) = true := beq_self_eq_true _
    simp only [Tst.d, isTest, e1, e, Bool.and_self, Bool.true_or]
  | rest m r =>
    obtain ⟨h1, h2, h3, h4⟩ := h
    have e : isRest (.tuple [.str "rest", .int m, .int r]) = true := by
      have h5 : r ≤ m - 1 := by omega
      simp [isRest, isNum, intOf, h1, h2, h3, h5]
    show (isRest (.tuple [.str "rest", .int m, .int r]) && inV (.str "rest") [.str "rest", .str "chance"]) = true
    rw [e, Bool.true_and]
    decide +kernel
  | chance m r =>
    obtain ⟨h1, h2, h3, h4⟩ := h
    have e : isRest (.tuple [.str "chance", .int m, .int r]) = true := by
      have h5 : r ≤ m - 1 := by omega
      simp [isRest, isNum, intOf, h1, h2, h3, h5]
    show (isRest (.tuple [.str "chance", .int m, .int r]) && inV (.str "chance") [.str "rest", .str "chance"]) = true
    rw [e, Bool.true_and]
    decide +kernel
  | known ns =>
    obtain ⟨h1, h2, h3, h4⟩ := h
    have e : areKnown (.tuple (ns.map .int)) = true := by
      rw [areKnown_tup, intOf_map, h4, List.length_map, decide_eq_true h1, decide_eq_true h2, Bool.and_true, Bool.and_true, Bool.true_and]
      refine List.all_eq_true.mpr fun d hd => ?_
      obtain ⟨n, hn, rfl⟩ := List.mem_map.mp hd
      obtain ⟨h5, h6⟩ := h3 n hn
      simp [isNum, h5, h6]
    have e1 : (("known" : Str) == ("known" : Str)) = true := beq_self_eq_true _
    simp only [Tst.d, isTest, e1, e, Bool.and_self, Bool.or_true]
theorem Ans.ok_ans {a : Ans} (h : a.ok) : isAns a.d = true := by
  have key : ∀ (z : Str) (n : Int), -9999 ≤ n ∧ n ≤ 9999 → (z == ("rest" : Str)) = false → inV (.str z) [.str "num", .str "plus", .str "times"] = true → isAns (.tuple [.str z, .int n]) = true := fun z n h e1 e2 => by
    show (if z == ("rest" : Str) then isNum (.int n) 2 99 else inV (.str z) [.str "num", .str "plus", .str "times"] && isNum (.int n) (-9999) 9999) = true
    rw [e1, e2]
    simp [isNum, h.1, h.2]
  cases a with
  | num n => exact key _ n h (by decide +kernel) (by decide +kernel)
  | plus n => exact key _ n h (by decide +kernel) (by decide +kernel)
  | times n => exact key _ n h (by decide +kernel) (by decide +kernel)
  | rest m =>
    show (if ("rest" : Str) == ("rest" : Str) then isNum (.int m) 2 99 else inV (.str ("rest" : Str)) [.str "num", .str "plus", .str "times"] && isNum (.int m) (-9999) 9999) = true
    rw [beq_self_eq_true]
    simp [isNum, h.1, h.2]
  | none => decide +kernel
theorem lay_ints : ∀ ns : List Int, PyData.canLayAll0 (ns.map .int) = true ∧ PyData.depthAll (ns.map .int) = 0
  | [] => ⟨by simp [PyData.canLayAll0], by simp [PyData.depthAll]⟩
  | n :: ns => by
    obtain ⟨h1, h2⟩ := lay_ints ns
    exact ⟨by simp [PyData.canLayAll0, PyData.canLay0, h1], by simp [PyData.depthAll, PyData.depth, h2]⟩
theorem strOkA : (["any", "below", "rest", "chance", "known", "num", "plus", "times", "none"] : List Str).all (fun z => PyData.canLay0 (.str z)) = true := by decide +kernel
theorem strOk1 {z : Str} (h : z ∈ (["any", "below", "rest", "chance", "known", "num", "plus", "times", "none"] : List Str)) : PyData.canLay0 (.str z) = true := List.all_eq_true.mp strOkA z h
theorem Tst.lay (t : Tst) : t.d.canLay0 = true ∧ t.d.depth ≤ 2 := by
  cases t with
  | known ns =>
    obtain ⟨h1, h2⟩ := lay_ints ns
    have e := strOk1 (z := "known") (by decide +kernel)
    exact ⟨by simp [Tst.d, PyData.canLay0, PyData.canLayAll0, h1] at e ⊢; exact e, by simp [Tst.d, PyData.depth, PyData.depthAll, h2]⟩
  | any => exact ⟨by decide +kernel, by decide +kernel⟩
  | below n =>
    have e := strOk1 (z := "below") (by decide +kernel)
    exact ⟨by simp [Tst.d, PyData.canLay0, PyData.canLayAll0] at e ⊢; exact e, by simp [Tst.d, PyData.depth, PyData.depthAll]⟩
  | rest m r =>
    have e := strOk1 (z := "rest") (by decide +kernel)
    exact ⟨by simp [Tst.d, PyData.canLay0, PyData.canLayAll0] at e ⊢; exact e, by simp [Tst.d, PyData.depth, PyData.depthAll]⟩
  | chance m r =>
    have e := strOk1 (z := "chance") (by decide +kernel)
    exact ⟨by simp [Tst.d, PyData.canLay0, PyData.canLayAll0] at e ⊢; exact e, by simp [Tst.d, PyData.depth, PyData.depthAll]⟩
theorem Ans.lay (a : Ans) : a.d.canLay0 = true ∧ a.d.depth ≤ 2 := by
  have key : ∀ (z : Str) (n : Int), PyData.canLay0 (.str z) = true → (PyData.tuple [.str z, .int n]).canLay0 = true ∧ (PyData.tuple [.str z, .int n]).depth ≤ 2 := fun z n e =>
    ⟨by simp [PyData.canLay0, PyData.canLayAll0] at e ⊢; exact e, by simp [PyData.depth, PyData.depthAll]⟩
  cases a with
  | num n => exact key _ _ (strOk1 (by decide +kernel))
  | plus n => exact key _ _ (strOk1 (by decide +kernel))
  | times n => exact key _ _ (strOk1 (by decide +kernel))
  | rest n => exact key _ _ (strOk1 (by decide +kernel))
  | none => exact ⟨by decide +kernel, by decide +kernel⟩
theorem mach_lay : ∀ m : Mch, PyData.canLayAll0 (m.map rowD) = true ∧ PyData.depthAll (m.map rowD) ≤ 3
  | [] => ⟨by simp [PyData.canLayAll0], by simp [PyData.depthAll]⟩
  | r :: m => by
    obtain ⟨h1, h2⟩ := mach_lay m
    obtain ⟨a1, a2⟩ := r.1.lay
    obtain ⟨b1, b2⟩ := r.2.lay
    refine ⟨by simp [PyData.canLayAll0, PyData.canLay0, rowD, h1, a1, b1], ?_⟩
    simp only [List.map_cons, PyData.depthAll, rowD, PyData.depth]
    omega
theorem mach_shaped (m : Mch) : SeqAt.shaped (machD m) = true := by
  obtain ⟨h1, h2⟩ := mach_lay m
  show (PyData.canLay0 (.tuple (m.map rowD)) && decide (PyData.depth (.tuple (m.map rowD)) ≤ 64)) = true
  rw [Bool.and_eq_true_iff]
  refine ⟨by simp only [PyData.canLay0]; exact h1, decide_eq_true ?_⟩
  simp only [PyData.depth]
  omega
theorem nol_ints : ∀ ns : List Int, nolA (ns.map .int) = true
  | [] => rfl
  | n :: ns => by
    show (nol (.int n) && nolA (ns.map .int)) = true
    rw [nol_ints ns]
    rfl
theorem Tst.nol (t : Tst) : nol t.d = true := by
  cases t with
  | known ns =>
    show (true && ((nolA (ns.map .int)) && true)) = true
    rw [nol_ints]
    rfl
  | _ => rfl
theorem Ans.nol (a : Ans) : Mh.nol a.d = true := by cases a <;> rfl
theorem row_nol (r : Tst × Ans) : nol (rowD r) = true := by
  show (nol r.1.d && (nol r.2.d && true)) = true
  rw [r.1.nol, r.2.nol]
  rfl
theorem rows_nol : ∀ m : Mch, nolA (m.map rowD) = true
  | [] => rfl
  | r :: m => by
    show (nol (rowD r) && nolA (m.map rowD)) = true
    rw [row_nol, rows_nol m]
    rfl
theorem mach_nol (m : Mch) : nol (machD m) = true := rows_nol m
theorem mach_rows {m : Mch} (h : m.ok) : ∀ d ∈ m.map rowD, rowOk d = true := fun d hd => by
  obtain ⟨r, hr, rfl⟩ := List.mem_map.mp hd
  obtain ⟨h1, h2⟩ := h.rows r hr
  show (isTest r.1.d && isAns r.2.d) = true
  rw [Tst.ok_test h1, Ans.ok_ans h2]
  rfl
/-- need_machine of a good machine -/
theorem need_mach {K : PySem.W.Frag} {H : Hp} {Q : VK} {E : XK} {v : V} {m : Mch} (h : m.ok) (hd : Dp K H v (machD m)) (q : ∀ H', Fx [] H H' → Q .non H') : spNeedMachine K [v] H Q E :=
  ⟨v, m.map rowD, rfl, hd, fun z => h.ne (List.map_eq_nil_iff.mp z), by rw [List.length_map]; exact h.len, mach_rows h, mach_shaped m, q⟩
end Mh
/-! MhMach5a -/
namespace Mh
open PySem PySem.Spec PyProof.Rows L2
def holdsFor : Tst → Int → Int → Bool
  | .any, _, _ => true
  | .below n, q, _ => decide (q < n)
  | .rest m r, q, _ => q % m == r
  | .chance m r, q, s => (7 * q + 13 * s) % m == r
  | .known ns, q, _ => inV (.int q) (ns.map V.int)
def answerBy : Ans → Int → Option Int
  | .num n, _ => some n
  | .plus n, q => some (q + n)
  | .times n, q => some (q * n)
  | .rest m, q => some (q % m)
  | .none, _ => none
def askedM : Mch → Int → Int → Option Int
  | [], _, _ => none
  | r :: m, q, s => if holdsFor r.1 q s then answerBy r.2 q else askedM m q s
def oV : Option Int → V
  | some i => .int i
  | none => .non
def oD : Option Int → PyData
  | some i => .int i
  | none => .none
theorem dp_oV {K : PySem.W.Frag} {H : Hp} (o : Option Int) : Dp K H (oV o) (oD o) := by
  cases o with
  | none => exact .non
  | some i => exact .int i
theorem DpAll.intsI {K : PySem.W.Frag} {H : Hp} : ∀ {ns : List Int} {xs : List V}, DpAll K H xs (ns.map .int) → xs = ns.map V.int
  | [], _, h => by cases h; rfl
  | n :: ns, _, h => by
    cases h with
    | cons h1 h2 =>
      cases h1
      rw [DpAll.intsI h2]
      rfl
theorem all_flat (ns : List Int) : (ns.map V.int).all flatV = true := by
  rw [List.all_map]
  exact List.all_eq_true.mpr fun _ _ => rfl
/-- word = test[0], word == z -/
theorem rd_vS {σ : L2.St} {H : Hp} {Q : VK} {i : Nat} {x z : Str} (hv : σ[i]? = some (some (.str x))) (q : Q (.bl (x == z)) H) : tOp rEq (tVar i) (tC (.str z)) σ H Q := ⟨_, hv, rd_eqS (σ := σ) q⟩
theorem sTT {x z : Str} (h : x = z) : (x == z) = true := by rw [h]; exact beq_self_eq_true _
theorem DpAll.drop {K : PySem.W.Frag} {H : Hp} : ∀ {vs : List V} {ds : List PyData} (n : Nat), DpAll K H vs ds → DpAll K H (vs.drop n) (ds.drop n)
  | _, _, 0, h => h
  | _, _, _ + 1, .nil => .nil
  | _, _, n + 1, .cons _ t => DpAll.drop n t
end Mh
/-! MhMach5 -/
namespace Mh
open PySem PySem.Spec PyProof.Rows L2
theorem sc_holds_for : FnScope ["test", "question", "seed", "word"] ["test", "question", "seed"] (defScope s_holds_for) := ⟨rfl, rfl, rfl, by decide +kernel, rfl, by decide +kernel, by decide +kernel⟩
def spHoldsFor (K : PySem.W.Frag) : Sp := fun vs H Q _ => ∃ v t q s, vs = [v, .int q, .int s] ∧ Dp K H v (Tst.d t) ∧ t.ok ∧ Q (.bl (holdsFor t q s)) H
theorem ok_holds_for {P : Program} {w : World} {K : PySem.W.Frag} {mg : Str → Option Value} {base : Heap} (T : Tx K mg) : Def P w K mg base CX0 1 "holds_for" ["test", "question", "seed"] (spHoldsFor K) := by
  obtain ⟨fd, F⟩ := T.d_holds_for
  refine ⟨_, fd, F.ok sc_holds_for (fun vs H Q E h => ?_) (fun cdv A outer s H vs Q E hr h => ?_), F.bindsN fun _ _ _ _ _ _ us hl => match us, hl with | [_, _, _], _ => rfl, T.g_holds_for, F.kp⟩
  · obtain ⟨v, t, q, s, rfl, _⟩ := h
    rfl
  · obtain ⟨v, t, qu, sd, rfl, hd, ht, q⟩ := h
    refine ⟨_, PSs.nox (pss_cons (ps_set (i := 3) sc_holds_for.nd rfl (by first | exact Or.inl rfl | exact Or.inr rfl) (pe_ix ix_tup (pv 0) pe_int (fun _ _ => rfl)))
        (pss_cons (ps_if (pt_cmpR op_eq (pv 3) pe_str (nomark _))
        (pss_one (ps_ret (pe_cmpR op_lt (pv 1) (pe_ix ix_tup (pv 0) pe_int (fun _ _ => rfl)) (nomark _))))
        pss_nil)
        (pss_cons (ps_if (pt_cmpR op_eq (pv 3) pe_str (nomark _))
        (pss_one (ps_ret (pe_cmpR op_in_seq (pv 1) (pe_ix ix_tup (pv 0) pe_int (fun _ _ => rfl)) (by rfl))))
        pss_nil)
        (pss_cons (ps_if (pt_cmpR op_eq (pv 3) pe_str (nomark _))
        (pss_one (ps_ret (pe_cmpR op_eq (pe_op op_mod (pv 1) (pe_ix ix_tup (pv 0) pe_int (fun _ _ => rfl))) (pe_ix ix_tup (pv 0) pe_int (fun _ _ => rfl)) (nomark _))))
        pss_nil)
        (pss_one (ps_ret (pe_or (pe_cmpR op_eq (pv 3) pe_str (nomark _)) (pe_one (pe_cmpR op_eq (pe_op op_mod (pe_op op_add (pe_op op_mul (gC T.c_BY_QUESTION) (pv 1)) (pe_op op_mul (gC T.c_BY_SEED) (pv 2))) (pe_ix ix_tup (pv 0) pe_int (fun _ _ => rfl))) (pe_ix ix_tup (pv 0) pe_int (fun _ _ => rfl)) (nomark _)))))))))), ?_⟩
    cases t with
    | any =>
      obtain ⟨a, v0, rfl, hs, h0⟩ := hd.tup1
      cases h0
      refine rd_ixT (j := 0) rfl hs rfl ?_
      refine rd_vS rfl ⟨_, rfl, ifF (by decide +kernel) (rd_vS rfl ⟨_, rfl, ifF (by decide +kernel) (rd_vS rfl ⟨_, rfl, ifF (by decide +kernel) ?_⟩)⟩)⟩
      exact rd_vS rfl ⟨_, rfl, ifT (by decide +kernel) q⟩
    | below n =>
      obtain ⟨a, v0, v1, rfl, hs, h0, h1⟩ := hd.tup2
      cases h0
      cases h1
      refine rd_ixT (j := 0) rfl hs rfl ?_
      refine rd_vS rfl ⟨_, rfl, ifT (by decide +kernel) ?_⟩
      exact ⟨_, rfl, rd_ixT (j := 1) rfl hs rfl ⟨_, _, rfl, rfl, q⟩⟩
    | known ns =>
      obtain ⟨a, v0, v1, rfl, hs, h0, h1⟩ := hd.tup2
      cases h0
      obtain ⟨b, xs, rfl, hb, hx⟩ := h1.tupI
      obtain rfl := DpAll.intsI hx
      refine rd_ixT (j := 0) rfl hs rfl ?_
      refine rd_vS rfl ⟨_, rfl, ifF (by decide +kernel) (rd_vS rfl ⟨_, rfl, ifT (by decide +kernel) ?_⟩)⟩
      exact ⟨_, rfl, rd_ixT (j := 1) rfl hs rfl ⟨b, _, rfl, .inr hb, rfl, all_flat ns, q⟩⟩
    | rest m r =>
      obtain ⟨a, v0, v1, v2, rfl, hs, h0, h1, h2⟩ := hd.tup3
      cases h0
      cases h1
      cases h2
      refine rd_ixT (j := 0) rfl hs rfl ?_
      refine rd_vS rfl ⟨_, rfl, ifF (by decide +kernel) (rd_vS rfl ⟨_, rfl, ifF (by decide +kernel) (rd_vS rfl ⟨_, rfl, ifT (by decide +kernel) ?_⟩)⟩)⟩
      refine ⟨_, rfl, rd_ixT (j := 1) rfl hs rfl ⟨_, _, rfl, rfl, (by have := ht.1; omega), rd_ixT (j := 2) rfl hs rfl ⟨rfl, ?_⟩⟩⟩
      rw [dec_int]
      exact q
    | chance m r =>
      obtain ⟨a, v0, v1, v2, rfl, hs, h0, h1, h2⟩ := hd.tup3
      cases h0
      cases h1
      cases h2
      refine rd_ixT (j := 0) rfl hs rfl ?_
      refine rd_vS rfl ⟨_, rfl, ifF (by decide +kernel) (rd_vS rfl ⟨_, rfl, ifF (by decide +kernel) (rd_vS rfl ⟨_, rfl, ifF (by decide +kernel) ?_⟩)⟩)⟩
      refine rd_vS rfl ⟨_, rfl, ifF (by decide +kernel) ?_⟩
      refine ⟨_, rfl, _, _, rfl, rfl, .inl (by decide), _, rfl, _, _, rfl, rfl, .inl (by decide), _, _, rfl, rfl, ?_⟩
      refine rd_ixT (j := 1) rfl hs rfl ⟨_, _, rfl, rfl, (by have := ht.1; omega), rd_ixT (j := 2) rfl hs rfl ⟨rfl, ?_⟩⟩
      rw [dec_int]
      exact q
theorem sc_answer_by : FnScope ["answer", "question", "word"] ["answer", "question"] (defScope s_answer_by) := ⟨rfl, rfl, rfl, by decide +kernel, rfl, by decide +kernel, by decide +kernel⟩
def spAnswerBy (K : PySem.W.Frag) : Sp := fun vs H Q _ => ∃ v a q, vs = [v, .int q] ∧ Dp K H v (Ans.d a) ∧ a.ok ∧ Q (oV (answerBy a q)) H
theorem ok_answer_by {P : Program} {w : World} {K : PySem.W.Frag} {mg : Str → Option Value} {base : Heap} (T : Tx K mg) : Def P w K mg base CX0 1 "answer_by" ["answer", "question"] (spAnswerBy K) := by
  obtain ⟨fd, F⟩ := T.d_answer_by
  refine ⟨_, fd, F.ok sc_answer_by (fun vs H Q E h => ?_) (fun cdv A outer s H vs Q E hr h => ?_), F.bindsN fun _ _ _ _ _ _ us hl => match us, hl with | [_, _], _ => rfl, T.g_answer_by, F.kp⟩
  · obtain ⟨v, t, q, rfl, _⟩ := h
    rfl
  · obtain ⟨v, t, qu, rfl, hd, ht, q⟩ := h
    refine ⟨_, PSs.nox (pss_cons (ps_set (i := 2) sc_answer_by.nd rfl (by first | exact Or.inl rfl | exact Or.inr rfl) (pe_ix ix_tup (pv 0) pe_int (fun _ _ => rfl)))
        (pss_cons (ps_if (pt_cmpR op_eq (pv 2) pe_str (nomark _))
        (pss_one (ps_ret pe_non))
        pss_nil)
        (pss_cons (ps_if (pt_cmpR op_eq (pv 2) pe_str (nomark _))
        (pss_one (ps_ret (pe_ix ix_tup (pv 0) pe_int (fun _ _ => rfl))))
        pss_nil)
        (pss_cons (ps_if (pt_cmpR op_eq (pv 2) pe_str (nomark _))
        (pss_one (ps_ret (pe_op op_mod (pv 1) (pe_ix ix_tup (pv 0) pe_int (fun _ _ => rfl)))))
        pss_nil)
        (pss_one (ps_ret (pe_ifExp (pt_cmpR op_eq (pv 2) pe_str (nomark _)) (pe_op op_add (pv 1) (pe_ix ix_tup (pv 0) pe_int (fun _ _ => rfl))) (pe_op op_mul (pv 1) (pe_ix ix_tup (pv 0) pe_int (fun _ _ => rfl)))))))))), ?_⟩
    cases t with
    | none =>
      obtain ⟨a, v0, rfl, hs, h0⟩ := hd.tup1
      cases h0
      refine rd_ixT (j := 0) rfl hs rfl ?_
      exact rd_vS rfl ⟨_, rfl, ifT (by decide +kernel) q⟩
    | num n =>
      obtain ⟨a, v0, v1, rfl, hs, h0, h1⟩ := hd.tup2
      cases h0
      cases h1
      refine rd_ixT (j := 0) rfl hs rfl ?_
      refine rd_vS rfl ⟨_, rfl, ifF (by decide +kernel) (rd_vS rfl ⟨_, rfl, ifT (by decide +kernel) ?_⟩)⟩
      exact rd_ixT (j := 1) rfl hs rfl q
    | rest n =>
      obtain ⟨a, v0, v1, rfl, hs, h0, h1⟩ := hd.tup2
      cases h0
      cases h1
      refine rd_ixT (j := 0) rfl hs rfl ?_
      refine rd_vS rfl ⟨_, rfl, ifF (by decide +kernel) (rd_vS rfl ⟨_, rfl, ifF (by decide +kernel) (rd_vS rfl ⟨_, rfl, ifT (by decide +kernel) ?_⟩)⟩)⟩
      exact ⟨_, rfl, rd_ixT (j := 1) rfl hs rfl ⟨_, _, rfl, rfl, (by have := ht.1; omega), q⟩⟩
    | plus n =>
      obtain ⟨a, v0, v1, rfl, hs, h0, h1⟩ := hd.tup2
      cases h0
      cases h1
      refine rd_ixT (j := 0) rfl hs rfl ?_
      refine rd_vS rfl ⟨_, rfl, ifF (by decide +kernel) (rd_vS rfl ⟨_, rfl, ifF (by decide +kernel) (rd_vS rfl ⟨_, rfl, ifF (by decide +kernel) ?_⟩)⟩)⟩
      refine rd_vS rfl ⟨_, rfl, ifT (by decide +kernel) ?_⟩
      exact ⟨_, rfl, rd_ixT (j := 1) rfl hs rfl ⟨_, _, rfl, rfl, q⟩⟩
    | times n =>
      obtain ⟨a, v0, v1, rfl, hs, h0, h1⟩ := hd.tup2
      cases h0
      cases h1
      refine rd_ixT (j := 0) rfl hs rfl ?_
      refine rd_vS rfl ⟨_, rfl, ifF (by decide +kernel) (rd_vS rfl ⟨_, rfl, ifF (by decide +kernel) (rd_vS rfl ⟨_, rfl, ifF (by decide +kernel) ?_⟩)⟩)⟩
      refine rd_vS rfl ⟨_, rfl, ifF (by decide +kernel) ?_⟩
      exact ⟨_, rfl, rd_ixT (j := 1) rfl hs rfl ⟨_, _, rfl, rfl, .inr (by obtain ⟨h1, h2⟩ := ht; constructor <;> omega), q⟩⟩
theorem sc_asked : FnScope ["machine", "question", "seed", "test", "answer"] ["machine", "question", "seed"] (defScope s_asked) := ⟨rfl, rfl, rfl, by decide +kernel, rfl, by decide +kernel, by decide +kernel⟩
def spAsked (K : PySem.W.Frag) : Sp := fun vs H Q _ => ∃ v m q s, vs = [v, .int q, .int s] ∧ Dp K H v (machD m) ∧ (∀ r ∈ m, r.1.ok ∧ r.2.ok) ∧ Q (oV (askedM m q s)) H
theorem ok_asked {P : Program} {w : World} {K : PySem.W.Frag} {mg : Str → Option Value} {base : Heap} (T : Tx K mg) : Def P w K mg base CX0 2 "asked" ["machine", "question", "seed"] (spAsked K) := by
  obtain ⟨fd, F⟩ := T.d_asked
  have G_holds_for := ok_holds_for (P := P) (w := w) (base := base) T
  have G_answer_by := ok_answer_by (P := P) (w := w) (base := base) T
  refine ⟨_, fd, F.ok sc_asked (fun vs H Q E h => ?_) (fun cdv A outer s H vs Q E hr h => ?_), F.bindsN fun _ _ _ _ _ _ us hl => match us, hl with | [_, _, _], _ => rfl, T.g_asked, F.kp⟩
  · obtain ⟨v, t, q, s, rfl, _⟩ := h
    rfl
  · obtain ⟨v, m, qu, sd, rfl, hd, hm, q⟩ := h
    refine ⟨_, PSs.nox (pss_cons (ps_for PassesOwn.never rfl (pi_tup (pv 0)) (pg_tup rfl (pgs_cons (pg_name (i := 3) sc_asked.nd rfl (by first | exact Or.inl rfl | exact Or.inr rfl)) (pgs_cons (pg_name (i := 4) sc_asked.nd rfl (by first | exact Or.inl rfl | exact Or.inr rfl)) pgs_nil)))
        (pss_one (ps_if (pt_val (pe_def G_holds_for (hr.mono (by omega)) pass0 (pa_cons (pv 3) (pa_cons (pv 1) (pa_cons (pv 2) pa_nil)))))
        (pss_one (ps_ret (pe_def G_answer_by (hr.mono (by omega)) pass0 (pa_cons (pv 4) (pa_cons (pv 1) pa_nil)))))
        pss_nil)))
        (pss_one (ps_ret pe_non))), ?_⟩
    obtain ⟨a, xs, rfl, hs, ha⟩ := hd.tupI
    have hl : xs.length = m.length := by rw [ha.len, List.length_map]
    refine ⟨_, rfl, a, rfl, ⟨xs, hs⟩, for_it (walk_tup (xs := xs)) (fun i σ' H' => ∃ y3 y4, σ' = [some (.ref a), some (.int qu), some (.int sd), y3, y4] ∧ H' = H ∧ askedM (m.drop i) qu sd = askedM m qu sd) ⟨none, none, rfl, rfl, rfl⟩ (fun i σ' H' _ hP => ?_) (fun i x σ' H2 H3 hi hP y => ?_) (fun σ' H' hP => ?_)⟩
    · obtain ⟨_, _, _, rfl, _⟩ := hP
      exact hs
    · obtain ⟨y3, y4, rfl, rfl, he⟩ := hP
      obtain ⟨rfl, hx⟩ := y
      obtain ⟨d, g1, g2⟩ := ha.get hx
      have him : i < m.length := by rw [← hl]; exact hi
      have gr : m[i]? = some m[i] := List.getElem?_eq_getElem him
      rw [List.getElem?_map, gr] at g1
      have e1 : rowD m[i] = d := Option.some.inj g1
      subst e1
      obtain ⟨b, w1, w2, rfl, hb, k1, k2⟩ := g2.tup2
      obtain ⟨o1, o2⟩ := hm m[i] (List.getElem_mem him)
      have ed : m.drop i = m[i] :: m.drop (i + 1) := List.drop_eq_getElem_cons him
      rw [ed] at he
      have he2 : (if holdsFor m[i].1 qu sd then answerBy m[i].2 qu else askedM (m.drop (i + 1)) qu sd) = askedM m qu sd := he
      refine ⟨b, _, rfl, hb, rfl, _, _, rfl, _, _, rfl, rfl, ?_⟩
      refine ⟨w1, rfl, _, rfl, _, rfl, w1, m[i].1, qu, sd, rfl, k1, o1, _, rfl, ifB (fun c => ?_) (fun c => ?_)⟩
      · rw [c] at he2
        refine ⟨w2, rfl, _, rfl, w2, m[i].2, qu, rfl, k2, o2, ?_⟩
        have he3 : answerBy m[i].2 qu = askedM m qu sd := he2
        rw [he3]
        exact q
      · rw [c] at he2
        exact ⟨_, _, rfl, rfl, he2⟩
    · obtain ⟨y3, y4, rfl, rfl, he⟩ := hP
      rw [hl, List.drop_length] at he
      have he2 : none = askedM m qu sd := he
      rw [← he2] at q
      exact q
end Mh
/-! MhDice -/
namespace Mh
open PySem PySem.Spec PyProof.Rows L2
/-! ### dice: what the law draws from -/
structure Dice where
  a : Int
  b : Int
  r : List Int
def Dice.l (s : Dice) : List V := .int s.a :: .int s.b :: s.r.map V.int
def Dice.pre (s : Dice) : Dice := match s.r with
  | x :: r => if s.b = 0 then ⟨s.a, x, r⟩ else s
  | [] => s
def Dice.nxt (s : Dice) : Int := (s.a * 48271 + 11) % 2147483647
def off (s : Dice) (n : Int) : Int × Dice := if 0 < s.pre.b then (s.pre.b % n, ⟨s.pre.a, s.pre.b / n, s.pre.r⟩) else (s.pre.nxt / 64 % n, ⟨s.pre.nxt, s.pre.b, s.pre.r⟩)
structure Dice.ok (s : Dice) : Prop where
  a0 : 0 ≤ s.a
  a1 : s.a < 2147483647
  len : s.r.length ≤ 63
theorem Dice.pre_ok {s : Dice} (h : s.ok) : s.pre.ok := by
  obtain ⟨a, b, r⟩ := s
  cases r with
  | nil => exact h
  | cons x r =>
    show (if b = 0 then (⟨a, x, r⟩ : Dice) else ⟨a, b, x :: r⟩).ok
    split
    · exact ⟨h.a0, h.a1, by have := h.len; simp at this; show r.length ≤ 63; omega⟩
    · exact h
theorem off_ok {s : Dice} (h : s.ok) (n : Int) : (off s n).2.ok := by
  have p := Dice.pre_ok h
  unfold off
  split
  · exact ⟨p.a0, p.a1, p.len⟩
  · exact ⟨Int.emod_nonneg _ (by decide), Int.emod_lt_of_pos _ (by decide), p.len⟩
theorem off_range (s : Dice) {n : Int} (hn : 0 < n) : 0 ≤ (off s n).1 ∧ (off s n).1 < n := by
  unfold off
  split
  · exact ⟨Int.emod_nonneg _ (by omega), Int.emod_lt_of_pos _ hn⟩
  · exact ⟨Int.emod_nonneg _ (by omega), Int.emod_lt_of_pos _ hn⟩
theorem upd_self {H : Hp} {a : Addr} {o : HO} (h : H a = some o) : upd H a o = H := by
  funext b
  unfold upd
  split
  · rename_i e
    rw [e, h]
  · rfl
/-- an item of a list of one's own at a written place -/
theorem rd_ixL {K : PySem.W.Frag} {σ : L2.St} {H : Hp} {Q : VK} {i j : Nat} {a : Addr} {xs : List V} {v : V} (hv : σ[i]? = some (some (.ref a))) (hs : SqL K H a xs) (hj : xs[j]? = some v) (q : Q v H) : tOp (rIxL K) (tVar i) (tC (.int (j : Int))) σ H Q :=
  ⟨_, hv, a, xs, (j : Int), v, rfl, rfl, hs, atI_nat hj, q⟩
/-- xs[j] = v -/
theorem rd_setL {σ : L2.St} {H : Hp} {Q : L2.St → Hp → Prop} {i j : Nat} {a : Addr} {xs : List V} {v : V} (hv : σ[i]? = some (some (.ref a))) (hs : H a = some (.lst xs)) (hj : j < xs.length) (q : Q σ (upd H a (.lst (xs.set j v)))) : gSub (tVar i) (tC (.int (j : Int))) L2.rSetL v σ H Q :=
  ⟨_, hv, a, xs, (j : Int), j, rfl, rfl, hs, (by
    have h2 : (j : Int) < (xs.length : Int) := by omega
    have h1 : (0 : Int) ≤ (j : Int) := by omega
    show (if 0 ≤ (j : Int) then (if (j : Int) < (xs.length : Int) then some (j : Int).toNat else none) else _) = some j
    rw [if_pos h1, if_pos h2]
    rfl), q⟩
theorem sc_l_off : FnScope ["_law_d", "_law_upto", "_law_found"] ["_law_d", "_law_upto"] (defScope s_l_off) := ⟨rfl, rfl, rfl, by decide +kernel, rfl, by decide +kernel, by decide +kernel⟩
def spOff (_K : PySem.W.Frag) : Sp := fun vs H Q _ => ∃ dd s n, vs = [.ref dd, .int n] ∧ H dd = some (.lst (Dice.l s)) ∧ s.ok ∧ 0 < n ∧ n < 1073741824 ∧ Q (.int (off s n).1) (upd H dd (.lst (off s n).2.l))
theorem dice_len (s : Dice) : s.l.length = s.r.length + 2 := by simp [Dice.l]
theorem ok_l_off {P : Program} {w : World} {K : PySem.W.Frag} {mg : Str → Option Value} {base : Heap} (T : Tx K mg) : Def P w K mg base CX0 1 "_law_off" ["_law_d", "_law_upto"] (spOff K) := by
  obtain ⟨fd, F⟩ := T.d_l_off
  refine ⟨_, fd, F.ok sc_l_off (fun vs H Q E h => ?_) (fun cdv A outer s H vs Q E hr h => ?_), F.bindsN fun _ _ _ _ _ _ us hl => match us, hl with | [_, _], _ => rfl, T.g_l_off, F.kp⟩
  · obtain ⟨d, s, n, rfl, _⟩ := h
    rfl
  · obtain ⟨dd, s, n, rfl, hd, hs, hn, hn2, q⟩ := h
    refine ⟨_, PSs.nox (Evl.pss_cut (ps_if (PW.pt (pw_and (pt_cmpR op_eq (pe_ix ix_list (pv 0) pe_int (fun _ _ => rfl)) pe_int (nomark _)) (pw_and1 (pt_cmpR op_gt (pe_callB call_len_seq (by rfl) T.f_len (by decide +kernel) (pa_cons (pv 0) pa_nil)) pe_int (nomark _)))))
        (pss_one (ps_asg (pe_bm PySem.F.plainAttrs_list PySem.F.slot_list_pop PySem.F.type_list_pop mt_popAt (pv 0) (pa_cons pe_int pa_nil)) (pg_sub (pv 0) pe_int set_list)))
        pss_nil)
        (pss_cons (ps_if (pt_cmpR op_gt (pe_ix ix_list (pv 0) pe_int (fun _ _ => rfl)) pe_int (nomark _))
        (pss_cons (ps_set (i := 2) sc_l_off.nd rfl (by first | exact Or.inl rfl | exact Or.inr rfl) (pe_op op_mod (pe_ix ix_list (pv 0) pe_int (fun _ _ => rfl)) (pv 1)))
        (pss_cons (ps_asg (pe_op op_fdiv (pe_ix ix_list (pv 0) pe_int (fun _ _ => rfl)) (pv 1)) (pg_sub (pv 0) pe_int set_list))
        (pss_one (ps_ret (pv 2)))))
        pss_nil)
        (pss_cons (ps_asg (pe_op op_mod (pe_op op_add (pe_op op_mul (pe_ix ix_list (pv 0) pe_int (fun _ _ => rfl)) pe_int) pe_int) pe_int) (pg_sub (pv 0) pe_int set_list))
        (pss_one (ps_ret (pe_op op_mod (pe_op op_fdiv (pe_ix ix_list (pv 0) pe_int (fun _ _ => rfl)) pe_int) (pv 1))))))), ?_⟩
    refine ⟨fun σ' H' => σ' = [some (.ref dd), some (.int n), none] ∧ H' = upd H dd (.lst s.pre.l), ?_, fun σ' H' hM => ?_⟩
    · refine rd_ixL (j := 1) rfl (SqL.of hd) rfl (rd_eqI ⟨_, rfl, ifB (fun c => ?_) (fun c => ?_)⟩)
      · have c' : s.b = 0 := by simpa using c
        refine ⟨_, rfl, dd, _, rfl, .inl (SqL.of hd), _, _, rfl, rfl, _, rfl, ifB (fun c2 => ?_) (fun c2 => ?_)⟩
        · have c2' : (2 : Int) < (s.l.length : Int) := of_decide_eq_true c2
          rw [dice_len] at c2'
          obtain ⟨a, b, r⟩ := s
          cases r with
          | nil => simp at c2'
          | cons x r =>
            have c' : b = 0 := c'
            subst c'
            refine ⟨_, rfl, .inl ⟨rfl, _, SqL.of hd⟩, dd, _, 2, 2, .int x, rfl, rfl, hd, by decide, by decide, ?_, rfl, ?_⟩
            · show seqIndex? 2 (List.length _) = some 2
              rw [show (Dice.l ⟨a, 0, x :: r⟩).length = r.length + 3 by simp [Dice.l]]
              obtain ⟨e, _⟩ := ixN_seq (n := r.length + 3) (i := 2) (j := 2) (by
                unfold ixN
                rw [if_pos (by decide), if_pos (by omega)]
                rfl)
              exact e
            · refine rd_setL (j := 1) rfl upd_same (by simp [Dice.l]) ⟨rfl, ?_⟩
              rw [upd_upd]
              rfl
        · have c2' : ¬ (2 : Int) < (s.l.length : Int) := of_decide_eq_false c2
          rw [dice_len] at c2'
          obtain ⟨a, b, r⟩ := s
          cases r with
          | nil => exact ⟨rfl, (upd_self hd).symm⟩
          | cons x r => exact absurd (show (2 : Int) < ((x :: r).length + 2 : Nat) by simp; omega) c2'
      · have c' : s.b ≠ 0 := by simpa using c
        refine ⟨rfl, ?_⟩
        have e : s.pre = s := by
          obtain ⟨a, b, r⟩ := s
          cases r with
          | nil => rfl
          | cons x r => exact if_neg c'
        rw [e, upd_self hd]
    · obtain ⟨rfl, rfl⟩ := hM
      have hp : upd H dd (.lst s.pre.l) dd = some (.lst s.pre.l) := upd_same
      have hpo := Dice.pre_ok hs
      refine rd_ixL (j := 1) rfl (SqL.of hp) rfl ⟨_, _, rfl, rfl, _, rfl, ifB (fun c => ?_) (fun c => ?_)⟩
      · have c' : 0 < s.pre.b := of_decide_eq_true c
        have e : off s n = (s.pre.b % n, ⟨s.pre.a, s.pre.b / n, s.pre.r⟩) := if_pos c'
        refine rd_ixL (j := 1) rfl (SqL.of hp) rfl ⟨_, rfl, _, _, rfl, rfl, hn, ?_⟩
        refine rd_ixL (j := 1) rfl (SqL.of hp) rfl ⟨_, rfl, _, _, rfl, rfl, ⟨hn, hn2⟩, ?_⟩
        refine rd_setL (j := 1) rfl hp (by rw [dice_len]; omega) ⟨_, rfl, ?_⟩
        rw [upd_upd]
        rw [e] at q
        exact q
      · have c' : ¬ 0 < s.pre.b := of_decide_eq_false c
        have e : off s n = (s.pre.nxt / 64 % n, ⟨s.pre.nxt, s.pre.b, s.pre.r⟩) := if_neg c'
        refine rd_ixL (j := 0) rfl (SqL.of hp) rfl ⟨_, _, rfl, rfl, .inr (by decide), _, _, rfl, rfl, _, _, rfl, rfl, (show (0 : Int) < 2147483647 by decide), ?_⟩
        refine rd_setL (j := 0) rfl hp (by rw [dice_len]; omega) ?_
        refine rd_ixL (j := 0) rfl (SqL.of upd_same) rfl ⟨_, _, rfl, rfl, ⟨by decide, by decide⟩, _, rfl, _, _, rfl, rfl, hn, ?_⟩
        rw [upd_upd]
        rw [e] at q
        exact q

/-- the dice of a script -/
def diceFold (k : Int) (ns : List Int) : Int := ns.foldl (fun f c => (f * 31 + (if c < 0 then -c else c)) % 2147483647) k
def diceOf (k : Int) (ns : List Int) : Dice := ⟨diceFold k ns, 0, ns.filter fun c => decide ((10 : Int) ^ 18 ≤ c)⟩
theorem diceFold_range {k : Int} (hk : 0 ≤ k ∧ k < 2147483647) : ∀ ns : List Int, 0 ≤ diceFold k ns ∧ diceFold k ns < 2147483647 := fun ns => by
  unfold diceFold
  induction ns generalizing k with
  | nil => exact hk
  | cons c ns ih => exact ih ⟨Int.emod_nonneg _ (by decide), Int.emod_lt_of_pos _ (by decide)⟩
theorem diceOf_ok {k : Int} (hk : 0 ≤ k ∧ k < 2147483647) {ns : List Int} (hl : ns.length ≤ 63) : (diceOf k ns).ok :=
  ⟨(diceFold_range hk ns).1, (diceFold_range hk ns).2, Nat.le_trans (List.length_filter_le _ _) hl⟩
theorem diceFold_take {k : Int} {ns : List Int} {i : Nat} {x : Int} (h : ns[i]? = some x) : diceFold k (ns.take (i + 1)) = (diceFold k (ns.take i) * 31 + (if x < 0 then -x else x)) % 2147483647 := by
  unfold diceFold
  rw [List.take_add_one, h, List.foldl_append]
  rfl
theorem sc_l_dice : FnScope ["_law_script", "_law_k", "_law_found", "_law_cell"] ["_law_script", "_law_k"] (defScope s_l_dice) := ⟨rfl, rfl, rfl, by decide +kernel, rfl, by decide +kernel, by decide +kernel⟩
def spDice (K : PySem.W.Frag) : Sp := fun vs H Q _ => ∃ a ns k, vs = [.ref a, .int k] ∧ SqL K H a (ns.map V.int) ∧ ns.length ≤ 63 ∧ (0 ≤ k ∧ k < 2147483647) ∧ ∀ H' p, Fx [] H H' → H p = none → H' p = some (.lst (diceOf k ns).l) → Q (.ref p) H'
theorem ok_l_dice {P : Program} {w : World} {K : PySem.W.Frag} {mg : Str → Option Value} {base : Heap} (T : Tx K mg) : Def P w K mg base CX0 1 "_law_dice" ["_law_script", "_law_k"] (spDice K) := by
  obtain ⟨fd, F⟩ := T.d_l_dice
  refine ⟨_, fd, F.ok sc_l_dice (fun vs H Q E h => ?_) (fun cdv A outer s H vs Q E hr h => ?_), F.bindsN fun _ _ _ _ _ _ us hl => match us, hl with | [_, _], _ => rfl, T.g_l_dice, F.kp⟩
  · obtain ⟨a, ns, k, rfl, _⟩ := h
    rfl
  · obtain ⟨a, ns, k, rfl, hS, hlen, hk, q⟩ := h
    refine ⟨_, PSs.nox (pss_cons (ps_set (i := 2) sc_l_dice.nd rfl (by first | exact Or.inl rfl | exact Or.inr rfl) (pv 1))
        (pss_cons (ps_for PassesOwn.never rfl (pi_list (pv 0)) (pg_name (i := 3) sc_l_dice.nd rfl (by first | exact Or.inl rfl | exact Or.inr rfl))
        (pss_one (ps_set (i := 2) sc_l_dice.nd rfl (by first | exact Or.inl rfl | exact Or.inr rfl) (pe_op op_mod (pe_op op_add (pe_op op_mul (pv 2) pe_int) (pe_callB call_abs (by rfl) T.f_abs (by decide +kernel) (pa_cons (pv 3) pa_nil))) pe_int))))
        (pss_one (ps_ret (pe_op op_cat (pe_lst (pa_cons (pv 2) (pa_cons pe_int pa_nil))) (pe_lc (own := [("_law_cell", 3)]) (g := (gName 3)) (tt := _) rfl sc_l_dice.nd (pi_list (pv 0)) (blkOk_by (own := [("_law_cell", 3)]) (N := ["_law_script", "_law_k", "_law_found", "_law_cell"]) (sc := defScope s_l_dice) (by decide +kernel)) (fun _ _ _ _ _ => pg_name (i := 3) sc_l_dice.nd rfl (by first | exact Or.inl rfl | exact Or.inr rfl)) (fun _ _ _ _ _ => pts_one (pt_cmpR op_ge (pv 3) (pe_op op_pow pe_int pe_int) (nomark _))) (fun _ _ _ _ _ => (pv 3)))))))), ?_⟩
    refine ⟨_, rfl, _, rfl, a, rfl, ⟨_, hS⟩, for_it (walk_list (xs := ns.map V.int)) (fun i σ' H' => ∃ y3, σ' = [some (.ref a), some (.int k), some (.int (diceFold k (ns.take i))), y3] ∧ H' = H) ⟨none, rfl, rfl⟩ (fun i σ' H' _ ⟨_, _, e⟩ => by rw [e]; exact hS) (fun i x σ' H2 H3 hi hP y => ?_) (fun σ' H' hP => ?_)⟩
    · obtain ⟨y3, rfl, rfl⟩ := hP
      obtain ⟨rfl, hx⟩ := y
      rw [List.getElem?_map] at hx
      obtain ⟨c, hc, rfl⟩ := Option.map_eq_some_iff.mp hx
      have hr := diceFold_range hk (ns.take i)
      refine ⟨_, rfl, _, _, rfl, rfl, .inl ⟨by omega, by omega⟩, _, rfl, _, rfl, _, _, rfl, rfl, _, _, rfl, rfl, (show (0 : Int) < 2147483647 by decide), ?_⟩
      exact ⟨_, by rw [diceFold_take hc]; rfl, rfl⟩
    · obtain ⟨y3, rfl, rfl⟩ := hP
      rw [List.length_map, List.take_length]
      refine ⟨_, rfl, by show 2 ≤ sizeLine; decide, fun p hp => ?_⟩
      have f1 : Fx [] H' (upd H' p (.lst [.int (diceFold k ns), .int 0])) := Fx.new hp
      refine ⟨_, rfl, a, rfl, ⟨_, f1.sqL hS fun m => nomatch m⟩, fun D hD => lc_rel (walk_list (xs := ns.map V.int)) (fun i acc H2 => Fx [] (upd H' p (.lst [.int (diceFold k ns), .int 0])) H2 ∧ acc = ((ns.take i).filter fun c => decide ((10 : Int) ^ 18 ≤ c)).map V.int) ⟨Fx.new hD, rfl⟩ (fun i acc H2 r => r.1.sqL (f1.sqL hS fun m => nomatch m) fun m => nomatch m) (fun i acc x H2 H3 hi hl hDa r y => ?_) (fun acc H2 hl hDa r => ?_)⟩
      · obtain ⟨rfl, hx⟩ := y
        rw [List.getElem?_map] at hx
        obtain ⟨c, hc, rfl⟩ := Option.map_eq_some_iff.mp hx
        obtain ⟨f2, rfl⟩ := r
        refine ⟨rfl, _, rfl, _, _, rfl, rfl, ⟨by decide, by decide, by decide⟩, _, _, rfl, rfl, _, rfl, ifB (fun c2 => ?_) (fun c2 => ?_)⟩
        · refine ⟨_, rfl, Put.ok hl (by rw [List.length_map] at hi; omega) hDa ⟨f2.loc hD (Chg.lst hDa), ?_⟩⟩
          have c3 : decide ((10 : Int) ^ 18 ≤ c) = true := c2
          have e : [c].filter (fun c => decide ((10 : Int) ^ 18 ≤ c)) = [c] := List.filter_cons_of_pos (p := fun c => decide ((10 : Int) ^ 18 ≤ c)) (l := []) c3
          rw [List.take_add_one, hc, List.filter_append, List.map_append, show (some c).toList = [c] from rfl, e]
          rfl
        · refine Pvl.skip hl hDa ⟨f2, ?_⟩
          have c3 : ¬ decide ((10 : Int) ^ 18 ≤ c) = true := by
            have : decide ((10 : Int) ^ 18 ≤ c) = false := c2
            rw [this]
            decide
          have e : [c].filter (fun c => decide ((10 : Int) ^ 18 ≤ c)) = [] := List.filter_cons_of_neg (p := fun c => decide ((10 : Int) ^ 18 ≤ c)) (l := []) c3
          rw [List.take_add_one, hc, List.filter_append, show (some c).toList = [c] from rfl, e, List.append_nil]
      · obtain ⟨f2, rfl⟩ := r
        have hp2 := f2.to (upd_same (H := H') (a := p) (o := .lst [.int (diceFold k ns), .int 0])) fun m => nomatch m
        rw [List.length_map, List.take_length] at hDa
        refine ⟨p, D, _, _, rfl, rfl, hp2, hDa, ?_, fun l hl2 => ?_⟩
        · have := List.length_filter_le (fun c => decide ((10 : Int) ^ 18 ≤ c)) ns
          rw [List.length_map]
          refine sz2 ?_
          show 2 + _ ≤ 1000
          omega
        · have f3 := (f1.trans f2).trans (Fx.new (M := []) (o := HO.lst ([V.int (diceFold k ns), V.int 0] ++ ((ns.filter fun c => decide ((10 : Int) ^ 18 ≤ c)).map V.int))) hl2)
          exact q _ l f3 ((f1.trans f2).free hl2) upd_same
end Mh
/-! MhGen -/
namespace Mh
open PySem PySem.Spec PyProof.Rows L2
/-- since H0 the dice at dd alone changed; they stand at s -/
structure Dc (dd : Addr) (H0 H : Hp) (s : Dice) : Prop where
  f : Fx [dd] H0 H
  h : H dd = some (.lst s.l)
  ok : s.ok
section
variable {K : PySem.W.Frag} {dd : Addr} {H0 H H' : Hp} {s : Dice} {σ : L2.St} {Q : VK} {i : Nat}
theorem Dc.mv (D : Dc dd H0 H s) (f : Fx [] H H') : Dc dd H0 H' s := ⟨D.f.trans f.nil, f.to D.h (fun m => nomatch m), D.ok⟩
theorem Dc.new {p : Addr} {o : HO} (D : Dc dd H0 H s) (h : H p = none) : Dc dd H0 (upd H p o) s := D.mv (Fx.new h)
theorem Dc.ne {p : Addr} (D : Dc dd H0 H s) (h : H p = none) : p ≠ dd := (ne_of_none D.h h).symm
theorem Dc.go {s' : Dice} (D : Dc dd H0 H s) (E : Dc dd H H' s') : Dc dd H0 H' s' := ⟨D.f.trans E.f, E.h, E.ok⟩
/-- an object of one's own, new since H0, changed -/
theorem Dc.set {p : Addr} {o : HO} (D : Dc dd H0 H s) (h : H0 p = none) (hn : p ≠ dd) (c : Chg H p) : Dc dd H0 (upd H p o) s := ⟨D.f.loc h c, by rw [upd_ne (Ne.symm hn)]; exact D.h, D.ok⟩
theorem rd_off {n : Int} (hv : σ[i]? = some (some (.ref dd))) (D : Dc dd H0 H s) (hn : 0 < n ∧ n < 1073741824) (q : ∀ H', Dc dd H0 H' (off s n).2 → Fx [dd] H H' → Q (.int (off s n).1) H') :
    tCall (spOff K) [] E0 (tCons (tVar i) (tCons (tC (.int n)) tNil)) σ H Q := by
  refine ⟨.ref dd, hv, dd, s, n, rfl, D.h, D.ok, hn.1, hn.2, ?_⟩
  have f : Fx [dd] H (upd H dd (.lst (off s n).2.l)) := Fx.set List.mem_cons_self (Chg.lst D.h)
  exact q _ ⟨D.f.trans f, upd_same, off_ok D.ok n⟩ f
/-- of two the k-th -/
theorem rd_at2 {p : Addr} {x y : V} {k : Int} (h : H p = some (.lst [x, y])) (hk : 0 ≤ k ∧ k < 2) (q : Q (if k = 0 then x else y) H) : rIxL K (.ref p) (.int k) H Q := by
  rcases (show k = 0 ∨ k = 1 by omega) with rfl | rfl
  · exact ⟨p, _, 0, x, rfl, rfl, SqL.of h, atI_nat (j := 0) rfl, q⟩
  · exact ⟨p, _, 1, y, rfl, rfl, SqL.of h, atI_nat (j := 1) rfl, q⟩
end
/-- a turn of a state again and again -/
def drawN {α : Type} (f : Dice → α × Dice) : Nat → Dice → List α × Dice
  | 0, s => ([], s)
  | n + 1, s => ((drawN f n s).1 ++ [(f (drawN f n s).2).1], (f (drawN f n s).2).2)
theorem drawN_len {α : Type} (f : Dice → α × Dice) : ∀ (n : Nat) (s : Dice), (drawN f n s).1.length = n
  | 0, _ => rfl
  | n + 1, s => by
    show ((drawN f n s).1 ++ [_]).length = n + 1
    rw [List.length_append, drawN_len f n s]
    rfl
theorem drawN_ok {α : Type} {f : Dice → α × Dice} (h : ∀ s, s.ok → (f s).2.ok) : ∀ (n : Nat) {s : Dice}, s.ok → (drawN f n s).2.ok
  | 0, _, o => o
  | n + 1, _, o => h _ (drawN_ok h n o)
theorem drawN_all {α : Type} {f : Dice → α × Dice} {P : α → Prop} (hf : ∀ s, s.ok → (f s).2.ok) (h : ∀ s, s.ok → P (f s).1) : ∀ (n : Nat) {s : Dice}, s.ok → ∀ x ∈ (drawN f n s).1, P x
  | 0, _, _, x, m => nomatch m
  | n + 1, s, o, x, m => by
    rcases List.mem_append.mp (show x ∈ (drawN f n s).1 ++ [_] from m) with m | m
    · exact drawN_all hf h n o x m
    · rw [List.mem_singleton.mp m]
      exact h _ (drawN_ok hf n o)
/-! ### the members of a list, rising -/
def insS (x : Int) : List Int → List Int
  | [] => [x]
  | y :: r => if x < y then x :: y :: r else if x = y then y :: r else y :: insS x r
def sset (xs : List Int) : List Int := xs.foldr insS []
theorem mem_insS (x k : Int) : ∀ l : List Int, k ∈ insS x l ↔ k = x ∨ k ∈ l
  | [] => by simp [insS]
  | y :: r => by
    unfold insS
    split
    · simp
    · split
      · rename_i e
        subst e
        simp
      · rw [List.mem_cons, mem_insS x k r, List.mem_cons]
        constructor
        · rintro (h | h | h) <;> simp [h]
        · rintro (h | h | h) <;> simp [h]
theorem insS_up (x : Int) : ∀ {l : List Int}, l.Pairwise (· < ·) → (insS x l).Pairwise (· < ·)
  | [], _ => by simp [insS]
  | y :: r, h => by
    obtain ⟨h1, h2⟩ := List.pairwise_cons.mp h
    unfold insS
    split
    · rename_i c
      refine List.pairwise_cons.mpr ⟨fun z hz => ?_, h⟩
      rcases List.mem_cons.mp hz with e | e
      · omega
      · have := h1 z e
        omega
    · split
      · exact h
      · refine List.pairwise_cons.mpr ⟨fun z hz => ?_, insS_up x h2⟩
        rcases (mem_insS x z r).mp hz with e | e
        · omega
        · exact h1 z e
theorem mem_sset (k : Int) : ∀ l : List Int, k ∈ sset l ↔ k ∈ l
  | [] => by simp [sset]
  | y :: r => by
    show k ∈ insS y (sset r) ↔ _
    rw [mem_insS, mem_sset k r, List.mem_cons]
theorem sset_up : ∀ l : List Int, (sset l).Pairwise (· < ·)
  | [] => .nil
  | y :: r => insS_up y (sset_up r)
theorem up_unique : ∀ {a b : List Int}, a.Pairwise (· < ·) → b.Pairwise (· < ·) → (∀ k, k ∈ a ↔ k ∈ b) → a = b
  | [], [], _, _, _ => rfl
  | [], y :: r, _, _, h => absurd ((h y).mpr List.mem_cons_self) (by simp)
  | x :: r, [], _, _, h => absurd ((h x).mp List.mem_cons_self) (by simp)
  | x :: a, y :: b, h1, h2, h => by
    obtain ⟨p1, p2⟩ := List.pairwise_cons.mp h1
    obtain ⟨q1, q2⟩ := List.pairwise_cons.mp h2
    have e : x = y := by
      rcases List.mem_cons.mp ((h x).mp List.mem_cons_self) with e | e
      · exact e
      · rcases List.mem_cons.mp ((h y).mpr List.mem_cons_self) with e2 | e2
        · exact e2.symm
        · have := q1 x e
          have := p1 y e2
          omega
    subst e
    refine congrArg _ (up_unique p2 q2 fun k => ?_)
    constructor
    · intro m
      rcases List.mem_cons.mp ((h k).mp (List.mem_cons_of_mem _ m)) with e | e
      · have := p1 k m
        omega
      · exact e
    · intro m
      rcases List.mem_cons.mp ((h k).mpr (List.mem_cons_of_mem _ m)) with e | e
      · have := q1 k m
        omega
      · exact e
theorem rising_of : ∀ {l : List Int}, l.Pairwise (· < ·) → rising l = true
  | [], _ => rfl
  | [_], _ => rfl
  | x :: y :: r, h => by
    obtain ⟨h1, h2⟩ := List.pairwise_cons.mp h
    show (decide (x < y) && rising (y :: r)) = true
    rw [rising_of h2, decide_eq_true (h1 y List.mem_cons_self)]
    rfl
theorem insS_len (x : Int) : ∀ l : List Int, (insS x l).length ≤ l.length + 1 ∧ 1 ≤ (insS x l).length
  | [] => ⟨Nat.le_refl _, Nat.le_refl _⟩
  | y :: r => by
    unfold insS
    split
    · simp
    · split
      · simp
      · have := insS_len x r
        simp
        omega
theorem sset_len : ∀ l : List Int, (sset l).length ≤ l.length ∧ (l ≠ [] → 1 ≤ (sset l).length)
  | [] => ⟨Nat.le_refl _, fun h => absurd rfl h⟩
  | y :: r => by
    have h1 := insS_len y (sset r)
    have h2 := sset_len r
    exact ⟨by show (insS y (sset r)).length ≤ _; simp; omega, fun _ => h1.2⟩
/-! ### a drawn test, answer, machine -/
def pick2 (s : Dice) (a b : Int) : Int × Dice := (if (off (off (off s a).2 b).2 2).1 = 0 then (off s a).1 else (off (off s a).2 b).1, (off (off (off s a).2 b).2 2).2)
/-- off(d, [a, b][off(d, 2)]) -/
def offOf (s : Dice) (a b : Int) : Int × Dice := off (off s 2).2 (if (off s 2).1 = 0 then a else b)
def gTest (s : Dice) : Tst × Dice :=
  if (off s 6).1 = 0 then (.below (pick2 (off s 6).2 12 10000).1, (pick2 (off s 6).2 12 10000).2)
  else if (off s 6).1 < 3 then
    (if (off s 6).1 = 1 then .rest (2 + (offOf (off s 6).2 3 98).1) (off (offOf (off s 6).2 3 98).2 (2 + (offOf (off s 6).2 3 98).1)).1 else .chance (2 + (offOf (off s 6).2 3 98).1) (off (offOf (off s 6).2 3 98).2 (2 + (offOf (off s 6).2 3 98).1)).1,
      (off (offOf (off s 6).2 3 98).2 (2 + (offOf (off s 6).2 3 98).1)).2)
  else if (off s 6).1 = 3 then
    (.known (sset (drawN (fun s => off s 12) (1 + (off (off s 6).2 8).1).toNat (off (off s 6).2 8).2).1), (drawN (fun s => off s 12) (1 + (off (off s 6).2 8).1).toNat (off (off s 6).2 8).2).2)
  else (if (off s 6).1 = 4 then .any else .chance 2 (off (off s 6).2 2).1, (off (off s 6).2 2).2)
theorem pick2_ok {s : Dice} (h : s.ok) (a b : Int) : (pick2 s a b).2.ok := off_ok (off_ok (off_ok h a) b) 2
theorem offOf_ok {s : Dice} (h : s.ok) (a b : Int) : (offOf s a b).2.ok := off_ok (off_ok h 2) _
theorem offOf_range (s : Dice) {a b : Int} (ha : 0 < a) (hb : 0 < b) : 0 ≤ (offOf s a b).1 ∧ ((offOf s a b).1 < a ∨ (offOf s a b).1 < b) := by
  unfold offOf
  split
  · have := off_range (off s 2).2 ha
    omega
  · have := off_range (off s 2).2 hb
    omega
theorem pick2_range (s : Dice) {a b : Int} (ha : 0 < a) (hb : 0 < b) : 0 ≤ (pick2 s a b).1 ∧ ((pick2 s a b).1 < a ∨ (pick2 s a b).1 < b) := by
  have h1 := off_range s ha
  have h2 := off_range (off s a).2 hb
  show 0 ≤ (if (off (off (off s a).2 b).2 2).1 = 0 then (off s a).1 else (off (off s a).2 b).1) ∧ _
  unfold pick2
  dsimp only
  split <;> omega
theorem gTest_dice {s : Dice} (h : s.ok) : (gTest s).2.ok := by
  unfold gTest
  split
  · exact pick2_ok (off_ok h 6) _ _
  · split
    · exact off_ok (offOf_ok (off_ok h 6) _ _) _
    · split
      · exact drawN_ok (fun s o => off_ok o 12) _ (off_ok (off_ok h 6) 8)
      · exact off_ok (off_ok h 6) 2
theorem gTest_ok {s : Dice} (h : s.ok) : (gTest s).1.ok := by
  have r6 := off_range s (n := 6) (by decide)
  unfold gTest
  split
  · have := pick2_range (off s 6).2 (a := 12) (b := 10000) (by decide) (by decide)
    show _ ∧ _
    omega
  · split
    · have r := offOf_range (off s 6).2 (a := 3) (b := 98) (by decide) (by decide)
      have r2 := off_range (offOf (off s 6).2 3 98).2 (n := 2 + (offOf (off s 6).2 3 98).1) (by omega)
      dsimp only
      split
      · exact ⟨by omega, by omega, r2.1, r2.2⟩
      · exact ⟨by omega, by omega, r2.1, r2.2⟩
    · split
      · have r := off_range (off s 6).2 (n := 8) (by decide)
        have l := drawN_len (fun s => off s 12) (1 + (off (off s 6).2 8).1).toNat (off (off s 6).2 8).2
        have sl := sset_len (drawN (fun s => off s 12) (1 + (off (off s 6).2 8).1).toNat (off (off s 6).2 8).2).1
        refine ⟨sl.2 fun z => ?_, by omega, fun k hk => ?_, rising_of (sset_up _)⟩
        · rw [z] at l
          have : (0 : Nat) = (1 + (off (off s 6).2 8).1).toNat := l
          omega
        · have a := drawN_all (P := fun x => 0 ≤ x ∧ x < 12) (f := fun s => off s 12) (fun s o => off_ok o 12) (fun s _ => off_range s (by decide)) _ (off_ok (off_ok h 6) 8) k ((mem_sset k _).mp hk)
          omega
      · dsimp only
        split
        · trivial
        · have r2 := off_range (off s 6).2 (n := 2) (by decide)
          exact ⟨by decide, by decide, r2.1, r2.2⟩
end Mh
/-! MhGenB -/
namespace Mh
open PySem PySem.Spec PyProof.Rows L2
section
variable {K : PySem.W.Frag} {dd : Addr} {H0 H H' : Hp} {s : Dice} {σ : L2.St} {Q : VK} {E : XK} {i : Nat}
theorem off_sp {n : Int} (D : Dc dd H0 H s) (hn : 0 < n ∧ n < 1073741824) (q : ∀ H', Dc dd H0 H' (off s n).2 → Fx [dd] H H' → Q (.int (off s n).1) H') : spOff K [.ref dd, .int n] H Q E := by
  refine ⟨dd, s, n, rfl, D.h, D.ok, hn.1, hn.2, ?_⟩
  have f : Fx [dd] H (upd H dd (.lst (off s n).2.l)) := Fx.set List.mem_cons_self (Chg.lst D.h)
  exact q _ ⟨D.f.trans f, upd_same, off_ok D.ok n⟩ f
theorem rd_offV {n : Int} {j : Nat} (hv : σ[i]? = some (some (.ref dd))) (hw : σ[j]? = some (some (.int n))) (D : Dc dd H0 H s) (hn : 0 < n ∧ n < 1073741824) (q : ∀ H', Dc dd H0 H' (off s n).2 → Fx [dd] H H' → Q (.int (off s n).1) H') :
    tCall (spOff K) [] E0 (tCons (tVar i) (tCons (tVar j) tNil)) σ H Q := ⟨.ref dd, hv, .int n, hw, off_sp (K := K) (E := E0) D hn q⟩
theorem rd_yes {A B : Hp → Prop} (h : A H) : tYes σ H fun b H3 => if b = true then A H3 else B H3 := by
  show if true = true then A H else B H
  rw [if_pos rfl]
  exact h
theorem rd_at2I {p : Addr} {a b : Int} {k : Int} (h : H p = some (.lst [.int a, .int b])) (hk : 0 ≤ k ∧ k < 2) (q : Q (.int (if k = 0 then a else b)) H) : rIxL K (.ref p) (.int k) H Q := by
  refine rd_at2 h hk ?_
  split
  · rename_i e
    rw [if_pos e] at q
    exact q
  · rename_i e
    rw [if_neg e] at q
    exact q
/-- [off(d, a), off(d, b)][off(d, 2)] -/
theorem rd_pick2 {a b : Int} (hv : σ[i]? = some (some (.ref dd))) (D : Dc dd H0 H s) (ha : 0 < a ∧ a < 1073741824) (hb : 0 < b ∧ b < 1073741824) (q : ∀ H', Dc dd H0 H' (pick2 s a b).2 → Fx [dd] H H' → Q (.int (pick2 s a b).1) H') :
    tOp (rIxL K) (tLst (tCons (tCall (spOff K) [] E0 (tCons (tVar i) (tCons (tC (.int a)) tNil))) (tCons (tCall (spOff K) [] E0 (tCons (tVar i) (tCons (tC (.int b)) tNil))) tNil))) (tCall (spOff K) [] E0 (tCons (tVar i) (tCons (tC (.int 2)) tNil))) σ H Q := by
  refine rd_off hv D ha fun H1 D1 f1 => rd_off hv D1 hb fun H2 D2 f2 => ⟨by show 2 ≤ sizeLine; decide, fun p hp => ?_⟩
  refine rd_off hv (D2.new hp) ⟨by decide, by decide⟩ fun H3 D3 f3 => ?_
  have f : Fx [dd] H H3 := ((f1.trans f2).trans (Fx.new hp)).trans f3
  exact rd_at2I (f3.to upd_same fun m => D2.ne hp (List.mem_singleton.mp m)) (off_range _ (by decide)) (q H3 D3 f)
/-- off(d, [a, b][off(d, 2)]) -/
theorem rd_offOf {a b : Int} (hv : σ[i]? = some (some (.ref dd))) (D : Dc dd H0 H s) (ha : 0 < a ∧ a < 1073741824) (hb : 0 < b ∧ b < 1073741824) (q : ∀ H', Dc dd H0 H' (offOf s a b).2 → Fx [dd] H H' → Q (.int (offOf s a b).1) H') :
    tCall (spOff K) [] E0 (tCons (tVar i) (tCons (tOp (rIxL K) (tLst (tCons (tC (.int a)) (tCons (tC (.int b)) tNil))) (tCall (spOff K) [] E0 (tCons (tVar i) (tCons (tC (.int 2)) tNil)))) tNil)) σ H Q := by
  refine ⟨.ref dd, hv, ⟨by show 2 ≤ sizeLine; decide, fun p hp => ?_⟩⟩
  refine rd_off hv (D.new hp) ⟨by decide, by decide⟩ fun H3 D3 f3 => ?_
  refine rd_at2I (f3.to upd_same fun m => D.ne hp (List.mem_singleton.mp m)) (off_range _ (by decide)) (off_sp (K := K) (E := E0) D3 ?_ fun H4 D4 f4 => q H4 D4 (((Fx.new hp).trans f3).trans f4))
  split
  · exact ha
  · exact hb
end
theorem Dp.ints {K : PySem.W.Frag} {H : Hp} : ∀ ns : List Int, DpAll K H (ns.map V.int) (ns.map .int)
  | [] => .nil
  | n :: ns => .cons (.int n) (Dp.ints ns)
theorem rd_tup {σ : L2.St} {H : Hp} {Q : VK} {xs : List V} {n : Nat} (h : xs.length ≤ n) (hn : n ≤ 1000) (q : ∀ p, H p = none → Q (.ref p) (upd H p (.tup xs))) : xs.length ≤ sizeLine ∧ ∀ p, H p = none → Q (.ref p) (upd H p (.tup xs)) := ⟨sz2 (Nat.le_trans h hn), q⟩
theorem floor_rest (w m : Int) (hm : 0 < m) : w - w / m * m = w % m := by
  have := Int.mul_ediv_add_emod w m
  rw [Int.mul_comm] at this
  omega
theorem DpAll.two {K : PySem.W.Frag} {H : Hp} {xs : List V} {d1 d2 : PyData} (h : DpAll K H xs [d1, d2]) : ∃ v1 v2, xs = [v1, v2] ∧ Dp K H v1 d1 ∧ Dp K H v2 d2 := by
  cases h with | cons h1 t => cases t with | cons h2 t => cases t; exact ⟨_, _, rfl, h1, h2⟩
theorem ltL {n m : Nat} (h : n = m) (hm : m ≤ 1000) : n < sizeLine := Nat.lt_of_le_of_lt (h ▸ hm) (by decide)
abbrev kS (z : Str) : Key := .inr z
theorem shaped_ints (ns : List Int) : SeqAt.shaped (.list (ns.map .int)) = true := by
  obtain ⟨h1, h2⟩ := lay_ints ns
  show (PyData.canLay0 (.list (ns.map .int)) && decide (PyData.depth (.list (ns.map .int)) ≤ 64)) = true
  rw [Bool.and_eq_true_iff]
  refine ⟨by simp only [PyData.canLay0]; exact h1, decide_eq_true ?_⟩
  simp only [PyData.depth]
  omega
theorem Dp.lsti {K : PySem.W.Frag} {H : Hp} {a : Addr} {ns : List Int} (h : H a = some (.lst (ns.map V.int))) : Dp K H (.ref a) (.list (ns.map .int)) := .lst (SqL.of h) (Dp.ints ns)
theorem ne_nilL (K : PySem.W.Frag) {H : Hp} {Q : VK} {a b : Addr} {ns : List Int} (h : H a = some (.lst (ns.map V.int))) (hb : H b = some (.lst [])) (q : Q (.bl (!ns.isEmpty)) H) : rNeD K (.ref a) (.ref b) H Q := by
  refine ⟨_, .list [], Dp.lsti h, .lst (SqL.of hb) .nil, shaped_ints ns, by decide +kernel, ?_⟩
  have e : (!PyData.eqv (.list (ns.map .int)) (.list [])) = !ns.isEmpty := by
    cases ns with
    | nil => simp [PyData.eqv, PyData.eqvAll]
    | cons n ns => simp [PyData.eqv, PyData.eqvAll]
  rw [e]
  exact q
end Mh
/-! MhGen2 -/
namespace Mh
open PySem PySem.Spec PyProof.Rows L2
def spGTest (K : PySem.W.Frag) : Sp := fun vs H Q _ => ∃ dd s, vs = [.ref dd] ∧ H dd = some (.lst (Dice.l s)) ∧ s.ok ∧ ∀ H' v, Dc dd H H' (gTest s).2 → Dp K H' v (gTest s).1.d → Q v H'
theorem sc_l_test : FnScope ["_law_d", "_law_kind", "_law_m", "_law_k"] ["_law_d"] (defScope s_l_test) := ⟨rfl, rfl, rfl, by decide +kernel, rfl, by decide +kernel, by decide +kernel⟩
theorem ok_l_test {P : Program} {w : World} {K : PySem.W.Frag} {mg : Str → Option Value} {base : Heap} (T : Tx K mg) : Def P w K mg base CX0 2 "_law_test" ["_law_d"] (spGTest K) := by
  obtain ⟨fd, F⟩ := T.d_l_test
  have G__law_off := ok_l_off (P := P) (w := w) (base := base) T
  refine ⟨_, fd, F.ok sc_l_test (fun vs H Q E h => ?_) (fun cdv A outer s H vs Q E hr h => ?_), F.bindsN fun _ _ _ _ _ _ us hl => match us, hl with | [_], _ => rfl, T.g_l_test, F.kp⟩
  · obtain ⟨d, s, rfl, _⟩ := h
    rfl
  · obtain ⟨dd, s, rfl, hd, hs, q⟩ := h
    refine ⟨_, PSs.nox (pss_cons (ps_set (i := 1) sc_l_test.nd rfl (by first | exact Or.inl rfl | exact Or.inr rfl) (pe_def G__law_off (hr.mono (by omega)) pass0 (pa_cons (pv 0) (pa_cons pe_int pa_nil))))
        (pss_cons (ps_if (pt_cmpR op_eq (pv 1) pe_int (nomark _))
        (pss_one (ps_ret (pe_tup (pa_cons pe_str (pa_cons (pe_ix ix_list (pe_lst (pa_cons (pe_def G__law_off (hr.mono (by omega)) pass0 (pa_cons (pv 0) (pa_cons pe_int pa_nil))) (pa_cons (pe_def G__law_off (hr.mono (by omega)) pass0 (pa_cons (pv 0) (pa_cons pe_int pa_nil))) pa_nil))) (pe_def G__law_off (hr.mono (by omega)) pass0 (pa_cons (pv 0) (pa_cons pe_int pa_nil))) (fun _ _ => rfl)) pa_nil)))))
        pss_nil)
        (pss_cons (ps_if (pt_cmpR op_lt (pv 1) pe_int (nomark _))
        (pss_cons (ps_set (i := 2) sc_l_test.nd rfl (by first | exact Or.inl rfl | exact Or.inr rfl) (pe_op op_add pe_int (pe_def G__law_off (hr.mono (by omega)) pass0 (pa_cons (pv 0) (pa_cons (pe_ix ix_list (pe_lst (pa_cons pe_int (pa_cons pe_int pa_nil))) (pe_def G__law_off (hr.mono (by omega)) pass0 (pa_cons (pv 0) (pa_cons pe_int pa_nil))) (fun _ _ => rfl)) pa_nil)))))
        (pss_one (ps_ret (pe_tup (pa_cons (pe_ix ix_list (pe_lst (pa_cons pe_str (pa_cons pe_str pa_nil))) (pe_op op_sub (pv 1) pe_int) (fun _ _ => rfl)) (pa_cons (pv 2) (pa_cons (pe_def G__law_off (hr.mono (by omega)) pass0 (pa_cons (pv 0) (pa_cons (pv 2) pa_nil))) pa_nil)))))))
        pss_nil)
        (pss_cons (ps_if (pt_cmpR op_eq (pv 1) pe_int (nomark _))
        (pss_one (ps_ret (pe_tup (pa_cons pe_str (pa_cons (pe_callTy call_tuple_of (by rfl) T.f_tuple (by decide +kernel) (pa_cons (pe_callB (cr_sortedSet rfl) (by rfl) T.f_sorted (by decide +kernel) (pa_cons (pe_callTy (cr_setL rfl) (by rfl) T.f_set (by decide +kernel) (pa_cons (pe_lc (own := [("_law_k", 3)]) (g := (gName 3)) (tt := tYes) rfl sc_l_test.nd (pi_range1 rfl T.f_range (pa_cons (pe_op op_add pe_int (pe_def G__law_off (hr.mono (by omega)) pass0 (pa_cons (pv 0) (pa_cons pe_int pa_nil)))) pa_nil)) (blkOk_by (own := [("_law_k", 3)]) (N := ["_law_d", "_law_kind", "_law_m", "_law_k"]) (sc := defScope s_l_test) (by decide +kernel)) (fun _ _ _ _ _ => pg_name (i := 3) sc_l_test.nd rfl (by first | exact Or.inl rfl | exact Or.inr rfl)) (fun _ _ _ _ _ => pts_nil) (fun _ _ _ _ _ => (pe_def G__law_off (hr.mono (by omega)) pass0 (pa_cons (pv 0) (pa_cons pe_int pa_nil))))) pa_nil)) pa_nil)) pa_nil)) pa_nil)))))
        pss_nil)
        (pss_one (ps_ret (pe_ix ix_list (pe_lst (pa_cons (pe_tup (pa_cons pe_str pa_nil)) (pa_cons (pe_tup (pa_cons pe_str (pa_cons pe_int (pa_cons (pe_def G__law_off (hr.mono (by omega)) pass0 (pa_cons (pv 0) (pa_cons pe_int pa_nil))) pa_nil)))) pa_nil))) (pe_op op_sub (pv 1) pe_int) (fun _ _ => rfl)))))))), ?_⟩
    refine rd_off rfl (s := s) ⟨Fx.refl, hd, hs⟩ ⟨by decide, by decide⟩ fun H1 D1 _ => ?_
    have r6 := off_range s (n := 6) (by decide)
    refine ⟨_, rfl, rd_eqI ⟨_, rfl, ifB (fun c => ?_) (fun c => ?_)⟩⟩
    · have c' : (off s 6).1 = 0 := by simpa using c
      have e : gTest s = (.below (pick2 (off s 6).2 12 10000).1, (pick2 (off s 6).2 12 10000).2) := if_pos c'
      rw [e] at q
      refine rd_pick2 rfl D1 ⟨by decide, by decide⟩ ⟨by decide, by decide⟩ fun H2 D2 _ => ⟨by show 2 ≤ sizeLine; decide, fun p hp => ?_⟩
      exact q _ _ (D2.new hp) (.tup (SqT.of upd_same) (.cons (.str _) (.cons (.int _) .nil)))
    have c0 : ¬ (off s 6).1 = 0 := by simpa using c
    refine ⟨_, rfl, _, _, rfl, rfl, _, rfl, ifB (fun c => ?_) (fun c => ?_)⟩
    · have c1 : (off s 6).1 < 3 := of_decide_eq_true c
      have e : gTest s = (if (off s 6).1 = 1 then .rest (2 + (offOf (off s 6).2 3 98).1) (off (offOf (off s 6).2 3 98).2 (2 + (offOf (off s 6).2 3 98).1)).1 else .chance (2 + (offOf (off s 6).2 3 98).1) (off (offOf (off s 6).2 3 98).2 (2 + (offOf (off s 6).2 3 98).1)).1,
        (off (offOf (off s 6).2 3 98).2 (2 + (offOf (off s 6).2 3 98).1)).2) := (if_neg c0).trans (if_pos c1)
      have ro := offOf_range (off s 6).2 (a := 3) (b := 98) (by decide) (by decide)
      refine rd_offOf rfl D1 ⟨by decide, by decide⟩ ⟨by decide, by decide⟩ fun H2 D2 _ => ⟨_, _, rfl, rfl, ⟨by show 2 ≤ sizeLine; decide, fun p hp => ?_⟩⟩
      have D2' := D2.new (o := HO.lst [V.str "rest", V.str "chance"]) hp
      refine ⟨_, rfl, _, _, rfl, rfl, rd_at2 upd_same (by omega) ⟨_, rfl, ?_⟩⟩
      refine rd_offV (n := 2 + (offOf (off s 6).2 3 98).1) rfl rfl D2' (by omega) fun H3 D3 f3 => ⟨by show 3 ≤ sizeLine; decide, fun p2 hp2 => ?_⟩
      refine q _ _ (by rw [e]; exact D3.new hp2) ?_
      rw [e]
      rcases (show (off s 6).1 = 1 ∨ (off s 6).1 = 2 by omega) with k | k
      · rw [k]
        exact .tup (SqT.of upd_same) (.cons (.str _) (.cons (.int _) (.cons (.int _) .nil)))
      · rw [k]
        exact .tup (SqT.of upd_same) (.cons (.str _) (.cons (.int _) (.cons (.int _) .nil)))
    have c1 : ¬ (off s 6).1 < 3 := of_decide_eq_false c
    refine ⟨_, rfl, rd_eqI ⟨_, rfl, ifB (fun c => ?_) (fun c => ?_)⟩⟩
    · have c2 : (off s 6).1 = 3 := by simpa using c
      have e : gTest s = (.known (sset (drawN (fun s => off s 12) (1 + (off (off s 6).2 8).1).toNat (off (off s 6).2 8).2).1), (drawN (fun s => off s 12) (1 + (off (off s 6).2 8).1).toNat (off (off s 6).2 8).2).2) := (if_neg c0).trans ((if_neg c1).trans (if_pos c2))
      rw [e] at q
      have r8 := off_range (off s 6).2 (n := 8) (by decide)
      refine rd_off rfl D1 ⟨by decide, by decide⟩ fun H2 D2 _ => ⟨_, _, rfl, rfl, _, rfl, by omega, by omega, fun D hD => ?_⟩
      have nD : D ≠ dd := D2.ne hD
      refine lc_rel walk_range (fun i acc H3 => Dc dd H2 H3 (drawN (fun s => off s 12) i (off (off s 6).2 8).2).2 ∧ acc = (drawN (fun s => off s 12) i (off (off s 6).2 8).2).1.map V.int) ⟨Dc.new ⟨Fx.refl, D2.h, D2.ok⟩ hD, rfl⟩ (fun _ _ _ _ => trivial) (fun i acc x H3 H4 hi hl hDa r y => ?_) (fun acc H3 hl hDa r => ?_)
      · obtain ⟨rfl, rfl⟩ := y
        obtain ⟨D3, rfl⟩ := r
        refine ⟨rfl, rd_yes (rd_off rfl D3 ⟨by decide, by decide⟩ fun H5 D5 f5 => ?_)⟩
        have hD5 := f5.to hDa fun m => nD (List.mem_singleton.mp m)
        refine Put.ok hl (by omega) hD5 ⟨D5.set hD nD (Chg.lst hD5), ?_⟩
        show _ = List.map V.int ((drawN _ i _).1 ++ [_])
        rw [List.map_append]
        rfl
      · obtain ⟨D3, rfl⟩ := r
        have ll := drawN_len (fun s => off s 12) (1 + (off (off s 6).2 8).1).toNat (off (off s 6).2 8).2
        refine ⟨D, _, rfl, SqL.of hDa, by omega, fun a n ha hn => ⟨a, _, n, rfl, upd_same, by omega, fun ns p hup hmem hlen hp => ?_⟩⟩
        have en : ns = sset (drawN (fun s => off s 12) (1 + (off (off s 6).2 8).1).toNat (off (off s 6).2 8).2).1 := up_unique hup (sset_up _) fun k => by
          rw [hmem k, mem_sset]
          exact decide_eq_true_iff
        refine ⟨p, _, rfl, .inl ⟨SqL.of upd_same, fun l hl2 => ⟨by show 2 ≤ sizeLine; decide, fun t ht => ?_⟩⟩⟩
        have Df := (((D2.go D3).new ha).new hp).new (o := HO.tup (ns.map V.int)) hl2
        refine q _ _ (Df.new ht) ?_
        rw [en] at ht ⊢
        refine .tup (SqT.of upd_same) (.cons (.str _) (.cons (.tup (SqT.of ?_) (Dp.ints _)) .nil))
        rw [upd_ne (ne_of_none upd_same ht)]
        exact upd_same
    · have c2 : ¬ (off s 6).1 = 3 := by simpa using c
      have e : gTest s = (if (off s 6).1 = 4 then .any else .chance 2 (off (off s 6).2 2).1, (off (off s 6).2 2).2) := (if_neg c0).trans ((if_neg c1).trans (if_neg c2))
      refine ⟨by show 1 ≤ sizeLine; decide, fun p hp => ?_⟩
      refine rd_off rfl (D1.new hp) ⟨by decide, by decide⟩ fun H2 D2 f2 => ⟨by show 3 ≤ sizeLine; decide, fun p2 hp2 => ⟨by show 2 ≤ sizeLine; decide, fun l hl => ⟨_, rfl, _, _, rfl, rfl, ?_⟩⟩⟩
      have Df := (D2.new (o := HO.tup [V.str "chance", V.int 2, V.int (off (off s 6).2 2).1]) hp2).new (o := HO.lst [V.ref p, V.ref p2]) hl
      have hpp : p ≠ dd := D1.ne hp
      have hp' := f2.to upd_same fun m => hpp (List.mem_singleton.mp m)
      refine rd_at2 upd_same (by omega) ?_
      refine q _ _ (by rw [e]; exact Df) ?_
      rw [e]
      rcases (show (off s 6).1 = 4 ∨ (off s 6).1 = 5 by omega) with k | k
      · rw [k]
        refine .tup (SqT.of (xs := [.str "any"]) ?_) (.cons (.str _) .nil)
        have n1 : p ≠ p2 := ne_of_none hp' hp2
        have h1 : (upd H2 p2 (HO.tup [V.str "chance", V.int 2, V.int (off (off s 6).2 2).1])) p = some (.tup [.str "any"]) := by rw [upd_ne n1]; exact hp'
        rw [upd_ne (ne_of_none h1 hl)]
        exact h1
      · rw [k]
        refine .tup (SqT.of (xs := [.str "chance", .int 2, .int (off (off s 6).2 2).1]) ?_) (.cons (.str _) (.cons (.int _) (.cons (.int _) .nil)))
        rw [upd_ne (ne_of_none upd_same hl)]
        exact upd_same
end Mh
/-! MhGen3 -/
namespace Mh
open PySem PySem.Spec PyProof.Rows L2
def gN (s : Dice) : Int × Dice := (if (off (off (off s 7).2 19999).2 4).1 = 0 then (off (off s 7).2 19999).1 - 9999 else (off s 7).1 - 2, (off (off (off s 7).2 19999).2 4).2)
def gAns (s : Dice) : Ans × Dice :=
  if (off s 5).1 = 3 then (.rest (2 + (off (gN (off s 5).2).2 98).1), (off (gN (off s 5).2).2 98).2)
  else (if (off s 5).1 = 4 then .none else if (off s 5).1 = 0 then .num (gN (off s 5).2).1 else if (off s 5).1 = 1 then .plus (gN (off s 5).2).1 else .times (gN (off s 5).2).1, (gN (off s 5).2).2)
theorem gN_ok {s : Dice} (h : s.ok) : (gN s).2.ok := off_ok (off_ok (off_ok h _) _) _
theorem gN_range (s : Dice) : -9999 ≤ (gN s).1 ∧ (gN s).1 ≤ 9999 := by
  have h1 := off_range s (n := 7) (by decide)
  have h2 := off_range (off s 7).2 (n := 19999) (by decide)
  unfold gN
  dsimp only
  split <;> omega
theorem gAns_dice {s : Dice} (h : s.ok) : (gAns s).2.ok := by
  unfold gAns
  split
  · exact off_ok (gN_ok (off_ok h 5)) _
  · exact gN_ok (off_ok h 5)
theorem gAns_ok {s : Dice} (h : s.ok) : (gAns s).1.ok := by
  have h1 := gN_range (off s 5).2
  have h2 := off_range (gN (off s 5).2).2 (n := 98) (by decide)
  unfold gAns
  split
  · show _ ∧ _
    omega
  · dsimp only
    split
    · trivial
    · split
      · exact h1
      · split
        · exact h1
        · exact h1
def spGAns (K : PySem.W.Frag) : Sp := fun vs H Q _ => ∃ dd s, vs = [.ref dd] ∧ H dd = some (.lst (Dice.l s)) ∧ s.ok ∧ ∀ H' v, Dc dd H H' (gAns s).2 → Dp K H' v (gAns s).1.d → Q v H'
theorem rd_at3 {K : PySem.W.Frag} {H : Hp} {Q : VK} {p : Addr} {x y z : V} {k : Int} (h : H p = some (.lst [x, y, z])) (hk : 0 ≤ k ∧ k < 3) (q : Q (if k = 0 then x else if k = 1 then y else z) H) : rIxL K (.ref p) (.int k) H Q := by
  rcases (show k = 0 ∨ k = 1 ∨ k = 2 by omega) with rfl | rfl | rfl
  · exact ⟨p, _, 0, x, rfl, rfl, SqL.of h, atI_nat (j := 0) rfl, q⟩
  · exact ⟨p, _, 1, y, rfl, rfl, SqL.of h, atI_nat (j := 1) rfl, q⟩
  · exact ⟨p, _, 2, z, rfl, rfl, SqL.of h, atI_nat (j := 2) rfl, q⟩
theorem sc_l_answer : FnScope ["_law_d", "_law_kind", "_law_n"] ["_law_d"] (defScope s_l_answer) := ⟨rfl, rfl, rfl, by decide +kernel, rfl, by decide +kernel, by decide +kernel⟩
theorem ok_l_answer {P : Program} {w : World} {K : PySem.W.Frag} {mg : Str → Option Value} {base : Heap} (T : Tx K mg) : Def P w K mg base CX0 2 "_law_answer" ["_law_d"] (spGAns K) := by
  obtain ⟨fd, F⟩ := T.d_l_answer
  have G__law_off := ok_l_off (P := P) (w := w) (base := base) T
  refine ⟨_, fd, F.ok sc_l_answer (fun vs H Q E h => ?_) (fun cdv A outer s H vs Q E hr h => ?_), F.bindsN fun _ _ _ _ _ _ us hl => match us, hl with | [_], _ => rfl, T.g_l_answer, F.kp⟩
  · obtain ⟨d, s, rfl, _⟩ := h
    rfl
  · obtain ⟨dd, s, rfl, hd, hs, q⟩ := h
    refine ⟨_, PSs.nox (pss_cons (ps_set (i := 1) sc_l_answer.nd rfl (by first | exact Or.inl rfl | exact Or.inr rfl) (pe_def G__law_off (hr.mono (by omega)) pass0 (pa_cons (pv 0) (pa_cons pe_int pa_nil))))
        (pss_cons (ps_set (i := 2) sc_l_answer.nd rfl (by first | exact Or.inl rfl | exact Or.inr rfl) (pe_ix ix_list (pe_lst (pa_cons (pe_op op_sub (pe_def G__law_off (hr.mono (by omega)) pass0 (pa_cons (pv 0) (pa_cons pe_int pa_nil))) pe_int) (pa_cons (pe_op op_sub (pe_def G__law_off (hr.mono (by omega)) pass0 (pa_cons (pv 0) (pa_cons pe_int pa_nil))) pe_int) pa_nil))) (pe_callTy call_int1 (by rfl) T.f_int (by decide +kernel) (pa_cons (pe_cmpR op_eq (pe_def G__law_off (hr.mono (by omega)) pass0 (pa_cons (pv 0) (pa_cons pe_int pa_nil))) pe_int (nomark _)) pa_nil)) (fun _ _ => rfl)))
        (pss_cons (ps_if (pt_cmpR op_eq (pv 1) pe_int (nomark _))
        (pss_one (ps_ret (pe_tup (pa_cons pe_str (pa_cons (pe_op op_add pe_int (pe_def G__law_off (hr.mono (by omega)) pass0 (pa_cons (pv 0) (pa_cons pe_int pa_nil)))) pa_nil)))))
        pss_nil)
        (pss_one (ps_ret (pe_ifExp (pt_cmpR op_eq (pv 1) pe_int (nomark _)) (pe_tup (pa_cons pe_str pa_nil)) (pe_tup (pa_cons (pe_ix ix_list (pe_lst (pa_cons pe_str (pa_cons pe_str (pa_cons pe_str pa_nil)))) (pv 1) (fun _ _ => rfl)) (pa_cons (pv 2) pa_nil))))))))), ?_⟩
    refine rd_off rfl (s := s) ⟨Fx.refl, hd, hs⟩ ⟨by decide, by decide⟩ fun H1 D1 _ => ?_
    have r5 := off_range s (n := 5) (by decide)
    refine rd_off rfl D1 ⟨by decide, by decide⟩ fun H2 D2 _ => ⟨_, _, rfl, rfl, ?_⟩
    refine rd_off rfl D2 ⟨by decide, by decide⟩ fun H3 D3 _ => ⟨_, _, rfl, rfl, by show 2 ≤ sizeLine; decide, fun p hp => ?_⟩
    refine rd_off rfl (D3.new hp) ⟨by decide, by decide⟩ fun H4 D4 f4 => rd_eqI (.inr ⟨_, rfl, ?_⟩)
    refine rd_at2I (f4.to upd_same fun m => D3.ne hp (List.mem_singleton.mp m)) (by split <;> omega) ?_
    have en : (if (if ((off (off (off (off s 5).2 7).2 19999).2 4).1 == 0) = true then (1 : Int) else 0) = 0 then (off (off s 5).2 7).1 - 2 else (off (off (off s 5).2 7).2 19999).1 - 9999) = (gN (off s 5).2).1 := by
      unfold gN
      dsimp only
      by_cases c : (off (off (off (off s 5).2 7).2 19999).2 4).1 = 0
      · simp [c]
      · simp [c]
    rw [en]
    have D4 : Dc dd H H4 (gN (off s 5).2).2 := D4
    refine ⟨_, rfl, rd_eqI ⟨_, rfl, ifB (fun c => ?_) (fun c => ?_)⟩⟩
    · have c' : (off s 5).1 = 3 := by simpa using c
      have e : gAns s = (.rest (2 + (off (gN (off s 5).2).2 98).1), (off (gN (off s 5).2).2 98).2) := if_pos c'
      rw [e] at q
      refine rd_off rfl D4 ⟨by decide, by decide⟩ fun H5 D5 _ => ⟨_, _, rfl, rfl, by show 2 ≤ sizeLine; decide, fun p2 hp2 => ?_⟩
      exact q _ _ (D5.new hp2) (.tup (SqT.of upd_same) (.cons (.str _) (.cons (.int _) .nil)))
    · have c' : ¬ (off s 5).1 = 3 := by simpa using c
      have e : gAns s = (if (off s 5).1 = 4 then .none else if (off s 5).1 = 0 then .num (gN (off s 5).2).1 else if (off s 5).1 = 1 then .plus (gN (off s 5).2).1 else .times (gN (off s 5).2).1, (gN (off s 5).2).2) := if_neg c'
      refine ⟨_, rfl, rd_eqI ⟨_, rfl, ifB (fun c => ?_) (fun c => ?_)⟩⟩
      · have c2 : (off s 5).1 = 4 := by simpa using c
        rw [e, if_pos c2] at q
        refine ⟨by show 1 ≤ sizeLine; decide, fun p2 hp2 => ?_⟩
        exact q _ _ (D4.new hp2) (.tup (SqT.of upd_same) (.cons (.str _) .nil))
      · have c2 : ¬ (off s 5).1 = 4 := by simpa using c
        rw [e, if_neg c2] at q
        refine ⟨by show 3 ≤ sizeLine; decide, fun p2 hp2 => ⟨_, rfl, rd_at3 upd_same (by omega) ⟨_, rfl, by show 2 ≤ sizeLine; decide, fun p3 hp3 => ?_⟩⟩⟩
        refine q _ _ ((D4.new hp2).new hp3) ?_
        rcases (show (off s 5).1 = 0 ∨ (off s 5).1 = 1 ∨ (off s 5).1 = 2 by omega) with k | k | k
        · rw [k]
          exact .tup (SqT.of upd_same) (.cons (.str _) (.cons (.int _) .nil))
        · rw [k]
          exact .tup (SqT.of upd_same) (.cons (.str _) (.cons (.int _) .nil))
        · rw [k]
          exact .tup (SqT.of upd_same) (.cons (.str _) (.cons (.int _) .nil))
def gRow (s : Dice) : (Tst × Ans) × Dice := (((gTest s).1, (gAns (gTest s).2).1), (gAns (gTest s).2).2)
def gMach (s : Dice) : Mch × Dice := drawN gRow (1 + (offOf s 3 12).1).toNat (offOf s 3 12).2
theorem gRow_dice {s : Dice} (h : s.ok) : (gRow s).2.ok := gAns_dice (gTest_dice h)
theorem gMach_dice {s : Dice} (h : s.ok) : (gMach s).2.ok := drawN_ok (fun _ o => gRow_dice o) _ (offOf_ok h 3 12)
theorem gMach_ok {s : Dice} (h : s.ok) : (gMach s).1.ok := by
  have r := offOf_range s (a := 3) (b := 12) (by decide) (by decide)
  have l := drawN_len gRow (1 + (offOf s 3 12).1).toNat (offOf s 3 12).2
  refine ⟨fun z => ?_, ?_, fun x hx => drawN_all (P := fun r => r.1.ok ∧ r.2.ok) (fun _ o => gRow_dice o) (fun s o => ⟨gTest_ok o, gAns_ok (gTest_dice o)⟩) _ (offOf_ok h 3 12) x hx⟩
  · rw [show (drawN gRow (1 + (offOf s 3 12).1).toNat (offOf s 3 12).2).1 = [] from z] at l
    have : (0 : Nat) = (1 + (offOf s 3 12).1).toNat := l
    omega
  · show (drawN gRow (1 + (offOf s 3 12).1).toNat (offOf s 3 12).2).1.length ≤ 12
    omega
def spGMach (K : PySem.W.Frag) : Sp := fun vs H Q _ => ∃ dd s, vs = [.ref dd] ∧ H dd = some (.lst (Dice.l s)) ∧ s.ok ∧ ∀ H' v, Dc dd H H' (gMach s).2 → Dp K H' v (machD (gMach s).1) → Q v H'
theorem sc_l_machine : FnScope ["_law_d", "_law_k"] ["_law_d"] (defScope s_l_machine) := ⟨rfl, rfl, rfl, by decide +kernel, rfl, by decide +kernel, by decide +kernel⟩
theorem ok_l_machine {P : Program} {w : World} {K : PySem.W.Frag} {mg : Str → Option Value} {base : Heap} (T : Tx K mg) : Def P w K mg base CX0 3 "_law_machine" ["_law_d"] (spGMach K) := by
  obtain ⟨fd, F⟩ := T.d_l_machine
  have G__law_test := ok_l_test (P := P) (w := w) (base := base) T
  have G__law_answer := ok_l_answer (P := P) (w := w) (base := base) T
  have G__law_off := ok_l_off (P := P) (w := w) (base := base) T
  refine ⟨_, fd, F.ok sc_l_machine (fun vs H Q E h => ?_) (fun cdv A outer s H vs Q E hr h => ?_), F.bindsN fun _ _ _ _ _ _ us hl => match us, hl with | [_], _ => rfl, T.g_l_machine, F.kp⟩
  · obtain ⟨d, s, rfl, _⟩ := h
    rfl
  · obtain ⟨dd, s, rfl, hd, hs, q⟩ := h
    refine ⟨_, PSs.nox (pss_one (ps_ret (pe_callTy call_tuple_of (by rfl) T.f_tuple (by decide +kernel) (pa_cons (pe_lc (own := [("_law_k", 1)]) (g := (gName 1)) (tt := tYes) rfl sc_l_machine.nd (pi_range1 rfl T.f_range (pa_cons (pe_op op_add pe_int (pe_def G__law_off (hr.mono (by omega)) pass0 (pa_cons (pv 0) (pa_cons (pe_ix ix_list (pe_lst (pa_cons pe_int (pa_cons pe_int pa_nil))) (pe_def G__law_off (hr.mono (by omega)) pass0 (pa_cons (pv 0) (pa_cons pe_int pa_nil))) (fun _ _ => rfl)) pa_nil)))) pa_nil)) (blkOk_by (own := [("_law_k", 1)]) (N := ["_law_d", "_law_k"]) (sc := defScope s_l_machine) (by decide +kernel)) (fun _ _ _ _ _ => pg_name (i := 1) sc_l_machine.nd rfl (by first | exact Or.inl rfl | exact Or.inr rfl)) (fun _ _ _ _ _ => pts_nil) (fun _ _ _ _ _ => (pe_tup (pa_cons (pe_def G__law_test (hr.mono (by omega)) pass0 (pa_cons (pv 0) pa_nil)) (pa_cons (pe_def G__law_answer (hr.mono (by omega)) pass0 (pa_cons (pv 0) pa_nil)) pa_nil))))) pa_nil)))), ?_⟩
    have r := offOf_range s (a := 3) (b := 12) (by decide) (by decide)
    refine rd_offOf rfl (s := s) ⟨Fx.refl, hd, hs⟩ ⟨by decide, by decide⟩ ⟨by decide, by decide⟩ fun H1 D1 _ => ⟨_, _, rfl, rfl, _, rfl, by omega, by omega, fun D hD => ?_⟩
    have nD : D ≠ dd := D1.ne hD
    refine lc_rel walk_range (fun i acc H3 => Dc dd H1 H3 (drawN gRow i (offOf s 3 12).2).2 ∧ DpAll K H3 acc ((drawN gRow i (offOf s 3 12).2).1.map rowD)) ⟨Dc.new ⟨Fx.refl, D1.h, D1.ok⟩ hD, .nil⟩ (fun _ _ _ _ => trivial) (fun i acc x H3 H4 hi hl hDa r y => ?_) (fun acc H3 hl hDa r => ?_)
    · obtain ⟨rfl, rfl⟩ := y
      obtain ⟨D3, hacc⟩ := r
      refine ⟨rfl, rd_yes ⟨.ref dd, rfl, dd, _, rfl, D3.h, D3.ok, fun H5 v5 D5 k5 => ⟨.ref dd, rfl, dd, _, rfl, D5.h, D5.ok, fun H6 v6 D6 k6 => ⟨by show 2 ≤ sizeLine; decide, fun p hp => ?_⟩⟩⟩⟩
      have f : Fx [dd] H4 (upd H6 p (.tup [v5, v6])) := (D5.f.trans D6.f).trans (Fx.new hp)
      have hD7 := f.to hDa fun m => nD (List.mem_singleton.mp m)
      have D7 := ((D3.go D5).go D6).new (o := HO.tup [v5, v6]) hp
      refine Put.ok hl (by omega) hD7 ⟨D7.set hD nD (Chg.lst hD7), ?_⟩
      show DpAll K _ _ (List.map rowD ((drawN gRow i _).1 ++ [_]))
      rw [List.map_append]
      have fD : Fx [D] (upd H6 p (.tup [v5, v6])) (upd (upd H6 p (.tup [v5, v6])) D (.lst (acc ++ [.ref p]))) := Fx.set List.mem_cons_self (Chg.lst hD7)
      refine ((hacc.mv f (rows_nol _)).mv fD (rows_nol _)).snoc ?_
      have k5' := (k5.mv D6.f (Tst.nol _)).ext (Fx.new (o := HO.tup [v5, v6]) hp)
      have k6' := k6.ext (Fx.new (o := HO.tup [v5, v6]) hp)
      exact (Dp.tup (SqT.of upd_same) (.cons k5' (.cons k6' .nil))).mv fD (row_nol (gRow (drawN gRow i (offOf s 3 12).2).2).1)
    · obtain ⟨D3, hacc⟩ := r
      refine ⟨D, _, rfl, .inl ⟨SqL.of hDa, fun l hl2 => ?_⟩⟩
      exact q _ _ ((D1.go D3).new hl2) (.tup (SqT.of upd_same) (hacc.ext (Fx.new hl2)))
end Mh
/-! MhTskD -/
namespace Mh
open PySem PySem.Spec PyProof.Rows L2
/-! ### good tasks -/
structure Qst where
  x : Int
  due : Int
  twin : Option (Int × Int)
def twinD : Option (Int × Int) → PyData
  | none => .none
  | some (y, e) => .tuple [.int y, .int e]
def Qst.d (r : Qst) : PyData := .tuple [.int r.x, .int r.due, twinD r.twin]
structure Qst.ok (r : Qst) : Prop where
  x : 0 ≤ r.x ∧ r.x ≤ 9999
  due : -99999999 ≤ r.due ∧ r.due ≤ 99999999
  twin : ∀ p, r.twin = some p → (0 ≤ p.1 ∧ p.1 ≤ 9999) ∧ -99999999 ≤ p.2 ∧ p.2 ≤ 99999999
structure Tsk where
  rows : List Qst
  w : Int
structure Tsk.ok (t : Tsk) : Prop where
  ne : t.rows ≠ []
  len : t.rows.length ≤ 16
  rows : ∀ r ∈ t.rows, r.ok
  nd : (t.rows.map Qst.x).Nodup
  w : 1 ≤ t.w ∧ t.w ≤ 9
def taskD (t : Tsk) : PyData := .tuple [.tuple (t.rows.map Qst.d), .int t.w]
theorem twin_nol (o : Option (Int × Int)) : nol (twinD o) = true := by
  cases o with
  | none => rfl
  | some p => rfl
theorem qst_nol (r : Qst) : nol r.d = true := by
  show (true && (true && (nol (twinD r.twin) && true))) = true
  rw [twin_nol]
  rfl
theorem qsts_nol : ∀ rs : List Qst, nolA (rs.map Qst.d) = true
  | [] => rfl
  | r :: rs => by
    show (nol r.d && nolA (rs.map Qst.d)) = true
    rw [qst_nol, qsts_nol rs]
    rfl
theorem task_nol (t : Tsk) : nol (taskD t) = true := by
  show (nolA (t.rows.map Qst.d) && (true && true)) = true
  rw [qsts_nol]
  rfl
/-! ### what a machine answers is not too great -/
theorem answer_small {a : Ans} {q n : Int} (h : a.ok) (hq : 0 ≤ q ∧ q ≤ 9999) (e : answerBy a q = some n) : -99999999 ≤ n ∧ n ≤ 99999999 := by
  cases a with
  | none => cases e
  | num k =>
    have e1 : k = n := Option.some.inj e
    have := h.1
    have := h.2
    omega
  | plus k =>
    have e1 : q + k = n := Option.some.inj e
    have := h.1
    have := h.2
    omega
  | rest k =>
    have e1 : q % k = n := Option.some.inj e
    have h1 : 2 ≤ k := h.1
    have h2 : k ≤ 99 := h.2
    have := Int.emod_nonneg q (show k ≠ 0 by omega)
    have := Int.emod_lt_of_pos q (show 0 < k by omega)
    omega
  | times k =>
    have e1 : q * k = n := Option.some.inj e
    have h1 : -9999 ≤ k := h.1
    have h2 : k ≤ 9999 := h.2
    have m1 : q * k ≤ q * 9999 := Int.mul_le_mul_of_nonneg_left h2 hq.1
    have m2 : q * (-9999) ≤ q * k := Int.mul_le_mul_of_nonneg_left h1 hq.1
    omega
theorem asked_small : ∀ {m : Mch} {q s n : Int}, (∀ r ∈ m, r.1.ok ∧ r.2.ok) → 0 ≤ q ∧ q ≤ 9999 → askedM m q s = some n → -99999999 ≤ n ∧ n ≤ 99999999
  | [], _, _, _, _, _, e => nomatch e
  | r :: m, q, s, n, h, hq, e => by
    have e2 : (if holdsFor r.1 q s then answerBy r.2 q else askedM m q s) = some n := e
    split at e2
    · exact answer_small (h r List.mem_cons_self).2 hq e2
    · exact asked_small (fun x hx => h x (List.mem_cons_of_mem _ hx)) hq e2
theorem cut_to {xs : List V} {n : Nat} : cutV xs none (some (n : Int)) = xs.take n := by
  unfold cutV
  rw [HT.sIx_none, HT.sIx_nat, List.drop_zero, Nat.sub_zero]
  rcases Nat.le_total n xs.length with h | h
  · rw [Nat.min_eq_left h]
  · rw [Nat.min_eq_right h, List.take_length, List.take_of_length_le h]
theorem twinV {K : PySem.W.Frag} {H : Hp} {p : Addr} {y e : Int} (h : H p = some (.tup [.int y, .int e])) : Dp K H (.ref p) (twinD (some (y, e))) := .tup (SqT.of h) (.cons (.int _) (.cons (.int _) .nil))
end Mh
/-! MhTask -/
namespace Mh
open PySem PySem.Spec PyProof.Rows L2
/-! ### what is a task, to the program -/
/-- a tuple of n + 2, a question and what is due ahead -/
def isAskd (n : Nat) : PyData → Bool
  | .tuple (a :: b :: r) => r.length == n && (isNum a 0 9999 && isNum b (-99999999) 99999999)
  | _ => false
theorem sc_is_asked : FnScope ["thing", "many"] ["thing", "many"] (defScope s_is_asked) := ⟨rfl, rfl, rfl, by decide +kernel, rfl, by decide +kernel, by decide +kernel⟩
def spIsAsked (K : PySem.W.Frag) : Sp := fun vs H Q _ => ∃ (v : V) (d : PyData) (n : Nat), vs = [v, .int ((n + 2 : Nat) : Int)] ∧ Dp K H v d ∧ Q (.bl (isAskd n d)) H
theorem ok_is_asked {P : Program} {w : World} {K : PySem.W.Frag} {mg : Str → Option Value} {base : Heap} (T : Tx K mg) : Def P w K mg base CX0 2 "is_asked" ["thing", "many"] (spIsAsked K) := by
  obtain ⟨fd, F⟩ := T.d_is_asked
  have G_is_number := ok_is_number (P := P) (w := w) (base := base) T
  refine ⟨_, fd, F.ok sc_is_asked (fun vs H Q E h => ?_) (fun cdv A outer s H vs Q E hr h => ?_), F.bindsN fun _ _ _ _ _ _ us hl => match us, hl with | [_, _], _ => rfl, T.g_is_asked, F.kp⟩
  · obtain ⟨v, d, n, rfl, _⟩ := h
    rfl
  · obtain ⟨v, d, n, rfl, hd, q⟩ := h
    refine ⟨_, PSs.nox (pss_cons (ps_if (PW.pt (pw_or (pt_not (pt_val (pe_callB call_isiD (by rfl) T.f_isinstance (by decide +kernel) (pa_cons (pv 0) (pa_cons (gT (n := "tuple") T.f_tuple) pa_nil))))) (pw_or1 (pt_cmpR op_ne (pe_callB call_len_seq (by rfl) T.f_len (by decide +kernel) (pa_cons (pv 0) pa_nil)) (pv 1) (nomark _)))))
        (pss_one (ps_ret pe_bl))
        pss_nil)
        (pss_one (ps_ret (pe_and (pe_def G_is_number (hr.mono (by omega)) pass0 (pa_cons (pe_ix ix_tup (pv 0) pe_int (fun _ _ => rfl)) (pa_cons pe_int (pa_cons (gC T.c_GREAT) pa_nil)))) (pe_one (pe_def G_is_number (hr.mono (by omega)) pass0 (pa_cons (pe_ix ix_tup (pv 0) pe_int (fun _ _ => rfl)) (pa_cons (pe_op op_sub pe_int (gC T.c_MOST_DUE)) (pa_cons (gC T.c_MOST_DUE) pa_nil))))))))), ?_⟩
    refine rd_isD rfl (by decide) hd ⟨_, rfl, ?_⟩
    cases hd with
    | @tup a xs ds hs ha =>
      refine ifF rfl ⟨_, rfl, a, xs, rfl, .inr hs, _, rfl, rfl, _, rfl, ifB (fun c => ?_) (fun c => ?_)⟩
      · have c2 : ((xs.length : Nat) : Int) ≠ ((n + 2 : Nat) : Int) := fun z => by
          have : decide (V.int ((xs.length : Nat) : Int) = V.int ((n + 2 : Nat) : Int)) = true := decide_eq_true (congrArg V.int z)
          simp only [this] at c
          cases c
        have e : isAskd n (.tuple ds) = false := by
          match ds, ha.len with
          | [], _ => rfl
          | [_], _ => rfl
          | _ :: _ :: r, hl =>
            show (r.length == n && _) = false
            have : r.length ≠ n := fun z => c2 (by rw [hl, List.length_cons, List.length_cons, z])
            simp [this]
        rw [e] at q
        exact q
      · have c2 : ((xs.length : Nat) : Int) = ((n + 2 : Nat) : Int) := by
          have c3 : decide (V.int ((xs.length : Nat) : Int) = V.int ((n + 2 : Nat) : Int)) = true := by simpa using c
          exact V.int.inj (of_decide_eq_true c3)
        have hl := ha.len
        match xs, ds, ha, hl with
        | x0 :: x1 :: xs, d0 :: d1 :: ds, .cons h0 (.cons h1 ht), hl =>
          have e : isAskd n (.tuple (d0 :: d1 :: ds)) = (isNum d0 0 9999 && isNum d1 (-99999999) 99999999) := by
            show (ds.length == n && _) = _
            have e2 : ds.length = n := by
              simp only [List.length_cons] at c2 hl
              omega
            rw [e2, beq_self_eq_true, Bool.true_and]
          rw [e] at q
          refine rd_ixT (j := 0) rfl hs rfl ⟨x0, d0, 0, 9999, rfl, h0, _, rfl, ifB (fun k => ?_) (fun k => ?_)⟩
          · rw [k, Bool.true_and] at q
            refine rd_ixT (j := 1) rfl hs rfl ⟨_, _, rfl, rfl, ⟨x1, d1, -99999999, 99999999, rfl, h1, q⟩⟩
          · rw [k, Bool.false_and] at q
            exact q
        | [], _, _, _ => simp at c2; omega
        | [_], _, _, _ => simp at c2; omega
        | _ :: _ :: _, [_], _, hl => simp at hl
    | _ => exact ifT rfl q
theorem twin_lay (o : Option (Int × Int)) : (twinD o).canLay0 = true ∧ (twinD o).depth ≤ 1 := by
  cases o with
  | none => exact ⟨rfl, by decide +kernel⟩
  | some p => exact ⟨by simp [twinD, PyData.canLay0, PyData.canLayAll0], by simp [twinD, PyData.depth, PyData.depthAll]⟩
theorem qsts_lay : ∀ rs : List Qst, PyData.canLayAll0 (rs.map Qst.d) = true ∧ PyData.depthAll (rs.map Qst.d) ≤ 2
  | [] => ⟨by simp [PyData.canLayAll0], by simp [PyData.depthAll]⟩
  | r :: rs => by
    obtain ⟨h1, h2⟩ := qsts_lay rs
    obtain ⟨a1, a2⟩ := twin_lay r.twin
    refine ⟨by simp [PyData.canLayAll0, PyData.canLay0, Qst.d, h1, a1], ?_⟩
    simp only [List.map_cons, PyData.depthAll, Qst.d, PyData.depth]
    omega
theorem qsts_shaped (rs : List Qst) : SeqAt.shaped (.tuple (rs.map Qst.d)) = true := by
  obtain ⟨h1, h2⟩ := qsts_lay rs
  show (PyData.canLay0 (.tuple (rs.map Qst.d)) && decide (PyData.depth (.tuple (rs.map Qst.d)) ≤ 64)) = true
  rw [Bool.and_eq_true_iff]
  refine ⟨by simp only [PyData.canLay0]; exact h1, decide_eq_true ?_⟩
  simp only [PyData.depth]
  omega
theorem Qst.ok_askd {r : Qst} (h : r.ok) : isAskd 1 r.d = true := by
  show ((1 : Nat) == 1 && (isNum (.int r.x) 0 9999 && isNum (.int r.due) (-99999999) 99999999)) = true
  simp [isNum, h.x.1, h.x.2, h.due.1, h.due.2]
theorem twin_askd {r : Qst} {p : Int × Int} (h : r.ok) (e : r.twin = some p) : isAskd 0 (twinD r.twin) = true := by
  obtain ⟨h1, h2⟩ := h.twin p e
  rw [e]
  show ((0 : Nat) == 0 && (isNum (.int p.1) 0 9999 && isNum (.int p.2) (-99999999) 99999999)) = true
  simp [isNum, h1.1, h1.2, h2.1, h2.2]
theorem sc_need_task : FnScope ["task", "met", "number", "one"] ["task"] (defScope s_need_task) := ⟨rfl, rfl, rfl, by decide +kernel, rfl, by decide +kernel, by decide +kernel⟩
def spNeedTask (K : PySem.W.Frag) : Sp := fun vs H Q _ => ∃ (v : V) (t : Tsk), vs = [v] ∧ Dp K H v (taskD t) ∧ t.ok ∧ ∀ H', Fx [] H H' → Q .non H'
theorem ok_need_task {P : Program} {w : World} {K : PySem.W.Frag} {mg : Str → Option Value} {base : Heap} (T : Tx K mg) : Def P w K mg base CX0 3 "need_task" ["task"] (spNeedTask K) := by
  obtain ⟨fd, F⟩ := T.d_need_task
  have G_is_number := ok_is_number (P := P) (w := w) (base := base) T
  have G_is_asked := ok_is_asked (P := P) (w := w) (base := base) T
  refine ⟨_, fd, F.ok sc_need_task (fun vs H Q E h => ?_) (fun cdv A outer s H vs Q E hr h => ?_), F.bindsN fun _ _ _ _ _ _ us hl => match us, hl with | [_], _ => rfl, T.g_need_task, F.kp⟩
  · obtain ⟨v, t, rfl, _⟩ := h
    rfl
  · obtain ⟨v, t, rfl, hd, ht, q⟩ := h
    refine ⟨_, PSs.nox (pss_cons (ps_if (PW.pt (pw_or (pt_not (pt_val (pe_callB call_isiD (by rfl) T.f_isinstance (by decide +kernel) (pa_cons (pv 0) (pa_cons (gT (n := "tuple") T.f_tuple) pa_nil))))) (pw_or (pt_cmpR op_ne (pe_callB call_len_seq (by rfl) T.f_len (by decide +kernel) (pa_cons (pv 0) pa_nil)) pe_int (nomark _)) (pw_or (pt_not (pt_val (pe_callB call_isiD (by rfl) T.f_isinstance (by decide +kernel) (pa_cons (pe_ix ix_tup (pv 0) pe_int (fun _ _ => rfl)) (pa_cons (gT (n := "tuple") T.f_tuple) pa_nil))))) (pw_or1 (pt_cmpR (op_eqD hr.units) (pe_ix ix_tup (pv 0) pe_int (fun _ _ => rfl)) (pe_tup pa_nil) (nomark _)))))))
        (pss_one ps_never)
        pss_nil)
        (pss_cons (ps_if (pt_not (pt_val (pe_def G_is_number (hr.mono (by omega)) pass0 (pa_cons (pe_ix ix_tup (pv 0) pe_int (fun _ _ => rfl)) (pa_cons pe_int (pa_cons (gC T.c_MOST_WEIGHT) pa_nil))))))
        (pss_one ps_never)
        pss_nil)
        (pss_cons (ps_set (i := 1) sc_need_task.nd rfl (by first | exact Or.inl rfl | exact Or.inr rfl) pe_dnewK)
        (pss_one (ps_for PassesOwn.never rfl (pi_enumT (by rfl) T.f_enumerate (pa_cons (pe_ix ix_tup (pv 0) pe_int (fun _ _ => rfl)) pa_nil)) (pg_tup rfl (pgs_cons (pg_name (i := 2) sc_need_task.nd rfl (by first | exact Or.inl rfl | exact Or.inr rfl)) (pgs_cons (pg_name (i := 3) sc_need_task.nd rfl (by first | exact Or.inl rfl | exact Or.inr rfl)) pgs_nil)))
        (pss_cons (ps_if (PW.pt (pw_or (pt_cmpR op_eq (pv 2) (gC T.c_MOST_QUESTIONS) (nomark _)) (pw_or (pt_not (pt_val (pe_def G_is_asked (hr.mono (by omega)) pass0 (pa_cons (pv 3) (pa_cons pe_int pa_nil))))) (pw_or1 (pt_cmp (pc_din (hu_of hr) (pe_ix ix_tup (pv 3) pe_int (fun _ _ => rfl)) (pv 1)))))))
        (pss_one ps_never)
        pss_nil)
        (pss_cons (ps_if (PW.pt (pw_and (pt_cmpR op_notN (pe_ix ix_tup (pv 3) pe_int (fun _ _ => rfl)) pe_non (nomark _)) (pw_and1 (pt_not (pt_val (pe_def G_is_asked (hr.mono (by omega)) pass0 (pa_cons (pe_ix ix_tup (pv 3) pe_int (fun _ _ => rfl)) (pa_cons pe_int pa_nil))))))))
        (pss_one ps_never)
        pss_nil)
        (pss_one (ps_dput (hu_of hr) (pv 1) (pe_ix ix_tup (pv 3) pe_int (fun _ _ => rfl)) pe_bl rfl))))))))), ?_⟩
    obtain ⟨a, v0, v1, rfl, hs, h0, h1⟩ := hd.tup2
    cases h1
    obtain ⟨b, xs, rfl, hb, hx⟩ := h0.tupI
    have hxl : xs.length = t.rows.length := by rw [hx.len, List.length_map]
    refine rd_isD rfl (by decide) hd ⟨_, rfl, ifF rfl ⟨_, rfl, a, _, rfl, .inr hs, rfl, _, rfl, ifF rfl ?_⟩⟩
    refine rd_ixT (j := 0) rfl hs rfl ⟨_, "tuple", _, rfl, by decide, h0, _, rfl, ifF rfl ?_⟩
    refine rd_ixT (j := 0) rfl hs rfl ⟨by show 0 ≤ sizeLine; decide, fun p hp => ?_⟩
    have f1 : Fx [] H (upd H p (.tup [])) := Fx.new hp
    refine ⟨.tuple (t.rows.map Qst.d), .tuple [], h0.ext f1, .tup (SqT.of upd_same) .nil, qsts_shaped _, by decide +kernel, _, rfl, ifF ?_ ?_⟩
    · cases hr : t.rows with
      | nil => exact absurd hr ht.ne
      | cons d ds => simp [PyData.eqv, PyData.eqvAll]
    refine rd_ixT (j := 1) rfl (f1.sqT hs) rfl ⟨_, _, 1, 9, rfl, .int t.w, _, rfl, ifF ?_ ?_⟩
    · show (!isNum (.int t.w) 1 9) = false
      simp [isNum, ht.w.1, ht.w.2]
    intro mt hmt
    have hm0 : H mt = none := f1.free hmt
    have hupd : upd (upd H p (.tup [])) mt (.dK []) mt = some (.dK []) := upd_same
    have f2 : Fx [] H (upd (upd H p (.tup [])) mt (.dK [])) := f1.trans (Fx.new hmt)
    generalize upd (upd H p (.tup [])) mt (.dK []) = H2 at f2 hupd
    refine rd_ixT (j := 0) rfl (f2.sqT hs) rfl ⟨b, xs, rfl, f2.sqT hb, for_it (walk_enT (xs := xs)) (fun i σ' H' => ∃ y2 y3 kvs, σ' = [some (.ref a), some (.ref mt), y2, y3] ∧ Fx [] H H' ∧ H' mt = some (.dK kvs) ∧ kvs.length ≤ i ∧ ∀ (j : Int) (w : V), valV kvs (.inl j) = some w → j ∈ (t.rows.map Qst.x).take i) ⟨none, none, [], rfl, f2, hupd, Nat.le_refl _, fun _ _ h => nomatch h⟩ (fun i σ' H' _ hP => ?_) (fun i x σ' H3 H4 hi hP y => ?_) (fun σ' H' hP => ?_)⟩
    · obtain ⟨_, _, _, _, f, _⟩ := hP
      exact f.sqT hb
    · obtain ⟨y2, y3, kvs, rfl, f, hk, hkl, hkm⟩ := hP
      obtain ⟨T', u, w, rfl, hT, hu, hv⟩ := YPair.tup y
      cases hu
      have fy : Fx [] H3 H4 := YPair.fx y
      have f3 := f.trans fy
      have hk2 := fy.to hk fun z => nomatch z
      obtain ⟨d, g1, g2⟩ := hx.get hv
      rw [List.getElem?_map] at g1
      obtain ⟨r, hrr, rfl⟩ := Option.map_eq_some_iff.mp g1
      have ro := ht.rows r (List.mem_of_getElem? hrr)
      have g3 := g2.ext f3
      obtain ⟨c, w0, w1, w2, rfl, hc, k0, k1, k2⟩ := g3.tup3
      cases k0
      cases k1
      refine ⟨T', _, rfl, SqT.of hT, rfl, _, _, rfl, _, _, rfl, rfl, ?_⟩
      have hi16 : i < 16 := by
        have := ht.len
        omega
      refine ⟨_, rfl, rd_eqI ⟨_, rfl, ifF ?_ ?_⟩⟩
      · have : (i : Int) ≠ 16 := by omega
        simpa using this
      refine ⟨_, rfl, ⟨_, _, 1, rfl, g3, _, rfl, ifF ?_ ?_⟩⟩
      · rw [Qst.ok_askd ro]
        rfl
      have hnx : valV kvs (.inl r.x) = none := by
        cases e : valV kvs (.inl r.x) with
        | none => rfl
        | some w =>
          have hmem := hkm _ _ e
          exfalso
          have hgx : (t.rows.map Qst.x)[i]? = some r.x := by rw [List.getElem?_map, hrr]; rfl
          obtain ⟨j, hj, ej⟩ := List.mem_iff_getElem.mp hmem
          have hj2 : j < i := by
            rw [List.length_take] at hj
            omega
          rw [List.getElem_take] at ej
          have hil : i < (t.rows.map Qst.x).length := by rw [List.length_map]; omega
          rw [List.getElem?_eq_getElem hil] at hgx
          have e3 := Option.some.inj hgx
          have := (List.nodup_iff_pairwise_ne.mp ht.nd)
          have := List.pairwise_iff_getElem.mp this j i (by omega) hil hj2
          exact this (ej.trans e3.symm)
      refine rd_ixT (j := 0) rfl hc rfl ⟨_, rfl, mt, _, rfl, DGet.k (k := .inl r.x) hk2, _, rfl, ifF (by rw [hnx]; rfl) ?_⟩
      have fin : ∀ H5, H5 = H4 → True := fun _ _ => trivial
      have put : ∀ (σ2 : L2.St), σ2 = [some (.ref a), some (.ref mt), some (.int (i : Nat)), some (.ref c)] → (∃ y2 y3 kvs', σ2 = [some (.ref a), some (.ref mt), y2, y3] ∧ Fx [] H (upd H4 mt (.dK (putK kvs (.inl r.x) (.bl true)))) ∧ upd H4 mt (.dK (putK kvs (.inl r.x) (.bl true))) mt = some (.dK kvs') ∧ kvs'.length ≤ i + 1 ∧ ∀ (j : Int) (w : V), valV kvs' (.inl j) = some w → j ∈ (t.rows.map Qst.x).take (i + 1)) := fun σ2 e2 => by
        refine ⟨_, _, putK kvs (.inl r.x) (.bl true), e2, f3.loc hm0 (Chg.dK hk2), upd_same, ?_, fun j w hw => ?_⟩
        · rw [putK_new _ hnx, List.length_append]
          simp
          omega
        · rw [valV_put] at hw
          rw [List.take_add_one, List.getElem?_map, hrr]
          by_cases e : (Sum.inl j : Key) = .inl r.x
          · have e2 : j = r.x := Sum.inl.inj e
            rw [e2]
            simp
          · rw [if_neg e] at hw
            exact List.mem_append_left _ (hkm j w hw)
      refine rd_ixT (j := 2) rfl hc rfl ⟨rfl, _, rfl, ?_⟩
      cases htw : r.twin with
      | none =>
        rw [htw] at k2
        cases k2
        refine ifF rfl ?_
        exact ⟨_, rfl, rd_ixT (j := 0) rfl hc rfl ⟨mt, _, rfl, DPut.k (k := .inl r.x) hk2 (ltL (m := kvs.length) rfl (by omega)), put _ rfl⟩⟩
      | some p =>
        have k3 : isAskd 0 (twinD r.twin) = true := twin_askd ro htw
        have hne : w2 ≠ .non := by
          rw [htw] at k2
          obtain ⟨_, _, _, e, _⟩ := k2.tup2
          rw [e]
          exact fun z => nomatch z
        refine ifT (by rw [decide_eq_false hne]; rfl) ?_
        refine rd_ixT (j := 2) rfl hc rfl ⟨_, _, 0, rfl, k2, _, rfl, ifF (by rw [k3]; rfl) ?_⟩
        exact ⟨_, rfl, rd_ixT (j := 0) rfl hc rfl ⟨mt, _, rfl, DPut.k (k := .inl r.x) hk2 (ltL (m := kvs.length) rfl (by omega)), put _ rfl⟩⟩
    · obtain ⟨y2, y3, kvs, rfl, f, _⟩ := hP
      exact q H' f
end Mh
/-! MhAns0 -/
namespace Mh
open PySem PySem.Spec PyProof.Rows L2
/-- a def called with its keyword-only parameters written -/
structure DefN (P : Program) (w : World) (K : PySem.W.Frag) (mg : Str → Option Value) (base : Heap) (CX : CXT) (k : Nat) (x : Str) (ps : List Str) (n : Nat) (ks : List Str) (sp : Sp) : Prop where
  ex : ∃ (f : Addr) (fd : FuncData) (g : List Value → List Value → List Value) (ds : List Value), FnOk P w K mg base CX k f fd ps sp ∧ KBn K fd ps n ks g (fun a b => a ++ b) ∧ Vals [.int 0] ds ∧ Binds K fd ps ds ∧ mg x = some (.ref f) ∧ PySem.W.keepIn K (.ref f) = true
section
variable {X : Cx} {CX : CXT} {k n : Nat} {ps ks : List Str} {sp : Sp} {E : XK} {x : Str} {p pos : Pos} {e : Expr} {es : List Expr} {kws : List Keyword} {t tk : TA}
theorem pe_defN (F : DefN X.prog X.w X.K X.mg X.base CX k x ps n ks sp) (hr : Room k X.A) (hx : Passes CX X E) (ha : PA X (e :: es) t) (hkw : PK X kws tk) (hg : Gl X x := by rfl)
    (hall : (backToKw pos (keywordEach kws X.env)).all (·.1.isSome) = true := by rfl) (hks : (backToKw pos (keywordEach kws X.env)).filterMap (·.1) = ks := by rfl)
    (hdb : (x == ("__debug__" : Str)) = false := by decide) (he : starEach (e :: es) X.env = (false, eval e X.env) :: starEach es X.env := by rfl)
    (hpl : ((backTo pos (starEach (e :: es) X.env)).any (·.1) || (backToKw pos (keywordEach kws X.env)).any (·.1.isNone)) = false := by rfl) :
    PE X (.Call (.Name x p) (e :: es) kws pos) (tCallN n ks.length sp (fun a b => a ++ b) E t tk) := by
  obtain ⟨f, fd, g, ds, F1, b, _, _, gl, kp⟩ := F.ex
  exact pe_callN F1 hr hg gl kp b hx ha hkw hall hks hdb he hpl
/-- the same def, called without it: the seed 0 -/
theorem pe_defD (F : DefN X.prog X.w X.K X.mg X.base CX k x ps n ks sp) (hr : Room k X.A) (hx : Passes CX X E) (ha : PA X (e :: es) t) (hg : Gl X x := by rfl) (hdb : (x == ("__debug__" : Str)) = false := by decide)
    (he : starEach (e :: es) X.env = (false, eval e X.env) :: starEach es X.env := by rfl) (hpl : (backTo pos (starEach es X.env)).any (·.1) = false := by rfl) :
    PE X (.Call (.Name x p) (e :: es) [] pos) (tCall sp [.int 0] E t) := by
  obtain ⟨f, fd, g, ds, F1, _, hv, b, gl, kp⟩ := F.ex
  exact pe_call F1 hr hg gl kp b hv hx ha hdb he hpl
end
theorem sc_need_seed : FnScope ["seed"] ["seed"] (defScope s_need_seed) := ⟨rfl, rfl, rfl, by decide +kernel, rfl, by decide +kernel, by decide +kernel⟩
def spNeedSeed (K : PySem.W.Frag) : Sp := fun vs H Q _ => ∃ s, vs = [.int s] ∧ (0 ≤ s ∧ s ≤ 999) ∧ Q .non H
theorem ok_need_seed {P : Program} {w : World} {K : PySem.W.Frag} {mg : Str → Option Value} {base : Heap} (T : Tx K mg) : Def P w K mg base CX0 2 "need_seed" ["seed"] (spNeedSeed K) := by
  obtain ⟨fd, F⟩ := T.d_need_seed
  have G_is_number := ok_is_number (P := P) (w := w) (base := base) T
  refine ⟨_, fd, F.ok sc_need_seed (fun vs H Q E h => ?_) (fun cdv A outer s H vs Q E hr h => ?_), F.bindsN fun _ _ _ _ _ _ us hl => match us, hl with | [_], _ => rfl, T.g_need_seed, F.kp⟩
  · obtain ⟨s, rfl, _⟩ := h
    rfl
  · obtain ⟨sd, rfl, hs, q⟩ := h
    refine ⟨_, PSs.nox (pss_one (ps_if (pt_not (pt_val (pe_def G_is_number (hr.mono (by omega)) pass0 (pa_cons (pv 0) (pa_cons pe_int (pa_cons (gC T.c_MOST_SEED) pa_nil))))))
        (pss_one ps_never)
        pss_nil)), ?_⟩
    refine ⟨_, rfl, ⟨_, _, _, _, rfl, .int sd, _, rfl, ifF ?_ q⟩⟩
    show (!isNum (.int sd) 0 999) = false
    simp [isNum, hs.1, hs.2]
theorem rd_needM {K : PySem.W.Frag} {σ : L2.St} {H : Hp} {Q : VK} {i : Nat} {v : V} {m : Mch} (hv : σ[i]? = some (some v)) (h : m.ok) (hd : Dp K H v (machD m)) (q : ∀ H', Fx [] H H' → Q .non H') : tCall (spNeedMachine K) [] E0 (tCons (tVar i) tNil) σ H Q := ⟨v, hv, need_mach (Q := Q) (E := E0) h hd q⟩
end Mh
/-! MhRightOf -/
namespace Mh
open PySem PySem.Spec PyProof.Rows L2
/-! ### the questions that are answered right -/
def rightB (m : Mch) (t : Tsk) (s : Int) (k : Nat) : Bool := match t.rows[k]? with
  | some r => askedM m r.x s == some r.due
  | none => false
def natV (k : Nat) : V := .int (k : Nat)
def rightN (m : Mch) (t : Tsk) (s : Int) (i : Nat) : List Int := ((List.range i).filter (rightB m t s)).map fun k => ((k : Nat) : Int)
def rightL (m : Mch) (t : Tsk) (s : Int) : List Int := rightN m t s t.rows.length
theorem rightN_len (m : Mch) (t : Tsk) (s : Int) (i : Nat) : (rightN m t s i).length ≤ i := by
  unfold rightN
  rw [List.length_map]
  exact Nat.le_trans (List.length_filter_le _ _) (by rw [List.length_range]; exact Nat.le_refl _)
theorem rightN_succ (m : Mch) (t : Tsk) (s : Int) (i : Nat) : rightN m t s (i + 1) = rightN m t s i ++ (if rightB m t s i then [((i : Nat) : Int)] else []) := by
  unfold rightN
  rw [List.range_succ, List.filter_append, List.map_append]
  congr 1
  cases h : rightB m t s i <;> simp [List.filter, h]
theorem eq_oV {K : PySem.W.Frag} {H : Hp} {Q : VK} {o : Option Int} {n : Int} (q : Q (.bl (o == some n)) H) : rEq (oV o) (.int n) H Q := by
  cases o with
  | none => exact ⟨rfl, q⟩
  | some k =>
    refine ⟨rfl, ?_⟩
    show Q (.bl (decide (V.int k = V.int n))) H
    rw [dec_int]
    exact q
theorem sc_right_of : FnScope ["machine", "task", "seed", "number", "one"] ["machine", "task", "seed"] (defScope s_right_of) := ⟨rfl, rfl, rfl, by decide +kernel, rfl, by decide +kernel, by decide +kernel⟩
def spRightOf (K : PySem.W.Frag) : Sp := fun vs H Q _ => ∃ (v u : V) (m : Mch) (t : Tsk) (s : Int), vs = [v, u, .int s] ∧ Dp K H v (machD m) ∧ Dp K H u (taskD t) ∧ m.ok ∧ t.ok ∧
  ∀ (H' : Hp) (p : Addr), Fx [] H H' → H p = none → H' p = some (.lst ((rightL m t s).map V.int)) → Q (.ref p) H'
theorem ok_right_of {P : Program} {w : World} {K : PySem.W.Frag} {mg : Str → Option Value} {base : Heap} (T : Tx K mg) : Def P w K mg base CX0 3 "right_of" ["machine", "task", "seed"] (spRightOf K) := by
  obtain ⟨fd, F⟩ := T.d_right_of
  have G_asked := ok_asked (P := P) (w := w) (base := base) T
  refine ⟨_, fd, F.ok sc_right_of (fun vs H Q E h => ?_) (fun cdv A outer s H vs Q E hr h => ?_), F.bindsN fun _ _ _ _ _ _ us hl => match us, hl with | [_, _, _], _ => rfl, T.g_right_of, F.kp⟩
  · obtain ⟨v, u, m, t, s, rfl, _⟩ := h
    rfl
  · obtain ⟨v, u, m, t, sd, rfl, hm, hd, hmo, ht, q⟩ := h
    refine ⟨_, PSs.nox (pss_one (ps_ret (pe_lc (own := [("number", 3), ("one", 4)]) (g := (gTup _ 2 (gCons (gName 3) (gCons (gName 4) gNil)))) (tt := _) rfl sc_right_of.nd (pi_enumT (by rfl) T.f_enumerate (pa_cons (pe_ix ix_tup (pv 1) pe_int (fun _ _ => rfl)) pa_nil)) (blkOk_by (own := [("number", 3), ("one", 4)]) (N := ["machine", "task", "seed", "number", "one"]) (sc := defScope s_right_of) (by decide +kernel)) (fun _ _ _ _ _ => pg_tup rfl (pgs_cons (pg_name (i := 3) sc_right_of.nd rfl (by first | exact Or.inl rfl | exact Or.inr rfl)) (pgs_cons (pg_name (i := 4) sc_right_of.nd rfl (by first | exact Or.inl rfl | exact Or.inr rfl)) pgs_nil))) (fun _ _ _ _ _ => pts_one (pt_cmpR op_eq (pe_def G_asked (hr.mono (by omega)) pass0 (pa_cons (pv 0) (pa_cons (pe_ix (kix_tup (K := K) rfl) (pv 4) pe_int (fun _ _ => rfl)) (pa_cons (pv 2) pa_nil)))) (pe_ix (kix_tup (K := K) rfl) (pv 4) pe_int (fun _ _ => rfl)) (nomark _))) (fun _ _ _ _ _ => (pv 3))))), ?_⟩
    obtain ⟨a, v0, v1, rfl, hs, h0, h1⟩ := hd.tup2
    cases h1
    obtain ⟨b, xs, rfl, hb, hx⟩ := h0.tupI
    have hxl : xs.length = t.rows.length := by rw [hx.len, List.length_map]
    have hlen := ht.len
    refine rd_ixT (j := 0) rfl hs rfl ⟨b, xs, rfl, hb, fun D hD => lc_rel (walk_enT (xs := xs)) (fun i acc H2 => Fx [] H H2 ∧ acc = (rightN m t sd i).map V.int) ⟨Fx.new hD, rfl⟩ (fun i acc H2 r => r.1.sqT hb) (fun i acc x H2 H3 hi hl hDa r y => ?_) (fun acc H2 hl hDa r => ?_)⟩
    · obtain ⟨T', u, w, rfl, hT, hu, hv⟩ := YPair.tup y
      cases hu
      have fy : Fx [] H2 H3 := YPair.fx y
      obtain ⟨f, rfl⟩ := r
      have f3 := f.trans fy
      have hDa3 := fy.to hDa fun z => nomatch z
      obtain ⟨d, g1, g2⟩ := hx.get hv
      rw [List.getElem?_map] at g1
      obtain ⟨r, hrr, rfl⟩ := Option.map_eq_some_iff.mp g1
      have g3 := g2.ext f3
      obtain ⟨c, w0, w1, w2, rfl, hc, k0, k1, k2⟩ := g3.tup3
      cases k0
      cases k1
      refine ⟨T', _, rfl, SqT.of hT, rfl, _, _, rfl, _, _, rfl, rfl, rfl, ?_⟩
      have er : rightB m t sd i = (askedM m r.x sd == some r.due) := by
        unfold rightB
        rw [hrr]
      refine ⟨v, rfl, rd_ixT (j := 0) rfl hc rfl ⟨_, rfl, v, m, r.x, sd, rfl, hm.ext f3, hmo.rows, rd_ixT (j := 1) rfl hc rfl (eq_oV (K := K) ⟨_, rfl, ?_⟩)⟩⟩
      rw [← er]
      refine ifB (fun c2 => ?_) (fun c2 => ?_)
      · refine ⟨_, rfl, Put.ok hl (by omega) hDa3 ⟨f3.loc hD (Chg.lst hDa3), ?_⟩⟩
        rw [rightN_succ, c2, List.map_append]
        rfl
      · refine Pvl.skip hl hDa3 ⟨f3, ?_⟩
        rw [rightN_succ, c2]
        simp
    · obtain ⟨f, rfl⟩ := r
      rw [hxl] at hDa
      exact q H2 D f hD hDa
end Mh
/-! MhHallM -/
namespace Mh
open PySem PySem.Spec PyProof.Rows L2
/-! ### a hall, in plain Lean -/
structure RunM where
  p : Str
  g : Str
  s : Int
  x : Int
  c : Bool
inductive Deed where
  | task (n : Str) (t : Tsk)
  | machine (n : Str) (m : Mch)
  | tell (m t : Str) (s x : Int)
  | strike (k : Nat)
  | clean
  | publish
/-- rank, name, mean -/
abbrev RowM := Int × Str × Int × Int
structure HallM where
  goals : List (Str × Tsk)
  players : List (Str × Mch)
  runs : List RunM
  sheets : List (List RowM)
  rows : List Deed
def hall0 : HallM := ⟨[], [], [], [], []⟩
def Deed.d : Deed → PyData
  | .task n t => .tuple [.str "task", .str n, taskD t]
  | .machine n m => .tuple [.str "machine", .str n, machD m]
  | .tell m t s x => .tuple [.str "tell", .str m, .str t, .int s, .int x]
  | .strike k => .tuple [.str "strike", .int k]
  | .clean => .tuple [.str "clean"]
  | .publish => .tuple [.str "publish"]
def shareD (p : Int × Int) : PyData := .tuple [.int p.1, .int p.2]
def rowMD (r : RowM) : PyData := .tuple [.int r.1, .str r.2.1, shareD r.2.2]
def optD : Option Int → PyData
  | some i => .int i
  | none => .none
/-- (name, old rank, new rank) -/
abbrev ChgM := Str × Option Int × Option Int
def chgD (c : ChgM) : PyData := .tuple [.str c.1, optD c.2.1, optD c.2.2]
theorem deed_nol (e : Deed) : nol e.d = true := by
  cases e with
  | task n t =>
    show (true && (true && (nol (taskD t) && true))) = true
    rw [task_nol]
    rfl
  | machine n m =>
    show (true && (true && (nol (machD m) && true))) = true
    rw [mach_nol]
    rfl
  | _ => rfl
theorem deeds_nol : ∀ es : List Deed, nolA (es.map Deed.d) = true
  | [] => rfl
  | e :: es => by
    show (nol e.d && nolA (es.map Deed.d)) = true
    rw [deed_nol, deeds_nol es]
    rfl
theorem row_nolM (r : RowM) : nol (rowMD r) = true := rfl
theorem rowsM_nol : ∀ es : List RowM, nolA (es.map rowMD) = true
  | [] => rfl
  | e :: es => by
    show (nol (rowMD e) && nolA (es.map rowMD)) = true
    rw [row_nolM, rowsM_nol es]
    rfl
/-! ### runs that count -/
def mineB (n g : Str) (r : RunM) : Bool := r.c && (decide (r.p = n) && decide (r.g = g))
def cntB (rs : List RunM) (n g : Str) (k : Nat) : Bool := match rs[k]? with
  | some r => mineB n g r
  | none => false
def cntTo (rs : List RunM) (n g : Str) (i : Nat) : List Nat := (List.range i).filter (cntB rs n g)
def cntL (rs : List RunM) (n g : Str) : List Nat := cntTo rs n g rs.length
def ptsAt (rs : List RunM) (k : Nat) : Int := match rs[k]? with
  | some r => r.x
  | none => 0
def scoresL (rs : List RunM) (n g : Str) : List Int := (rs.filter (mineB n g)).map RunM.x
theorem cntTo_succ (rs : List RunM) (n g : Str) (i : Nat) : cntTo rs n g (i + 1) = cntTo rs n g i ++ (if cntB rs n g i then [i] else []) := by
  unfold cntTo
  rw [List.range_succ, List.filter_append]
  congr 1
  cases h : cntB rs n g i <;> simp [List.filter, h]
theorem cnt_pts : ∀ (rs : List RunM) (n g : Str), (cntL rs n g).map (ptsAt rs) = scoresL rs n g := by
  intro rs n g
  have key : ∀ i, i ≤ rs.length → (cntTo rs n g i).map (ptsAt rs) = ((rs.take i).filter (mineB n g)).map RunM.x := by
    intro i
    induction i with
    | zero => intro _; rfl
    | succ i ih =>
      intro hi
      have hlt : i < rs.length := hi
      rw [cntTo_succ, List.map_append, ih (Nat.le_of_lt hlt), List.take_add_one, List.filter_append, List.map_append]
      congr 1
      have e : rs[i]? = some rs[i] := List.getElem?_eq_getElem hlt
      have e1 : cntB rs n g i = mineB n g rs[i] := by
        unfold cntB
        rw [e]
      rw [e1, e]
      cases h : mineB n g rs[i] with
      | true =>
        rw [if_pos rfl]
        show [ptsAt rs i] = (List.filter (mineB n g) [rs[i]]).map RunM.x
        rw [List.filter_cons_of_pos h]
        unfold ptsAt
        rw [e]
        rfl
      | false =>
        rw [if_neg (by decide)]
        show [] = (List.filter (mineB n g) [rs[i]]).map RunM.x
        rw [List.filter_cons_of_neg (by rw [h]; decide)]
        rfl
  have := key rs.length (Nat.le_refl _)
  rw [List.take_length] at this
  exact this
theorem cnt_lt {rs : List RunM} {n g : Str} {k : Nat} (h : k ∈ cntL rs n g) : k < rs.length := List.mem_range.mp (List.mem_filter.mp h).1
theorem cnt_get {rs : List RunM} {n g : Str} {k : Nat} (h : k ∈ cntL rs n g) : ∃ r, rs[k]? = some r ∧ mineB n g r = true := by
  have h2 := (List.mem_filter.mp h).2
  unfold cntB at h2
  split at h2
  · rename_i r e
    exact ⟨r, e, h2⟩
  · cases h2
theorem cnt_len (rs : List RunM) (n g : Str) : (cntL rs n g).length = (scoresL rs n g).length := by rw [← cnt_pts, List.length_map]
/-! ### means, ranks -/
def shareI (o u : Int) : Int × Int := (o / (Int.gcd o u : Int), u / (Int.gcd o u : Int))
def someL (rs : List RunM) (n g : Str) (gone : List Int) : List Int := ((cntL rs n g).filter fun k => !gone.contains ((k : Nat) : Int)).map (ptsAt rs)
def meanGo (rs : List RunM) (n : Str) (gone : List Int) : List (Str × Tsk) → Int → Int → Option (Int × Int)
  | [], o, u => some (o, u)
  | q :: r, o, u => if (someL rs n q.1 gone).isEmpty then none else
    meanGo rs n gone r (o * ((someL rs n q.1 gone).length : Int) + q.2.w * (someL rs n q.1 gone).sum * u) (u * ((someL rs n q.1 gone).length : Int))
def meanW (h : HallM) (n : Str) (gone : List Int) : Option (Int × Int) := (meanGo h.runs n gone h.goals 0 1).map fun p => shareI p.1 p.2
def isRankd (h : HallM) (n : Str) : Bool := h.goals.all fun q => !(cntL h.runs n q.1).isEmpty
def names (h : HallM) : List Str := sortS (h.players.map (·.1))
def rankedL (h : HallM) : List Str := if h.goals.isEmpty then [] else (names h).filter (isRankd h)
def meanOf (h : HallM) (n : Str) : Int × Int := (meanW h n []).getD (0, 1)
def meansL (h : HallM) : List (Str × Int × Int) := (rankedL h).map fun n => (n, meanOf h n)
def gtM (a b : Int × Int) : Bool := decide (b.1 * a.2 < a.1 * b.2)
def rankOf (h : HallM) (m : Int × Int) : Int := 1 + (((meansL h).filter fun q => gtM q.2 m).length : Nat)
def tableL (h : HallM) : List (Str × Int) := (meansL h).map fun q => (q.1, rankOf h q.2)
def rowsRaw (h : HallM) : List RowM := (meansL h).map fun q => (rankOf h q.2, q.1, q.2)
def leRow (a b : RowM) : Bool := leK (a.1, a.2.1) (b.1, b.2.1)
def ranksL (h : HallM) : List RowM := (rowsRaw h).mergeSort leRow
def chgs (ns : List Str) (before now : List (Str × Int)) : List ChgM := (ns.filter fun n => decide (before.lookup n ≠ now.lookup n)).map fun n => (n, before.lookup n, now.lookup n)
def changesL (h : HallM) (before : List (Str × Int)) : List ChgM := chgs (names h) before (tableL h)
/-! ### scores to which runs come -/
def scoreOf (h : HallM) (r : RunM) : Int := match h.players.lookup r.p, h.goals.lookup r.g with
  | some m, some t => ((rightL m t r.s).length : Nat)
  | _, _ => 0
def putA {α : Type} (l : List (Str × α)) (n : Str) (v : α) : List (Str × α) := if l.any (fun q => decide (q.1 = n)) then l.map (fun q => if q.1 = n then (q.1, v) else q) else l ++ [(n, v)]
/-! ### deeds -/
def doTask (h : HallM) (n : Str) (t : Tsk) : HallM :=
  let h1 : HallM := { h with goals := putA h.goals n t, rows := h.rows ++ [.task n t] }
  { h1 with runs := h.runs.map fun r => if r.c && decide (r.g = n) then { r with x := scoreOf h1 r } else r }
def doMachine (h : HallM) (n : Str) (m : Mch) : HallM := { h with players := putA h.players n m, rows := h.rows ++ [.machine n m] }
def doTell (h : HallM) (m t : Str) (s x : Int) : HallM := { h with runs := h.runs ++ [⟨m, t, s, x, true⟩], rows := h.rows ++ [.tell m t s x] }
def strikeAt (rs : List RunM) (k : Nat) : List RunM := rs.modify k fun r => { r with c := false }
def doStrike (h : HallM) (k : Nat) : HallM := { h with runs := strikeAt h.runs k, rows := h.rows ++ [.strike k] }
def partedB (h : HallM) (r : RunM) : Bool := r.c && decide (r.x ≠ scoreOf h r)
/-- (number, told, found) -/
def partedTo (h : HallM) (i : Nat) : List (Nat × Int × Int) := ((List.range i).filter fun k => match h.runs[k]? with
  | some r => partedB h r
  | none => false).map fun k => (k, ptsAt h.runs k, match h.runs[k]? with
  | some r => scoreOf h r
  | none => 0)
def partedL (h : HallM) : List (Nat × Int × Int) := partedTo h h.runs.length
def doClean (h : HallM) : HallM := { h with runs := h.runs.map fun r => if partedB h r then { r with c := false } else r, rows := h.rows ++ [.clean] }
def doPublish (h : HallM) : HallM := { h with sheets := h.sheets ++ [ranksL h], rows := h.rows ++ [.publish] }
def doDeed (h : HallM) : Deed → HallM
  | .task n t => doTask h n t
  | .machine n m => doMachine h n m
  | .tell m t s x => doTell h m t s x
  | .strike k => doStrike h k
  | .clean => doClean h
  | .publish => doPublish h
def chgsD (cs : List ChgM) : PyData := .list (cs.map chgD)
/-- what a deed tells -/
def toldD (h : HallM) : Deed → PyData
  | .tell _ _ _ _ => .int (h.runs.length : Nat)
  | .publish => .int (h.sheets.length : Nat)
  | e => chgsD (changesL (doDeed h e) (tableL h))
/-! ### what holds of halls -/
def letters : List Nat := (Str.ofString "abcdefghijklmnopqrstuvwxyz").cps.toList
structure NameOk (n : Str) : Prop where
  l1 : 1 ≤ n.length
  l6 : n.length ≤ 6
  az : ∀ c ∈ n.cps.toList, c ∈ letters
structure RunM.ok (h : HallM) (r : RunM) : Prop where
  p : ∃ m, h.players.lookup r.p = some m
  g : ∃ t, h.goals.lookup r.g = some t
  s : 0 ≤ r.s ∧ r.s ≤ 999
  x : 0 ≤ r.x ∧ r.x ≤ 16
structure HallM.ok (h : HallM) : Prop where
  gl : h.goals.length ≤ 4
  gn : (h.goals.map (·.1)).Nodup
  gt : ∀ q ∈ h.goals, q.2.ok
  gk : ∀ q ∈ h.goals, NameOk q.1
  pl : h.players.length ≤ 6
  pn : (h.players.map (·.1)).Nodup
  pm : ∀ q ∈ h.players, q.2.ok
  pk : ∀ q ∈ h.players, NameOk q.1
  rl : h.runs.length ≤ 5000
  r : ∀ q ∈ h.runs, q.ok h
  cn : ∀ n g, (cntL h.runs n g).length ≤ 5
  sl : h.sheets.length ≤ 5000
  st : ∀ q ∈ h.sheets, q.length ≤ 6
  wl : h.rows.length ≤ 5000
/-- what a deed wants that it can be done -/
structure CanTell (h : HallM) (m t : Str) (s x : Int) : Prop where
  hm : ∃ q, h.players.lookup m = some q
  ht : ∃ q, h.goals.lookup t = some q ∧ 0 ≤ x ∧ x ≤ (q.rows.length : Nat)
  hs : 0 ≤ s ∧ s ≤ 999
  tk : ∀ k ∈ cntL h.runs m t, ∀ r, h.runs[k]? = some r → r.s ≠ s
  rm : (cntL h.runs m t).length < 5
def Can (h : HallM) : Deed → Prop
  | .task n t => NameOk n ∧ t.ok ∧ (h.goals.lookup n = none → h.goals.length < 4)
  | .machine n m => NameOk n ∧ m.ok ∧ h.players.lookup n = none ∧ h.players.length < 6
  | .tell m t s x => CanTell h m t s x
  | .strike k => ∃ r, h.runs[k]? = some r ∧ r.c = true
  | .clean => True
  | .publish => True
end Mh
/-! MhShare -/
namespace Mh
open PySem PySem.Spec PyProof.Rows L2
/-! ### shares -/
theorem gcd_step {x y : Int} (hx : 0 ≤ x) (hy : 0 < y) : Int.gcd y (x % y) = Int.gcd x y := by
  obtain ⟨a, rfl⟩ := Int.eq_ofNat_of_zero_le hx
  obtain ⟨b, rfl⟩ := Int.eq_ofNat_of_zero_le (Int.le_of_lt hy)
  show Nat.gcd b (a % b) = Nat.gcd a b
  rw [Nat.gcd_comm a b, Nat.gcd_rec b a, Nat.gcd_comm]
theorem gcd_dvdn {x y : Int} (h : 0 < y) : 0 < (Int.gcd x y : Int) ∧ (Int.gcd x y : Int) ≤ y := by
  have h1 : 0 < Int.gcd x y := Int.gcd_pos_of_ne_zero_right x (by omega)
  have h2 : (Int.gcd x y : Int) ∣ y := Int.gcd_dvd_right x y
  exact ⟨by omega, Int.le_of_dvd h h2⟩
theorem sc_common : FnScope ["one", "other"] ["one", "other"] (defScope s_common) := ⟨rfl, rfl, rfl, by decide +kernel, rfl, by decide +kernel, by decide +kernel⟩
def spCommon (_K : PySem.W.Frag) : Sp := fun vs H Q _ => ∃ (a b : Int), vs = [.int a, .int b] ∧ 0 ≤ a ∧ 0 ≤ b ∧ Q (.int (Int.gcd a b : Int)) H
theorem ok_common {P : Program} {w : World} {K : PySem.W.Frag} {mg : Str → Option Value} {base : Heap} (T : Tx K mg) : Def P w K mg base CX0 1 "common" ["one", "other"] (spCommon K) := by
  obtain ⟨fd, F⟩ := T.d_common
  refine ⟨_, fd, F.ok sc_common (fun vs H Q E h => ?_) (fun cdv A outer s H vs Q E hr h => ?_), F.bindsN fun _ _ _ _ _ _ us hl => match us, hl with | [_, _], _ => rfl, T.g_common, F.kp⟩
  · obtain ⟨a, b, rfl, _⟩ := h
    rfl
  · obtain ⟨a, b, rfl, ha, hb, q⟩ := h
    refine ⟨_, PSs.nox (pss_cons (ps_while PassesOwn.never (pt_cmpR op_gt (pv 1) pe_int (nomark _))
        (pss_one (ps_par (i := 0) (j := 1) rfl sc_common.nd rfl rfl (by decide) rfl rfl (pa_cons (pv 1) (pa_cons (pe_op op_mod (pv 0) (pv 1)) pa_nil)) (by rfl))))
        (pss_one (ps_ret (pv 0)))), ?_⟩
    refine ⟨fun m σ' H' => ∃ x y : Int, σ' = [some (.int x), some (.int y)] ∧ H' = H ∧ 0 ≤ x ∧ 0 ≤ y ∧ Int.gcd x y = Int.gcd a b ∧ m = y.toNat, ⟨_, a, b, rfl, rfl, ha, hb, rfl, rfl⟩, fun m σ' H' hW => ?_⟩
    obtain ⟨x, y, rfl, rfl, hx, hy, hg, rfl⟩ := hW
    refine ⟨_, rfl, _, _, rfl, rfl, _, rfl, ifB (fun c => ?_) (fun c => ?_)⟩
    · have c2 : 0 < y := of_decide_eq_true c
      refine ⟨fun σ2 H2 => ∃ m', m' < y.toNat ∧ ∃ x y : Int, σ2 = [some (.int x), some (.int y)] ∧ H2 = H' ∧ 0 ≤ x ∧ 0 ≤ y ∧ Int.gcd x y = Int.gcd a b ∧ m' = y.toNat, fun σ2 H2 h => h, ?_⟩
      have h1 := Int.emod_nonneg x (show y ≠ 0 by omega)
      have h2 := Int.emod_lt_of_pos x c2
      exact ⟨_, rfl, _, rfl, _, rfl, _, _, rfl, rfl, c2, _, _, rfl, (x % y).toNat, by omega, y, x % y, rfl, rfl, hy, h1, (gcd_step hx c2).trans hg, rfl⟩
    · have c2 : ¬ 0 < y := of_decide_eq_false c
      have e : y = 0 := by omega
      subst e
      have e2 : (Int.gcd a b : Int) = x := by
        rw [← hg, Int.gcd_zero_right]
        omega
      rw [e2] at q
      exact ⟨_, rfl, q⟩
theorem big_lt {i j : Int} {n : Nat} (h0 : 0 ≤ i) (h : i ≤ j) (hj : j < 2 ^ n) : i.natAbs < 2 ^ n := by
  have h1 : (i.natAbs : Int) < ((2 ^ n : Nat) : Int) := by
    rw [Int.natCast_pow]
    have : ((2 : Nat) : Int) = 2 := rfl
    rw [this]
    omega
  exact Int.ofNat_lt.mp h1
theorem sc_share : FnScope ["over", "under", "by"] ["over", "under"] (defScope s_share) := ⟨rfl, rfl, rfl, by decide +kernel, rfl, by decide +kernel, by decide +kernel⟩
def spShare (K : PySem.W.Frag) : Sp := fun vs H Q _ => ∃ (a b : Int), vs = [.int a, .int b] ∧ 0 ≤ a ∧ 0 < b ∧ b < 2 ^ 8000 ∧ ∀ H' v, Fx [] H H' → Dp K H' v (shareD (shareI a b)) → Q v H'
theorem ok_share {P : Program} {w : World} {K : PySem.W.Frag} {mg : Str → Option Value} {base : Heap} (T : Tx K mg) : Def P w K mg base CX0 2 "share" ["over", "under"] (spShare K) := by
  obtain ⟨fd, F⟩ := T.d_share
  have G_common := ok_common (P := P) (w := w) (base := base) T
  refine ⟨_, fd, F.ok sc_share (fun vs H Q E h => ?_) (fun cdv A outer s H vs Q E hr h => ?_), F.bindsN fun _ _ _ _ _ _ us hl => match us, hl with | [_, _], _ => rfl, T.g_share, F.kp⟩
  · obtain ⟨a, b, rfl, _⟩ := h
    rfl
  · obtain ⟨a, b, rfl, ha, hb, hb2, q⟩ := h
    refine ⟨_, PSs.nox (pss_cons (ps_set (i := 2) sc_share.nd rfl (by first | exact Or.inl rfl | exact Or.inr rfl) (pe_def G_common (hr.mono (by omega)) pass0 (pa_cons (pv 0) (pa_cons (pv 1) pa_nil))))
        (pss_one (ps_ret (pe_tup (pa_cons (pe_op op_fdivW (pv 0) (pv 2)) (pa_cons (pe_op op_fdivW (pv 1) (pv 2)) pa_nil)))))), ?_⟩
    obtain ⟨g1, g2⟩ := gcd_dvdn (x := a) hb
    have hd : ∀ i : Int, CDivW i (Int.gcd a b : Int) := fun i => wide_div g1 (big_lt (Int.le_of_lt g1) g2 hb2) (by decide) (by decide)
    refine ⟨_, rfl, _, rfl, ⟨a, b, rfl, ha, Int.le_of_lt hb, ?_⟩⟩
    refine ⟨_, rfl, _, rfl, _, _, rfl, rfl, hd _, _, rfl, _, rfl, _, _, rfl, rfl, hd _, by show 2 ≤ sizeLine; decide, fun p hp => ?_⟩
    exact q _ _ (Fx.new hp) (.tup (SqT.of upd_same) (.cons (.int _) (.cons (.int _) .nil)))
end Mh
/-! MhRul2 -/
namespace Mh
open PySem PySem.Spec PyProof.Rows L2
/-! ### a dict beside the empty one -/
section
variable {X : Cx}
def rEqD0 : R2 := fun x y H Q => ∃ a b ks, x = .ref a ∧ y = .ref b ∧ Rd H a (.dK ks) ∧ H b = some (.dK []) ∧ Q (.bl ks.isEmpty) H
def rNeD0 : R2 := fun x y H Q => ∃ a b ks, x = .ref a ∧ y = .ref b ∧ Rd H a (.dK ks) ∧ H b = some (.dK []) ∧ Q (.bl (!ks.isEmpty)) H
theorem hits0 {P : Program} {w : World} {H : Hp} {h : Heap} {A : Around} {s : Shared} {va vb : List (Key × Value)} (e : vb = []) (hl : va.length = vb.length) : PySem.W.KeqHits A s vb va true := by
  subst e
  cases va with
  | nil => exact .nil
  | cons _ _ => cases hl
theorem op_eqD0 (hu : X.A.units < cLine) : OpR X (compareOp .Eq) rEqD0 := by
  intro pins s σ H x y v u Q I rx ry h
  obtain ⟨a, b, ks, rfl, rfl, ea, eb, q⟩ := h
  obtain rfl : v = Value.ref a := rx
  obtain rfl : u = Value.ref b := ry
  obtain ⟨_, ya, va, ra, da⟩ := (show ObjOk X.prog X.w H s.heap a (.dK ks) from ea.ok I.hok)
  obtain ⟨_, yb, vb, rb, db⟩ := (show ObjOk X.prog X.w H s.heap b (.dK []) from I.hok b _ eb)
  have e : vb = [] := by
    have := rb.length
    exact List.eq_nil_of_length_eq_zero (by rw [← this]; rfl)
  have hl : va.length = ks.length := ra.length.symm
  refine PySem.W.keq_eq (knd := mixKind X.prog X.w) (r := true) ya yb da db hu (fun z => ?_) (fin_bl I q ?_)
  · subst e
    cases va with
    | nil => exact .nil
    | cons _ _ => cases z
  · subst e
    cases ks with
    | nil =>
      cases va with
      | nil => rfl
      | cons _ _ => cases hl
    | cons _ _ =>
      cases va with
      | nil => cases hl
      | cons _ _ => rfl
theorem op_neD0 (hu : X.A.units < cLine) : OpR X (compareOp .NotEq) rNeD0 := by
  intro pins s σ H x y v u Q I rx ry h
  obtain ⟨a, b, ks, rfl, rfl, ea, eb, q⟩ := h
  obtain rfl : v = Value.ref a := rx
  obtain rfl : u = Value.ref b := ry
  obtain ⟨_, ya, va, ra, da⟩ := (show ObjOk X.prog X.w H s.heap a (.dK ks) from ea.ok I.hok)
  obtain ⟨_, yb, vb, rb, db⟩ := (show ObjOk X.prog X.w H s.heap b (.dK []) from I.hok b _ eb)
  have e : vb = [] := by
    have := rb.length
    exact List.eq_nil_of_length_eq_zero (by rw [← this]; rfl)
  have hl : va.length = ks.length := ra.length.symm
  refine PySem.W.keq_ne (knd := mixKind X.prog X.w) (r := true) ya yb da db hu (fun z => ?_) (fin_bl I q ?_)
  · subst e
    cases va with
    | nil => exact .nil
    | cons _ _ => cases z
  · subst e
    cases ks with
    | nil =>
      cases va with
      | nil => rfl
      | cons _ _ => cases hl
    | cons _ _ =>
      cases va with
      | nil => cases hl
      | cons _ _ => rfl
end
end Mh
/-! MhSort -/
namespace Mh
open PySem PySem.Spec PyProof.Rows L2 SrtO Srt
/-! ### sorted of rows: a number, a text, more behind; no two alike in number and text -/
def ltK (p q : Int × Str) : Bool := !leK q p
theorem ltK_eq (p q : Int × Str) : ltK p q = if p.1 = q.1 then decide (p.2.cps.toList < q.2.cps.toList) else decide (p.1 < q.1) := by
  unfold ltK leK
  by_cases e : p.1 = q.1
  · rw [if_pos e, if_pos e.symm]
    unfold leS
    rw [ltCps_eq, Bool.not_not]
  · rw [if_neg e, if_neg fun z => e z.symm]
    by_cases l : p.1 < q.1
    · rw [decide_eq_true l, decide_eq_false (by omega)]
      rfl
    · rw [decide_eq_false l, decide_eq_true (by omega)]
      rfl
theorem swo_ltK {α : Type} (k : α → Int × Str) : Swo fun v u => ltK (k v) (k u) := by
  refine ⟨fun x y h => ?_, fun x y z h1 h2 => ?_⟩
  · have h1 : leK (k y) (k x) = false := by
      have : (!leK (k y) (k x)) = true := h
      simpa using this
    have h2 := leK_total (k x) (k y)
    rw [h1, Bool.or_false] at h2
    show (!leK (k x) (k y)) = false
    rw [h2]
    rfl
  · have g1 : leK (k x) (k y) = true := by
      have : (!leK (k x) (k y)) = false := h1
      simpa using this
    have g2 : leK (k y) (k z) = true := by
      have : (!leK (k y) (k z)) = false := h2
      simpa using this
    show (!leK (k x) (k z)) = false
    rw [leK_trans _ _ _ g1 g2]
    rfl
section
variable {prog : Program} {w : World} {A : Around} {E : Value → Shared → Prop} {s : Shared}
def IsRow (h : Heap) (v : Value) (x : Int) (y : Str) : Prop := ∃ a o t u n rest, v = .ref a ∧ h.get? a = some o ∧ o.cls = .type "tuple" ∧ o.data = .seq (Value.int x t :: Value.str y u :: rest).toArray n
theorem IsRow.keeps {h h' : Heap} {v : Value} {x : Int} {y : Str} (p : IsRow h v x y) (k : ∀ b o, h.get? b = some o → o.cls = .type "tuple" → h'.get? b = some o) : IsRow h' v x y := by
  obtain ⟨a, o, t, u, n, rest, e, ho, hc, hd⟩ := p
  exact ⟨a, o, t, u, n, rest, e, k _ _ ho hc, hc, hd⟩
theorem kat_same {b fin : Bool} {Q : Bool → Shared → Prop} (h : Q fin s) : ∀ (l : List Value) (i : Nat), PySem.W.KatLex prog w A b fin Q (l.zip l) i s
  | [], i => PySem.W.kat_nil h
  | v :: l, i => PySem.W.kat_cons (SeqAt.EqAt.same v prog w _ _ (PySem.W.kat_go (fun _ => PySem.W.kat_yes (kat_same h l (i + 1))) (fun e => nomatch e)))
theorem row_cmp {vs : List Value} {k : Value → Int × Str} (hp : ∀ v ∈ vs, IsRow s.heap v (k v).1 (k v).2) (inj : ∀ v ∈ vs, ∀ u ∈ vs, k v = k u → v = u) : Cmp prog w A s (tuples' true) (fun p => p.1 ∈ vs) (lt2 fun v u => ltK (k v) (k u)) := by
  intro p q hm hm'
  have h1 := hp _ hm
  have h2 := hp _ hm'
  have hi := inj _ hm _ hm'
  show wpAny (model prog w) A (keyLt' (tuples' true) p.1 q.1) (fun r s' => s' = s ∧ r = ltK (k p.1) (k q.1)) (fun _ _ => False) s
  have ek : ∀ v : Value, k v = ((k v).1, (k v).2) := fun v => rfl
  rw [ltK_eq]
  have hi2 : (k p.1).1 = (k q.1).1 → (k p.1).2 = (k q.1).2 → p.1 = q.1 := fun e1 e2 => hi (Prod.ext e1 e2)
  generalize (k p.1).1 = x at h1 hi2 ⊢
  generalize (k p.1).2 = y at h1 hi2 ⊢
  generalize (k q.1).1 = x' at h2 hi2 ⊢
  generalize (k q.1).2 = y' at h2 hi2 ⊢
  obtain ⟨a, o, t, u, n, r1, e, ho, hc, hd⟩ := h1
  obtain ⟨a', o', t', u', n', r2, e', ho', hc', hd'⟩ := h2
  rw [e, e'] at hi2 ⊢
  refine PySem.W.kat_lt ho hd ho' hd' ?_
  show PySem.W.KatLex prog w A true _ _ ((.int x t, .int x' t') :: (.str y u, .str y' u') :: r1.zip r2) 0 s
  refine PySem.W.kat_cons (SeqAt.EqAt.int_int x t x' t' prog w _ _ ?_)
  refine PySem.W.kat_go (fun e1 => ?_) (fun e1 => ?_)
  · have ex : x = x' := by simpa using e1
    refine PySem.W.kat_yes (PySem.W.kat_cons (SeqAt.EqAt.str_str y u y' u' prog w _ _ ?_))
    refine PySem.W.kat_go (fun e2 => ?_) (fun e2 => ?_)
    · have ey : y = y' := by simpa using e2
      have ea : a = a' := Value.ref.inj (hi2 ex ey)
      subst ea
      have eo : o = o' := by
        rw [ho] at ho'
        exact Option.some.inj ho'
      subst eo
      rw [hd] at hd'
      have er : r1 = r2 := by
        injection hd' with z1 z2
        have z3 := congrArg Array.toList z1
        simp only [List.cons.injEq] at z3
        exact z3.2.2
      subst er
      refine PySem.W.kat_yes (kat_same ⟨rfl, ?_⟩ r1 _)
      subst ex ey
      have : ¬ (y.cps.toList < y.cps.toList) := List.lt_irrefl _
      rw [if_pos rfl, decide_eq_false this]
      exact decide_eq_false (by simp)
    · have e3 : (if x = x' then decide (y.cps.toList < y'.cps.toList) else decide (x < x')) = decide (y.cps.toList < y'.cps.toList) := if_pos ex
      refine PySem.W.kat_no (PySem.W.kat_one _ _ (PyProof.Rows.lt_str ?_))
      exact (show s = s ∧ decide (y.cps.toList < y'.cps.toList) = (if x = x' then decide (y.cps.toList < y'.cps.toList) else decide (x < x')) from ⟨rfl, e3.symm⟩)
  · have ex : ¬ x = x' := by simpa using e1
    have e3 : (if x = x' then decide (y.cps.toList < y'.cps.toList) else decide (x < x')) = decide (x < x') := if_neg ex
    exact PySem.W.kat_no (oneLt_int ⟨rfl, e3.symm⟩)
theorem rows_firsts {h : Heap} : ∀ {vs : List Value}, (∀ v ∈ vs, ∃ x y, IsRow h v x y) → ∃ fs : List Value, PySem.W.KatTups h vs fs ∧ fs.length = vs.length ∧ ∀ f ∈ fs, ∃ x t, f = Value.int x t
  | [], _ => ⟨[], PySem.W.KatTups.nil, rfl, fun _ hm => by simp at hm⟩
  | v :: vs, hp => by
    obtain ⟨fs, h1, h2, h3⟩ := rows_firsts (vs := vs) fun v' hm => hp v' (List.mem_cons_of_mem _ hm)
    obtain ⟨x, y, a, o, t, u, n, rest, e, ho, hc, hd⟩ := hp v (List.mem_cons_self ..)
    subst e
    refine ⟨.int x t :: fs, PySem.W.KatTups.cons ho hc hd rfl h1, by rw [List.length_cons, List.length_cons, h2], fun f hm => ?_⟩
    rcases List.mem_cons.mp hm with rfl | hm
    · exact ⟨x, t, rfl⟩
    · exact h3 f hm
theorem rows_sortable {a : Addr} {vs : List Value} {k : Value → Int × Str} (h0 : 0 < vs.length) (hp : ∀ v ∈ vs, IsRow s.heap v (k v).1 (k v).2) (inj : ∀ v ∈ vs, ∀ u ∈ vs, k v = k u → v = u) (ha : ∀ o, s.heap.get? a = some o → o.cls ≠ .type "tuple") : SortableO prog w A s a vs fun v u => ltK (k v) (k u) := by
  intro h' keep
  have hp' : ∀ v ∈ vs, IsRow h' v (k v).1 (k v).2 := fun v hm => (hp v hm).keeps fun b o e c => keep b o (fun z => by subst z; exact ha o e c) e
  obtain ⟨fs, h1, h2, h3⟩ := rows_firsts fun v hm => ⟨_, _, hp' v hm⟩
  refine ⟨tuples' true, fun Q E hq => ?_, row_cmp hp' inj⟩
  refine PySem.W.kat_kind (T := .type "int") h1 (by omega) (fun f hm => ?_) (by rfl) ?_
  · obtain ⟨x, t, rfl⟩ := h3 f hm
    exact PySem.W.Looks.now
  · have e : (Value.type "int" != Value.type "tuple") = true := by first | decide +kernel | rfl | decide
    rw [e]
    exact hq
theorem sorted_rows {l : Addr} {vs : List Value} {k : Value → Int × Str} {Q : Value → Shared → Prop} (hl : s.heap.IsList l vs.toArray) (hz : vs.length ≤ sizeLine) (hp : ∀ v ∈ vs, IsRow s.heap v (k v).1 (k v).2) (inj : ∀ v ∈ vs, ∀ u ∈ vs, k v = k u → v = u)
    (h : ∀ (h' : Heap) (d : Addr) (out : List Value), Srtd (fun v u => ltK (k v) (k u)) out → Stb (fun v u => ltK (k v) (k u)) out vs → (∀ b o, s.heap.get? b = some o → h'.get? b = some o) → s.heap.objs.size ≤ d → (∃ n, h'.get? d = some (seqObj "list" out.toArray n)) → Q (.ref d) { s with heap := h' }) :
    wpAny (model prog w) A (call (.builtin "sorted") [.ref l]) Q E s := by
  refine sorted_ord (swo_ltK k) hl hz (fun h2 h₁ a ha kk => ?_) fun out hs hb => ?_
  · refine rows_sortable (s := { s with heap := h₁ }) (by omega) (fun v hm => (hp v hm).keeps fun b o e _ => (kk b o e).2) inj fun o e => ?_
    have e' : some o = some (seqObj "list" vs.toArray 0) := e.symm.trans ha
    cases e'
    intro c
    exact absurd (Value.type.inj c) (by decide)
  · exact h _ _ out hs hb (fun b o e => sortedAll_old e) (Nat.le_succ _) (sortedAll_at s.heap vs out.toArray)
end
def rSortedR (K : PySem.W.Frag) : List V → Hp → VK → Prop := fun vs H Q => ∃ (a : Addr) (xs : List V) (k : V → Int × Str), vs = [V.ref a] ∧ SqL K H a xs ∧ (∀ x ∈ xs, ∃ t rest, x = V.ref t ∧ H t = some (.tup (.int (k x).1 :: .str (k x).2 :: rest))) ∧
  (∀ x ∈ xs, ∀ y ∈ xs, k x = k y → x = y) ∧ ∀ ys p, ys.Perm xs → (ys.Pairwise fun x y => leK (k x) (k y) = true) → H p = none → Q (.ref p) (upd H p (.lst ys))
section
variable {X : Cx}
theorem cr_sortedR : CallR X (.builtin "sorted") (rSortedR X.K) := by
  intro pins s σ H vs us Q I r h
  obtain ⟨a, xs, k, rfl, hs, hx, hinj, q⟩ := h
  obtain ⟨its, rv, hl, hz⟩ := I.list hs
  obtain ⟨u, rfl, ru⟩ := vals1 r
  obtain rfl : u = Value.ref a := ru
  obtain ⟨e1, e2⟩ := refs_back rv fun x m => by
    obtain ⟨t, _, e, _⟩ := hx x m
    exact ⟨t, e⟩
  have key : ∀ v ∈ its, backV v ∈ xs := fun v hv => by rw [e1]; exact List.mem_map.mpr ⟨_, hv, rfl⟩
  refine sorted_rows (k := fun u => k (backV u)) hl.isList (by rw [← rv.length]; exact hz) (fun v hv => ?_) (fun v hv u hu e => ?_) fun h' d out h1 h2 kp hd hn => ?_
  · obtain ⟨t, rfl⟩ := e2 v hv
    have hm : V.ref t ∈ xs := key _ hv
    obtain ⟨t', rest, e, ht⟩ := hx _ hm
    cases e
    obtain ⟨_, its2, r2, o, ho, hc, n, hd⟩ := I.hok _ _ ht
    cases r2 with
    | cons ri r3 =>
      cases r3 with
      | cons rj r4 =>
        obtain ⟨t1, rfl⟩ := ri
        obtain ⟨t2, rfl⟩ := rj
        exact ⟨t, o, t1, t2, n, _, rfl, ho, hc, hd⟩
  · obtain ⟨t, rfl⟩ := e2 v hv
    obtain ⟨t', rfl⟩ := e2 u hu
    have := hinj _ (key _ hv) _ (key _ hu) e
    exact congrArg Value.ref (V.ref.inj this)
  · have h3 : ∀ u ∈ out, ∃ a, u = Value.ref a := fun u hu => e2 u (h2.perm.mem_iff.mp hu)
    obtain ⟨n, hn⟩ := hn
    have hb : SrtO.Stb (fun v u => ltK (k v) (k u)) (out.map backV) xs := by
      rw [e1]
      exact SrtO.Stb.map (swo_ltK k) backV h2
    refine ⟨.ref d, upd H d (.lst (out.map backV)), I.laid (t' := s.toks) kp hd ⟨?_, out, n, vals_back h3, hn⟩, rfl, q _ d hb.perm ?_ (I.hok.fresh hd)⟩
    · rw [hb.len]
      exact hz
    · refine (SrtO.srtd_map (lt := fun v u => ltK (k v) (k u)) (f := backV) h1).imp fun {x y} h => ?_
      have h : (!leK (k x) (k y)) = false := h
      simpa using h
end
end Mh
/-! MhHallA -/
namespace Mh
open PySem PySem.Spec PyProof.Rows L2
/-! ### methods, classes -/
structure MDef (P : Program) (w : World) (K : PySem.W.Frag) (mg : Str → Option Value) (base : Heap) (CX : CXT) (k : Nat) (C : Str) (m : Str) (ps : List Str) (sp : Sp) : Prop where
  ex : ∃ (f : Addr) (fd : FuncData), FnOk P w K mg base CX k f fd ps sp ∧ Binds K fd ps [] ∧ Cls K (He.ga K C) ∧ Meth K (He.ga K C) m f
structure MkDef (P : Program) (w : World) (K : PySem.W.Frag) (mg : Str → Option Value) (base : Heap) (CX : CXT) (k : Nat) (C : Str) (m : Str) (ps : List Str) (sp : Sp) : Prop where
  ex : ∃ (f : Addr) (fd : FuncData), FnOk P w K mg base CX k f fd ps sp ∧ Binds K fd ps [] ∧ Cls K (He.ga K C) ∧ Mk K (He.ga K C) f ∧ mg C = some (.ref (He.ga K C))
section
variable {X : Cx} {CX : CXT} {k : Nat} {ps : List Str} {sp : Sp} {E : XK} {C x m : Str} {p pos apos : Pos} {o e : Expr} {es : List Expr} {t : TA} {ta : TE}
theorem pe_mdef {pl : Sem Bool} (F : MDef X.prog X.w X.K X.mg X.base CX k C m ps sp) (hr : Room k X.A) (hx : Passes CX X E) (he : PE X o ta) (ha : PA X (e :: es) t)
    (hst : starEach (e :: es) X.env = (false, eval e X.env) :: starEach es X.env := by rfl) (hpl : (backTo pos (starEach es X.env)).any (·.1) = false := by rfl)
    (ht : eval (.Call (.Attribute o m apos) (e :: es) [] pos) X.env = (do
      let ov ← eval o X.env
      standAt apos.atName
      let (f, first) ← holding [ov] (getMethod ov m pl)
      callWith pos f first (backTo pos (starEach (e :: es) X.env)) (backToKw pos (keywordEach [] X.env))) := by rfl) :
    PE X (.Call (.Attribute o m apos) (e :: es) [] pos) (tMeth (He.ga X.K C) m sp [] E ta t) := by
  obtain ⟨f, fd, F1, b, c, g⟩ := F.ex
  exact pe_meth he c g F1 hr b .nil hx ha hst hpl ht
theorem pe_mdef0 {pl : Sem Bool} (F : MDef X.prog X.w X.K X.mg X.base CX k C m ps sp) (hr : Room k X.A) (hx : Passes CX X E) (he : PE X o ta)
    (ht : eval (.Call (.Attribute o m apos) [] [] pos) X.env = (do
      let ov ← eval o X.env
      standAt apos.atName
      let (f, first) ← holding [ov] (getMethod ov m pl)
      callWith pos f first (backTo pos (starEach [] X.env)) (backToKw pos (keywordEach [] X.env))) := by rfl) :
    PE X (.Call (.Attribute o m apos) [] [] pos) (tMeth (He.ga X.K C) m sp [] E ta tNil) := by
  obtain ⟨f, fd, F1, b, c, g⟩ := F.ex
  exact pe_meth0 he c g F1 hr b .nil hx ht
theorem pe_mdmk (F : MkDef X.prog X.w X.K X.mg X.base CX k x m ps sp) (hr : Room (k + 1) X.A) (hx : Passes CX X E) (ha : PA X (e :: es) t) (hg : Gl X x := by rfl) (hdb : (x == ("__debug__" : Str)) = false := by decide)
    (he : starEach (e :: es) X.env = (false, eval e X.env) :: starEach es X.env := by rfl) (hpl : (backTo pos (starEach es X.env)).any (·.1) = false := by rfl) :
    PE X (.Call (.Name x p) (e :: es) [] pos) (tMake (He.ga X.K x) sp [] E t) := by
  obtain ⟨f, fd, F1, b, c, M, g⟩ := F.ex
  exact pe_make M F1 hr hg g b .nil hx ha hdb he hpl
theorem pe_mdmk0 (F : MkDef X.prog X.w X.K X.mg X.base CX k x m ps sp) (hr : Room (k + 1) X.A) (hx : Passes CX X E) (hg : Gl X x := by rfl) (hdb : (x == ("__debug__" : Str)) = false := by decide) :
    PE X (.Call (.Name x p) [] [] pos) (tMake (He.ga X.K x) sp [] E tNil) := by
  obtain ⟨f, fd, F1, b, c, M, g⟩ := F.ex
  exact pe_make0 M F1 hr hg g b .nil hx hdb
theorem kpe_mdef {K : PySem.W.Frag} {pl : Sem Bool} (h : X.K = K) (F : MDef X.prog X.w X.K X.mg X.base CX k C m ps sp) (hr : Room k X.A) (hx : Passes CX X E) (he : PE X o ta) (ha : PA X (e :: es) t)
    (hst : starEach (e :: es) X.env = (false, eval e X.env) :: starEach es X.env := by rfl) (hpl : (backTo pos (starEach es X.env)).any (·.1) = false := by rfl)
    (ht : eval (.Call (.Attribute o m apos) (e :: es) [] pos) X.env = (do
      let ov ← eval o X.env
      standAt apos.atName
      let (f, first) ← holding [ov] (getMethod ov m pl)
      callWith pos f first (backTo pos (starEach (e :: es) X.env)) (backToKw pos (keywordEach [] X.env))) := by rfl) :
    PE X (.Call (.Attribute o m apos) (e :: es) [] pos) (tMeth (He.ga K C) m sp [] E ta t) := by
  rw [← h]
  exact pe_mdef F hr hx he ha hst hpl ht
theorem kpe_mdef0 {K : PySem.W.Frag} {pl : Sem Bool} (h : X.K = K) (F : MDef X.prog X.w X.K X.mg X.base CX k C m ps sp) (hr : Room k X.A) (hx : Passes CX X E) (he : PE X o ta)
    (ht : eval (.Call (.Attribute o m apos) [] [] pos) X.env = (do
      let ov ← eval o X.env
      standAt apos.atName
      let (f, first) ← holding [ov] (getMethod ov m pl)
      callWith pos f first (backTo pos (starEach [] X.env)) (backToKw pos (keywordEach [] X.env))) := by rfl) :
    PE X (.Call (.Attribute o m apos) [] [] pos) (tMeth (He.ga K C) m sp [] E ta tNil) := by
  rw [← h]
  exact pe_mdef0 F hr hx he ht
theorem kpe_fld {K : PySem.W.Frag} {f : Str} (h : X.K = K) (he : PE X e ta) (hb : attributeBase e f X.env (eval e X.env) = eval e X.env := by rfl) : PE X (.Attribute e f pos) (tFld K ta f) := by
  rw [← h]
  exact pe_fld he hb
end
theorem rd_fld {K : PySem.W.Frag} {σ : L2.St} {H : Hp} {Q : VK} {i : Nat} {a C dx : Addr} {fs : List (Str × V)} {f : Str} {v : V} (hv : σ[i]? = some (some (.ref a))) (hH : H a = some (.ins C dx fs)) (c : Cls K C) (n : NoAttr K C f) (l : fs.lookup f = some v) (q : Q v H) : tFld K (tVar i) f σ H Q :=
  ⟨_, hv, a, C, dx, fs, v, rfl, hH, c, n, l, q⟩
/-! ### readings, one step each -/
section
variable {K : PySem.W.Frag} {σ : L2.St} {H : Hp} {Q : Bool → Hp → Prop} {Qv : VK} {A B : TT} {t ta tb : TE} {r : V → V → Hp → VK → Prop}
theorem rd_and (h : A σ H fun c H1 => if c = true then B σ H1 Q else Q false H1) : tAnd A B σ H Q := h
theorem rd_or (h : A σ H fun c H1 => if c = true then Q true H1 else B σ H1 Q) : tOr A B σ H Q := h
theorem rd_tb (h : t σ H fun x H1 => ∃ c, x = .bl c ∧ Q c H1) : tB t σ H Q := h
theorem rd_tt (h : t σ H fun x H1 => ∃ c, x = .bl c ∧ Q c H1) : tTest t σ H Q := h
theorem rd_not (h : A σ H fun c H1 => Q (!c) H1) : tNot A σ H Q := h
theorem rd_op (h : ta σ H fun x H1 => tb σ H1 fun y H2 => r x y H2 Qv) : tOp r ta tb σ H Qv := h
/-- x == y of texts, x read somehow, y a name -/
theorem rd_eqT {x z : Str} {j : Nat} (hz : σ[j]? = some (some (.str z))) (q : Qv (.bl (x == z)) H) : tVar j σ H fun y H2 => rEq (.str x) y H2 Qv := ⟨_, hz, rfl, by rw [dec_str]; exact q⟩
theorem rd_eqTC {x z : Str} (q : Qv (.bl (x == z)) H) : tC (.str z) σ H fun y H2 => rEq (.str x) y H2 Qv := ⟨rfl, by rw [dec_str]; exact q⟩
theorem rd_var {i : Nat} {v : V} (hv : σ[i]? = some (some v)) (q : Qv v H) : tVar i σ H Qv := ⟨v, hv, q⟩
end
/-! ### frames, further -/
theorem Fx.cut {M N : List Addr} {H0 H H' : Hp} (a : Fx N H0 H) (b : Fx M H H') (h : ∀ x ∈ M, x ∈ N ∨ H0 x = none) : Fx N H0 H' :=
  ⟨fun c o e n => b.k c o (a.k c o e n) fun m => (h c m).elim n fun z => (by rw [z] at e; cases e), fun c o e => b.t c o (a.t c o e), fun c o u e => b.z c o u (a.z c o u e), fun c e => a.d c (b.d c e)⟩
/-- while a dict is walked it's locked; behind, it is as it was -/
theorem Fx.unlock {M : List Addr} {H H' : Hp} {d : Addr} {o : Obj} {u : HO} (h : H d = some u) (hu : Chg H d) (f : Fx M (upd H d (.frz o u)) H') : Fx M H (upd H' d u) := by
  have hd := f.z d o u upd_same
  refine ⟨fun a v e n => ?_, fun a v e => ?_, fun a v z e => ?_, fun a e => ?_⟩
  · by_cases q : a = d
    · subst q
      rw [upd_same, ← h, e]
    · rw [upd_ne q]
      exact f.k a v (by rw [upd_ne q]; exact e) n
  · have q : a ≠ d := fun q => hu.1 v (by rw [← q]; exact e)
    rw [upd_ne q]
    exact f.t a v (by rw [upd_ne q]; exact e)
  · have q : a ≠ d := fun q => hu.2 v z (by rw [← q]; exact e)
    rw [upd_ne q]
    exact f.z a v z (by rw [upd_ne q]; exact e)
  · by_cases q : a = d
    · rw [q, upd_same] at e
      cases e
    · rw [upd_ne q] at e
      have := f.d a e
      rw [upd_ne q] at this
      exact this
/-- walked, locked if it wasn't: bk is what stands behind -/
def tLockO (t : TE) : TE := fun σ H Q => ∃ d kvs, Rd H d (.dK kvs) ∧ ∀ (o : Obj) (Hl : Hp) (bk : Hp → Hp), Hl d = some (.frz o (.dK kvs)) → Fx [d] H Hl → (∀ M H5, Fx M Hl H5 → Fx M H (bk H5)) → (∀ H5 a, a ≠ d → bk H5 a = H5 a) → (∀ H5, H5 d = some (.frz o (.dK kvs)) → bk H5 d = H d) → t σ Hl fun v H' => H' d = some (.frz o (.dK kvs)) ∧ Q v (bk H')
def sLockO (t : TS) : TS := fun D σ H => ∃ d kvs, Rd H d (.dK kvs) ∧ ∀ (o : Obj) (Hl : Hp) (bk : Hp → Hp), Hl d = some (.frz o (.dK kvs)) → Fx [d] H Hl → (∀ M H5, Fx M Hl H5 → Fx M H (bk H5)) → (∀ H5 a, a ≠ d → bk H5 a = H5 a) → (∀ H5, H5 d = some (.frz o (.dK kvs)) → bk H5 d = H d) →
  t ⟨fun σ' H' => H' d = some (.frz o (.dK kvs)) ∧ D.nx σ' (bk H'), fun v H' => H' d = some (.frz o (.dK kvs)) ∧ D.rt v (bk H'), fun σ' H' => H' d = some (.frz o (.dK kvs)) ∧ D.bk σ' (bk H'), fun σ' H' => H' d = some (.frz o (.dK kvs)) ∧ D.ct σ' (bk H')⟩ σ Hl
theorem pe_lockO {X : Cx} {e : Expr} {t : TE} (h : PE X e t) : PE X e (tLockO t) := by
  refine ⟨fun pins s σ H Q I hw => ?_⟩
  obtain ⟨d, kvs, hd, hw⟩ := hw
  rcases hd with hd | ⟨o, hd⟩
  · exact (pe_lock h).run pins s σ H Q I ⟨d, .dK kvs, hd, trivial, fun od => hw od _ (fun H' => upd H' d (.dK kvs)) upd_same (Fx.set List.mem_cons_self (Chg.dK hd)) (fun M H5 f => Fx.unlock hd (Chg.dK hd) f) (fun H5 a n => upd_ne n) (fun H5 _ => upd_same.trans hd.symm)⟩
  · exact thn (h.run pins s σ H _ I (hw o H id hd .refl (fun _ _ f => f) (fun _ _ _ => rfl) (fun H5 e => e.trans hd.symm))) fun v s1 ⟨x, H1, I1, r, _, q⟩ => ⟨x, H1, I1, r, q⟩
theorem ps_lockO {X : Cx} {st : Stmt} {t : TS} (h : PS X st t) : PS X st (sLockO t) := by
  refine ⟨fun pins s σ H D I hw => ?_⟩
  obtain ⟨d, kvs, hd, hw⟩ := hw
  rcases hd with hd | ⟨o, hd⟩
  · exact (ps_lock h).run pins s σ H D I ⟨d, .dK kvs, hd, trivial, fun od => hw od _ (fun H' => upd H' d (.dK kvs)) upd_same (Fx.set List.mem_cons_self (Chg.dK hd)) (fun M H5 f => Fx.unlock hd (Chg.dK hd) f) (fun H5 a n => upd_ne n) (fun H5 _ => upd_same.trans hd.symm)⟩
  · refine thn (h.run pins s σ H _ I (hw o H id hd .refl (fun _ _ f => f) (fun _ _ _ => rfl) (fun H5 e => e.trans hd.symm))) fun f s1 q => ?_
    cases f with
    | next => obtain ⟨σ', H', I2, _, q⟩ := q; exact ⟨σ', H', I2, q⟩
    | brk => obtain ⟨σ', H', I2, _, q⟩ := q; exact ⟨σ', H', I2, q⟩
    | cont => obtain ⟨σ', H', I2, _, q⟩ := q; exact ⟨σ', H', I2, q⟩
    | ret v => obtain ⟨x, σ', H', I2, r, _, q⟩ := q; exact ⟨x, σ', H', I2, r, q⟩
theorem Fx.rdK {M : List Addr} {H H' : Hp} {p : Addr} {kvs : List (Key × V)} (a : Fx M H H') (h : Rd H p (.dK kvs)) (n : p ∉ M) : Rd H' p (.dK kvs) := by
  rcases h with h | ⟨o, h⟩
  · exact .inl (a.k _ _ h n)
  · exact .inr ⟨o, a.z _ _ _ h⟩
theorem DGet.rd {H : Hp} {a : Addr} {kvs : List (Key × V)} {n : Str} (h : Rd H a (.dK kvs)) : DGet H a (.str n) (valV kvs (.inr n)) := .inl ⟨kvs, .inr n, h, rfl, rfl⟩
theorem Rd.there {H : Hp} {a : Addr} {u : HO} (h : Rd H a u) : H a ≠ none := by
  rcases h with h | ⟨o, h⟩ <;> (intro e; rw [h] at e; cases e)
theorem ne_of2 {H : Hp} {p q : Addr} {u v : HO} (h1 : H p = some u) (h2 : H q = some v) (h : u ≠ v) : p ≠ q := fun e => h (by rw [e, h2] at h1; exact (Option.some.inj h1).symm)
/-! ### dicts of data by texts -/
structure KvD (K : PySem.W.Frag) (H : Hp) (kvs : List (Key × V)) (ds : List (Str × PyData)) : Prop where
  k : kvs.map (·.1) = ds.map fun q => (Sum.inr q.1 : Key)
  v : DpAll K H (kvs.map (·.2)) (ds.map (·.2))
section
variable {K : PySem.W.Frag} {H H' : Hp} {M : List Addr} {kvs : List (Key × V)} {ds : List (Str × PyData)}
theorem KvD.mv (h : KvD K H kvs ds) (f : Fx M H H') (n : nolA (ds.map (·.2)) = true) : KvD K H' kvs ds := ⟨h.k, h.v.mv f n⟩
theorem KvD.len (h : KvD K H kvs ds) : kvs.length = ds.length := by
  have := congrArg List.length h.k
  rwa [List.length_map, List.length_map] at this
theorem KvD.tail {p : Key × V} {q : Str × PyData} (h : KvD K H (p :: kvs) (q :: ds)) : p.1 = .inr q.1 ∧ Dp K H p.2 q.2 ∧ KvD K H kvs ds := by
  obtain ⟨h1, h2⟩ := h
  rw [List.map_cons, List.map_cons] at h1 h2
  obtain ⟨h3, h4⟩ := List.cons.inj h1
  cases h2 with
  | cons h5 h6 => exact ⟨h3, h5, h4, h6⟩
theorem KvD.cons' {p : Key × V} {q : Str × PyData} (h1 : p.1 = .inr q.1) (h2 : Dp K H p.2 q.2) (h3 : KvD K H kvs ds) : KvD K H (p :: kvs) (q :: ds) :=
  ⟨by rw [List.map_cons, List.map_cons, h1, h3.k], by rw [List.map_cons, List.map_cons]; exact .cons h2 h3.v⟩
theorem KvD.nil : KvD K H [] [] := ⟨rfl, .nil⟩
theorem KvD.get {i : Nat} {q : Str × PyData} (h : KvD K H kvs ds) (e : ds[i]? = some q) : ∃ v, kvs[i]? = some (.inr q.1, v) ∧ Dp K H v q.2 := by
  have e1 : (kvs.map (·.1))[i]? = some (.inr q.1) := by rw [h.k, List.getElem?_map, e]; rfl
  obtain ⟨v, e2, e3⟩ := h.v.at (i := i) (d := q.2) (by rw [List.getElem?_map, e]; rfl)
  rw [List.getElem?_map] at e1 e2
  obtain ⟨p, hp, e4⟩ := Option.map_eq_some_iff.mp e1
  rw [hp] at e2
  have e5 : p.2 = v := Option.some.inj e2
  refine ⟨v, ?_, e3⟩
  rw [hp, ← e4, ← e5]
theorem KvD.val : ∀ {kvs : List (Key × V)} {ds : List (Str × PyData)} (h : KvD K H kvs ds) (n : Str), (ds.lookup n = none ∧ valV kvs (.inr n) = none) ∨ ∃ d v, ds.lookup n = some d ∧ valV kvs (.inr n) = some v ∧ Dp K H v d
  | [], [], _, n => .inl ⟨rfl, rfl⟩
  | [], _ :: _, h, _ => by have := h.len; simp at this
  | _ :: _, [], h, _ => by have := h.len; simp at this
  | p :: kvs, q :: ds, h, n => by
    obtain ⟨h1, h2, h3⟩ := h.tail
    by_cases e : n = q.1
    · refine .inr ⟨q.2, p.2, ?_, valV_pos (by rw [h1, e]), h2⟩
      rw [List.lookup_cons, e, beq_self_eq_true]
    · have e1 : (n == q.1) = false := by simpa using e
      have e2 : ¬ p.1 = .inr n := fun z => by
        rw [h1] at z
        exact e (Sum.inr.inj z).symm
      rcases KvD.val h3 n with ⟨k1, k2⟩ | ⟨d, v, k1, k2, k3⟩
      · exact .inl ⟨by rw [List.lookup_cons, e1]; exact k1, by rw [valV_neg e2]; exact k2⟩
      · exact .inr ⟨d, v, by rw [List.lookup_cons, e1]; exact k1, by rw [valV_neg e2]; exact k2, k3⟩
theorem putA_len {α : Type} (l : List (Str × α)) (n : Str) (v : α) : (putA l n v).length ≤ l.length + 1 := by
  unfold putA
  split
  · rw [List.length_map]
    exact Nat.le_succ _
  · rw [List.length_append]
    exact Nat.le_refl _
theorem any_kvd : ∀ {kvs : List (Key × V)} {ds : List (Str × PyData)} (h : KvD K H kvs ds) (n : Str), (kvs.any fun kv => decide (kv.1 = (.inr n : Key))) = ds.any fun q => decide (q.1 = n)
  | [], [], _, n => rfl
  | [], _ :: _, h, _ => by have := h.len; simp at this
  | _ :: _, [], h, _ => by have := h.len; simp at this
  | p :: kvs, q :: ds, h, n => by
    obtain ⟨h1, _, h3⟩ := h.tail
    rw [List.any_cons, List.any_cons, any_kvd h3 n]
    congr 1
    rw [h1]
    by_cases e : q.1 = n
    · rw [decide_eq_true e, decide_eq_true (congrArg Sum.inr e)]
    · rw [decide_eq_false e, decide_eq_false fun z => e (Sum.inr.inj z)]
theorem map_kvd (n : Str) {v : V} {d : PyData} (hd : Dp K H v d) : ∀ {kvs : List (Key × V)} {ds : List (Str × PyData)} (h : KvD K H kvs ds), KvD K H (kvs.map fun kv => if kv.1 = (.inr n : Key) then (kv.1, v) else kv) (ds.map fun q => if q.1 = n then (q.1, d) else q)
  | [], [], _ => .nil
  | [], _ :: _, h => by have := h.len; simp at this
  | _ :: _, [], h => by have := h.len; simp at this
  | p :: kvs, q :: ds, h => by
    obtain ⟨h1, h2, h3⟩ := h.tail
    rw [List.map_cons, List.map_cons]
    have ih := map_kvd n hd h3
    by_cases e : q.1 = n
    · rw [if_pos e, if_pos (show p.1 = .inr n by rw [h1, e])]
      exact .cons' h1 hd ih
    · rw [if_neg e, if_neg (show ¬ p.1 = .inr n from fun z => e (by rw [h1] at z; exact Sum.inr.inj z))]
      exact .cons' h1 h2 ih
theorem snoc_kvd {n : Str} {v : V} {d : PyData} (hd : Dp K H v d) (h : KvD K H kvs ds) : KvD K H (kvs ++ [(.inr n, v)]) (ds ++ [(n, d)]) :=
  ⟨by rw [List.map_append, List.map_append, h.k]; rfl, by rw [List.map_append, List.map_append]; exact h.v.snoc hd⟩
theorem KvD.put {n : Str} {v : V} {d : PyData} (h : KvD K H kvs ds) (hd : Dp K H v d) : KvD K H (putK kvs (.inr n) v) (putA ds n d) := by
  unfold putK putA
  rw [any_kvd h n]
  split
  · exact map_kvd n hd h
  · exact snoc_kvd hd h
theorem putA_map {α β : Type} (f : α → β) (l : List (Str × α)) (n : Str) (v : α) : (putA l n v).map (fun q => (q.1, f q.2)) = putA (l.map fun q => (q.1, f q.2)) n (f v) := by
  unfold putA
  rw [List.any_map]
  have e : ((fun q : Str × β => decide (q.1 = n)) ∘ fun q : Str × α => (q.1, f q.2)) = fun q => decide (q.1 = n) := rfl
  rw [e]
  split
  · rw [List.map_map, List.map_map]
    refine List.map_congr_left fun q _ => ?_
    show ((if q.1 = n then (q.1, v) else q).1, f (if q.1 = n then (q.1, v) else q).2) = if q.1 = n then (q.1, f v) else (q.1, f q.2)
    split <;> rfl
  · rw [List.map_append]
    rfl
theorem lookup_map {α β : Type} (f : α → β) : ∀ (l : List (Str × α)) (n : Str), (l.map fun q => (q.1, f q.2)).lookup n = (l.lookup n).map f
  | [], n => rfl
  | q :: l, n => by
    rw [List.map_cons, List.lookup_cons, List.lookup_cons, lookup_map f l n]
    cases (n == q.1) <;> rfl
end
/-! ### where a hall stands -/
structure HA where
  a : Addr
  dx : Addr
  g : Addr
  p : Addr
  r : Addr
  s : Addr
  w : Addr
  ra : List (Addr × Addr)
  sa : List Addr
def HA.foot (A : HA) : List Addr := A.a :: A.dx :: A.g :: A.p :: A.r :: A.s :: A.w :: (A.ra.map (·.1) ++ (A.ra.map (·.2) ++ A.sa))
def hallF (A : HA) (n : Int) : List (Str × V) := [("goals", .ref A.g), ("players", .ref A.p), ("runs", .ref A.r), ("sheets", .ref A.s), ("rows", .ref A.w), ("dealing", .int n)]
def runF (r : RunM) : List (Str × V) := [("player", .str r.p), ("goal", .str r.g), ("seed", .int r.s), ("points", .int r.x), ("counts", .bl r.c)]
def goalsD (h : HallM) : List (Str × PyData) := h.goals.map fun q => (q.1, taskD q.2)
def playersD (h : HallM) : List (Str × PyData) := h.players.map fun q => (q.1, machD q.2)
theorem tasks_nol : ∀ l : List (Str × Tsk), nolA ((l.map fun q => (q.1, taskD q.2)).map (·.2)) = true
  | [] => rfl
  | q :: l => by
    show (nol (taskD q.2) && nolA ((l.map fun q => (q.1, taskD q.2)).map (·.2))) = true
    rw [task_nol, tasks_nol l]
    rfl
theorem machs_nol : ∀ l : List (Str × Mch), nolA ((l.map fun q => (q.1, machD q.2)).map (·.2)) = true
  | [] => rfl
  | q :: l => by
    show (nol (machD q.2) && nolA ((l.map fun q => (q.1, machD q.2)).map (·.2))) = true
    rw [mach_nol, machs_nol l]
    rfl
structure InsAt (K : PySem.W.Frag) (H : Hp) (A : HA) (n : Int) : Prop where
  i : H A.a = some (.ins (He.ga K "Hall") A.dx (hallF A n))
  o : H A.dx = some (.own A.a)
structure RunsAt (K : PySem.W.Frag) (H : Hp) (r : Addr) (ra : List (Addr × Addr)) (rs : List RunM) : Prop where
  l : H r = some (.lst (ra.map fun q => V.ref q.1))
  n : ra.length = rs.length
  i : ∀ (k : Nat) (q : Addr × Addr) (m : RunM), ra[k]? = some q → rs[k]? = some m → H q.1 = some (.ins (He.ga K "Run") q.2 (runF m)) ∧ H q.2 = some (.own q.1)
structure SheetsAt (K : PySem.W.Frag) (H : Hp) (s : Addr) (sa : List Addr) (ss : List (List RowM)) : Prop where
  l : H s = some (.lst (sa.map V.ref))
  n : sa.length = ss.length
  i : ∀ (k : Nat) (q : Addr) (m : List RowM), sa[k]? = some q → ss[k]? = some m → ∃ vs, H q = some (.lst vs) ∧ DpAll K H vs (m.map rowMD)
structure HallAt (K : PySem.W.Frag) (H : Hp) (A : HA) (n : Int) (h : HallM) : Prop where
  i : InsAt K H A n
  r : RunsAt K H A.r A.ra h.runs
  g : ∃ kvs, H A.g = some (.dK kvs) ∧ KvD K H kvs (goalsD h)
  p : ∃ kvs, H A.p = some (.dK kvs) ∧ KvD K H kvs (playersD h)
  s : SheetsAt K H A.s A.sa h.sheets
  w : ∃ vs, H A.w = some (.lst vs) ∧ DpAll K H vs (h.rows.map Deed.d)
  nd : A.foot.Nodup
section
variable {K : PySem.W.Frag} {H H' : Hp} {M : List Addr} {A : HA} {n : Int} {h : HallM}
theorem InsAt.fx (x : InsAt K H A n) (f : Fx M H H') (m1 : A.a ∉ M) (m2 : A.dx ∉ M) : InsAt K H' A n := ⟨f.to x.i m1, f.to x.o m2⟩
theorem RunsAt.fx {r : Addr} {ra : List (Addr × Addr)} {rs : List RunM} (x : RunsAt K H r ra rs) (f : Fx M H H') (m1 : r ∉ M) (m2 : ∀ q ∈ ra, q.1 ∉ M ∧ q.2 ∉ M) : RunsAt K H' r ra rs :=
  ⟨f.to x.l m1, x.n, fun k q m h1 h2 => ⟨f.to (x.i k q m h1 h2).1 (m2 q (List.mem_of_getElem? h1)).1, f.to (x.i k q m h1 h2).2 (m2 q (List.mem_of_getElem? h1)).2⟩⟩
theorem SheetsAt.fx {s : Addr} {sa : List Addr} {ss : List (List RowM)} (x : SheetsAt K H s sa ss) (f : Fx M H H') (m1 : s ∉ M) (m2 : ∀ q ∈ sa, q ∉ M) : SheetsAt K H' s sa ss :=
  ⟨f.to x.l m1, x.n, fun k q m h1 h2 => let ⟨vs, e1, e2⟩ := x.i k q m h1 h2; ⟨vs, f.to e1 (m2 q (List.mem_of_getElem? h1)), e2.mv f (rowsM_nol m)⟩⟩
theorem foot_a {A : HA} : A.a ∈ A.foot := List.mem_cons_self
theorem foot_dx {A : HA} : A.dx ∈ A.foot := List.mem_cons_of_mem _ List.mem_cons_self
theorem foot_g {A : HA} : A.g ∈ A.foot := List.mem_cons_of_mem _ (List.mem_cons_of_mem _ List.mem_cons_self)
theorem foot_p {A : HA} : A.p ∈ A.foot := List.mem_cons_of_mem _ (List.mem_cons_of_mem _ (List.mem_cons_of_mem _ List.mem_cons_self))
theorem foot_r {A : HA} : A.r ∈ A.foot := List.mem_cons_of_mem _ (List.mem_cons_of_mem _ (List.mem_cons_of_mem _ (List.mem_cons_of_mem _ List.mem_cons_self)))
theorem foot_s {A : HA} : A.s ∈ A.foot := List.mem_cons_of_mem _ (List.mem_cons_of_mem _ (List.mem_cons_of_mem _ (List.mem_cons_of_mem _ (List.mem_cons_of_mem _ List.mem_cons_self))))
theorem foot_w {A : HA} : A.w ∈ A.foot := List.mem_cons_of_mem _ (List.mem_cons_of_mem _ (List.mem_cons_of_mem _ (List.mem_cons_of_mem _ (List.mem_cons_of_mem _ (List.mem_cons_of_mem _ List.mem_cons_self)))))
theorem foot_tl {A : HA} {x : Addr} (h : x ∈ A.ra.map (·.1) ++ (A.ra.map (·.2) ++ A.sa)) : x ∈ A.foot := List.mem_cons_of_mem _ (List.mem_cons_of_mem _ (List.mem_cons_of_mem _ (List.mem_cons_of_mem _ (List.mem_cons_of_mem _ (List.mem_cons_of_mem _ (List.mem_cons_of_mem _ h))))))
theorem foot_r1 {A : HA} {q : Addr × Addr} (h : q ∈ A.ra) : q.1 ∈ A.foot := foot_tl (List.mem_append_left _ (List.mem_map.mpr ⟨q, h, rfl⟩))
theorem foot_r2 {A : HA} {q : Addr × Addr} (h : q ∈ A.ra) : q.2 ∈ A.foot := foot_tl (List.mem_append_right _ (List.mem_append_left _ (List.mem_map.mpr ⟨q, h, rfl⟩)))
theorem foot_sa {A : HA} {q : Addr} (h : q ∈ A.sa) : q ∈ A.foot := foot_tl (List.mem_append_right _ (List.mem_append_right _ h))
/-- a hall stands while what changes is none of its own -/
theorem HallAt.fx (x : HallAt K H A n h) (f : Fx M H H') (d : ∀ y ∈ A.foot, y ∉ M) : HallAt K H' A n h := by
  obtain ⟨gk, g1, g2⟩ := x.g
  obtain ⟨pk, p1, p2⟩ := x.p
  obtain ⟨vs, w1, w2⟩ := x.w
  exact ⟨x.i.fx f (d _ foot_a) (d _ foot_dx), x.r.fx f (d _ foot_r) fun q hq => ⟨d _ (foot_r1 hq), d _ (foot_r2 hq)⟩, ⟨gk, f.to g1 (d _ foot_g), g2.mv f (tasks_nol _)⟩, ⟨pk, f.to p1 (d _ foot_p), p2.mv f (machs_nol _)⟩,
    x.s.fx f (d _ foot_s) fun q hq => d _ (foot_sa hq), ⟨vs, f.to w1 (d _ foot_w), w2.mv f (deeds_nol _)⟩, x.nd⟩
theorem HallAt.up (x : HallAt K H A n h) (f : Fx [] H H') : HallAt K H' A n h := x.fx f fun _ _ m => nomatch m
end
theorem player_val {K : PySem.W.Frag} {H : Hp} {h : HallM} {kvs : List (Key × V)} {n : Str} {m : Mch} (hk : KvD K H kvs (playersD h)) (e : h.players.lookup n = some m) : ∃ v, valV kvs (.inr n) = some v ∧ Dp K H v (machD m) := by
  have e1 := lookup_map machD h.players n
  rw [e] at e1
  rcases hk.val n with ⟨h1, h2⟩ | ⟨d, v, h1, h2, h3⟩
  · have : (playersD h).lookup n = some (machD m) := e1
    rw [h1] at this
    cases this
  · have : (playersD h).lookup n = some (machD m) := e1
    rw [h1] at this
    cases this
    exact ⟨v, h2, h3⟩
theorem goal_val {K : PySem.W.Frag} {H : Hp} {l : List (Str × Tsk)} {kvs : List (Key × V)} {n : Str} {t : Tsk} (hk : KvD K H kvs (l.map fun q => (q.1, taskD q.2))) (e : l.lookup n = some t) : ∃ v, valV kvs (.inr n) = some v ∧ Dp K H v (taskD t) := by
  have e1 := lookup_map taskD l n
  rw [e] at e1
  rcases hk.val n with ⟨h1, h2⟩ | ⟨d, v, h1, h2, h3⟩
  · rw [h1] at e1
    cases e1
  · rw [h1] at e1
    cases e1
    exact ⟨v, h2, h3⟩
theorem player_none {K : PySem.W.Frag} {H : Hp} {h : HallM} {kvs : List (Key × V)} {n : Str} (hk : KvD K H kvs (playersD h)) (e : h.players.lookup n = none) : valV kvs (.inr n) = none := by
  have e1 := lookup_map machD h.players n
  rw [e] at e1
  rcases hk.val n with ⟨h1, h2⟩ | ⟨d, v, h1, h2, h3⟩
  · exact h2
  · have : (playersD h).lookup n = none := e1
    rw [h1] at this
    cases this
theorem goal_isSome {K : PySem.W.Frag} {H : Hp} {l : List (Str × Tsk)} {kvs : List (Key × V)} {n : Str} (hk : KvD K H kvs (l.map fun q => (q.1, taskD q.2))) : (valV kvs (.inr n)).isSome = (l.lookup n).isSome := by
  have e1 := lookup_map taskD l n
  rcases hk.val n with ⟨h1, h2⟩ | ⟨d, v, h1, h2, h3⟩
  · rw [h1] at e1
    rw [h2]
    cases hl : l.lookup n with
    | none => rfl
    | some t => rw [hl] at e1; cases e1
  · rw [h1] at e1
    rw [h2]
    cases hl : l.lookup n with
    | none => rw [hl] at e1; cases e1
    | some t => rfl
end Mh
/-! MhHc -/
namespace Mh
open PySem PySem.Spec PyProof.Rows L2
theorem RunsAt.get {K : PySem.W.Frag} {H : Hp} {r : Addr} {ra : List (Addr × Addr)} {rs : List RunM} (h : RunsAt K H r ra rs) {i : Nat} {w : V} (e : (ra.map fun q => V.ref q.1)[i]? = some w) : ∃ q m, w = .ref q.1 ∧ ra[i]? = some q ∧ rs[i]? = some m ∧ H q.1 = some (.ins (He.ga K "Run") q.2 (runF m)) ∧ H q.2 = some (.own q.1) := by
  rw [List.getElem?_map] at e
  obtain ⟨q, hq, rfl⟩ := Option.map_eq_some_iff.mp e
  have hlt : i < rs.length := by
    rw [← h.n]
    exact (List.getElem?_eq_some_iff.mp hq).1
  have em : rs[i]? = some rs[i] := List.getElem?_eq_getElem hlt
  exact ⟨q, rs[i], rfl, hq, em, h.i i q _ hq em⟩
theorem sc_Hall_counting : FnScope ["self", "name", "goal", "k", "run"] ["self", "name", "goal"] (defScope s_Hall_counting) := ⟨rfl, rfl, rfl, by decide +kernel, rfl, by decide +kernel, by decide +kernel⟩
def spCounting (K : PySem.W.Frag) : Sp := fun vs H Q _ => ∃ (A : HA) (d : Int) (rs : List RunM) (n g : Str), vs = [.ref A.a, .str n, .str g] ∧ InsAt K H A d ∧ RunsAt K H A.r A.ra rs ∧ rs.length ≤ 5000 ∧
  ∀ H' p, Fx [] H H' → H p = none → H' p = some (.lst ((cntL rs n g).map natV)) → Q (.ref p) H'
theorem ok_Hall_counting {P : Program} {w : World} {K : PySem.W.Frag} {mg : Str → Option Value} {base : Heap} (T : Tx K mg) : MDef P w K mg base CX0 1 "Hall" "counting" ["self", "name", "goal"] (spCounting K) := by
  obtain ⟨fd, F⟩ := T.d_Hall_counting
  refine ⟨_, fd, F.ok sc_Hall_counting (fun vs H Q E h => ?_) (fun cdv A outer s H vs Q E hr h => ?_), F.bindsN fun _ _ _ _ _ _ us hl => match us, hl with | [_, _, _], _ => rfl, T.k_Hall, T.m_Hall_counting⟩
  · obtain ⟨A, d, rs, n, g, rfl, _⟩ := h
    rfl
  · obtain ⟨A, d, rs, n, g, rfl, hin, hrn, hlen, q⟩ := h
    refine ⟨_, PSs.nox (pss_one (ps_ret (pe_lc (own := [("k", 3), ("run", 4)]) (g := (gTup _ 2 (gCons (gName 3) (gCons (gName 4) gNil)))) (tt := _) rfl sc_Hall_counting.nd (pi_enum (by rfl) T.f_enumerate (pa_cons (pe_fld (pv 0) rfl) pa_nil)) (blkOk_by (own := [("k", 3), ("run", 4)]) (N := ["self", "name", "goal", "k", "run"]) (sc := defScope s_Hall_counting) (by decide +kernel)) (fun _ _ _ _ _ => pg_tup rfl (pgs_cons (pg_name (i := 3) sc_Hall_counting.nd rfl (by first | exact Or.inl rfl | exact Or.inr rfl)) (pgs_cons (pg_name (i := 4) sc_Hall_counting.nd rfl (by first | exact Or.inl rfl | exact Or.inr rfl)) pgs_nil))) (fun _ _ _ _ _ => pts_one (PW.pt (pw_and (pt_val (kpe_fld (K := K) rfl (pv 4) rfl)) (pw_and (pt_cmpR op_eq (kpe_fld (K := K) rfl (pv 4) rfl) (pv 1) (nomark _)) (pw_and1 (pt_cmpR op_eq (kpe_fld (K := K) rfl (pv 4) rfl) (pv 2) (nomark _))))))) (fun _ _ _ _ _ => (pv 3))))), ?_⟩
    have hxl : (A.ra.map fun q => V.ref q.1).length = rs.length := by rw [List.length_map, hrn.n]
    refine rd_fld rfl hin.i T.k_Hall T.n_Hall_runs rfl ⟨_, _, rfl, SqL.of hrn.l, fun D hD => lc_rel (walk_enum (xs := A.ra.map fun q => V.ref q.1)) (fun i acc H2 => Fx [] H H2 ∧ acc = (cntTo rs n g i).map natV) ⟨Fx.new hD, rfl⟩ (fun i acc H2 r => r.1.sqL (SqL.of hrn.l) fun m => nomatch m) (fun i acc x H2 H3 hi hl hDa r y => ?_) (fun acc H2 hl hDa r => ?_)⟩
    · obtain ⟨T', u, w, rfl, hT, hu, hv⟩ := YPair.tup y
      cases hu
      have fy : Fx [] H2 H3 := YPair.fx y
      obtain ⟨f, rfl⟩ := r
      have f3 := f.trans fy
      have hDa3 := fy.to hDa fun z => nomatch z
      obtain ⟨ad, m, rfl, g1, g2, g3, _⟩ := hrn.get hv
      have g4 := f3.to g3 fun z => nomatch z
      have er : cntB rs n g i = mineB n g m := by
        unfold cntB
        rw [g2]
      have skip : cntB rs n g i = false → Pvl (fun i acc H2 => Fx [] H H2 ∧ acc = (cntTo rs n g i).map natV) D (i + 1) H3 := fun e => Pvl.skip hl hDa3 ⟨f3, by rw [cntTo_succ, e]; simp⟩
      refine ⟨T', _, rfl, SqT.of hT, rfl, _, _, rfl, _, _, rfl, rfl, rfl, ?_⟩
      refine rd_and (rd_tb (rd_fld rfl g4 T.k_Run T.n_Run_counts rfl ⟨_, rfl, ifB (fun c1 => ?_) (fun c1 => ?_)⟩))
      · refine rd_and (rd_tt (rd_op (rd_fld rfl g4 T.k_Run T.n_Run_player rfl (rd_eqT rfl ⟨_, rfl, ifB (fun c2 => ?_) (fun c2 => ?_)⟩))))
        · refine rd_tt (rd_op (rd_fld rfl g4 T.k_Run T.n_Run_goal rfl (rd_eqT rfl ⟨_, rfl, ifB (fun c3 => ?_) (fun c3 => ?_)⟩)))
          · have e : cntB rs n g i = true := by
              rw [er]
              unfold mineB
              rw [c1, decide_eq_true (eq_of_beq c2), decide_eq_true (eq_of_beq c3)]
              rfl
            refine ⟨_, rfl, Put.ok hl (by omega) hDa3 ⟨f3.loc hD (Chg.lst hDa3), ?_⟩⟩
            rw [cntTo_succ, e, List.map_append]
            rfl
          · refine skip ?_
            rw [er]
            unfold mineB
            rw [decide_eq_false (ne_of_beq_false c3), Bool.and_false, Bool.and_false]
        · refine skip ?_
          rw [er]
          unfold mineB
          rw [decide_eq_false (ne_of_beq_false c2), Bool.false_and, Bool.and_false]
      · refine skip ?_
        rw [er]
        unfold mineB
        rw [c1, Bool.false_and]
    · obtain ⟨f, rfl⟩ := r
      rw [hxl] at hDa
      exact q H2 D f hD hDa
end Mh
/-! MhHr -/
namespace Mh
open PySem PySem.Spec PyProof.Rows L2
theorem KvD.keys {K : PySem.W.Frag} {H : Hp} {kvs : List (Key × V)} {ds : List (Str × PyData)} (h : KvD K H kvs ds) : kvs.map (·.1) = (ds.map (·.1)).map Sum.inr := by
  rw [h.k, List.map_map]
  rfl
theorem goals_keys (h : HallM) : (goalsD h).map (·.1) = h.goals.map (·.1) := by
  unfold goalsD
  rw [List.map_map]
  rfl
theorem players_keys (h : HallM) : (playersD h).map (·.1) = h.players.map (·.1) := by
  unfold playersD
  rw [List.map_map]
  rfl
theorem natV_ints (l : List Nat) : l.map natV = (l.map fun k => ((k : Nat) : Int)).map V.int := by rw [List.map_map]; rfl
theorem ne_nilN (K : PySem.W.Frag) {H : Hp} {Q : VK} {a b : Addr} {ns : List Nat} (h : H a = some (.lst (ns.map natV))) (hb : H b = some (.lst [])) (q : Q (.bl (!ns.isEmpty)) H) : rNeD K (.ref a) (.ref b) H Q := by
  rw [natV_ints] at h
  refine ne_nilL K h hb ?_
  cases ns <;> exact q
/-- while the tasks are walked: the instance and the runs stand -/
theorem HallAt.lockG {K : PySem.W.Frag} {H : Hp} {A : HA} {d : Int} {h : HallM} {gk : List (Key × V)} (x : HallAt K H A d h) (g : H A.g = some (.dK gk)) (od : Obj) :
    InsAt K (upd H A.g (.frz od (.dK gk))) A d ∧ RunsAt K (upd H A.g (.frz od (.dK gk))) A.r A.ra h.runs := by
  have f : Fx [A.g] H (upd H A.g (.frz od (.dK gk))) := Fx.set List.mem_cons_self (Chg.dK g)
  have nm : ∀ {p : Addr} {u : HO}, H p = some u → u ≠ .dK gk → p ∉ [A.g] := fun h1 h2 m => by
    rw [List.mem_singleton.mp m, g] at h1
    exact h2 (Option.some.inj h1).symm
  refine ⟨x.i.fx f (nm x.i.i fun z => nomatch z) (nm x.i.o fun z => nomatch z), x.r.fx f (nm x.r.l fun z => nomatch z) fun q hq => ?_⟩
  obtain ⟨k, hk, e⟩ := List.getElem_of_mem hq
  have e1 : A.ra[k]? = some q := by rw [List.getElem?_eq_getElem hk, e]
  have hk2 : k < h.runs.length := by rw [← x.r.n]; exact hk
  obtain ⟨h1, h2⟩ := x.r.i k q _ e1 (List.getElem?_eq_getElem hk2)
  exact ⟨nm h1 (fun z => nomatch z), nm h2 (fun z => nomatch z)⟩
theorem isR_all (h : HallM) (n : Str) : (((List.range h.goals.length).map fun i => match h.goals[i]? with
    | some q => !(cntL h.runs n q.1).isEmpty
    | none => true).all id) = isRankd h n := range_all (by
  unfold isRankd
  apply Bool.eq_iff_iff.mpr
  rw [List.all_eq_true, List.all_eq_true]
  constructor
  · intro k q hq
    obtain ⟨i, hi, e⟩ := List.getElem_of_mem hq
    have := k i (List.mem_range.mpr hi)
    rw [List.getElem?_eq_getElem hi, e] at this
    exact this
  · intro k i hi
    have hi := List.mem_range.mp hi
    rw [List.getElem?_eq_getElem hi]
    exact k _ (List.getElem_mem hi))
theorem sc_Hall_ranked : FnScope ["self", "name", "goal"] ["self"] (defScope s_Hall_ranked) := ⟨rfl, rfl, rfl, by decide +kernel, rfl, by decide +kernel, by decide +kernel⟩
def spRanked (K : PySem.W.Frag) : Sp := fun vs H Q _ => ∃ (A : HA) (d : Int) (h : HallM), vs = [.ref A.a] ∧ HallAt K H A d h ∧ h.ok ∧
  ∀ H' p, Fx [] H H' → H p = none → H' p = some (.lst ((rankedL h).map V.str)) → Q (.ref p) H'
theorem ok_Hall_ranked {P : Program} {w : World} {K : PySem.W.Frag} {mg : Str → Option Value} {base : Heap} (T : Tx K mg) : MDef P w K mg base CX0 2 "Hall" "ranked" ["self"] (spRanked K) := by
  obtain ⟨fd, F⟩ := T.d_Hall_ranked
  have M_Hall_counting := ok_Hall_counting (P := P) (w := w) (base := base) T
  refine ⟨_, fd, F.ok sc_Hall_ranked (fun vs H Q E h => ?_) (fun cdv A outer s H vs Q E hr h => ?_), F.bindsN fun _ _ _ _ _ _ us hl => match us, hl with | [_], _ => rfl, T.k_Hall, T.m_Hall_ranked⟩
  · obtain ⟨A, d, h, rfl, _⟩ := h
    rfl
  · obtain ⟨A, d, h, rfl, ha, hok, q⟩ := h
    refine ⟨_, PSs.nox (pss_cons (ps_if (pt_cmpR (op_eqD0 (Nat.lt_of_succ_lt (hu_of hr))) (pe_fld (pv 0) rfl) pe_dnewK (nomark _))
        (pss_one (ps_ret (pe_lst pa_nil)))
        pss_nil)
        (pss_one (ps_ret (pe_lc (own := [("name", 1)]) (g := (gName 1)) (tt := _) rfl sc_Hall_ranked.nd (pi_list (pe_callB (call_sortedD rfl) (by rfl) T.f_sorted (by decide +kernel) (pa_cons (pe_fld (pv 0) rfl) pa_nil))) (blkOk_by (own := [("name", 1)]) (N := ["self", "name", "goal"]) (sc := defScope s_Hall_ranked) (by decide +kernel)) (fun _ _ _ _ _ => pg_name (i := 1) sc_Hall_ranked.nd rfl (by first | exact Or.inl rfl | exact Or.inr rfl)) (fun _ _ _ _ _ => pts_one (pt_val (pe_callB (kcr_all (K := K) rfl rfl) (by rfl) T.f_all (by decide +kernel) (pa_cons (pe_lock (pe_lc (own := [("goal", 2)]) (g := (gName 2)) (tt := tYes) rfl sc_Hall_ranked.nd (pi_keys (kpe_fld (K := K) rfl (pv 0) rfl)) (blkOk_by (own := [("goal", 2)]) (by kernel_rfl)) (fun _ _ _ _ _ => pg_name (i := 2) sc_Hall_ranked.nd rfl (by first | exact Or.inl rfl | exact Or.inr rfl)) (fun _ _ _ _ _ => pts_nil) (fun _ _ _ _ _ => (pe_cmpR (kop_neD (K := K) rfl hr.units) (kpe_mdef (K := K) rfl M_Hall_counting (hr.mono (by omega)) pass0 (pv 0) (pa_cons (pv 1) (pa_cons (pv 2) pa_nil))) (pe_lst pa_nil) (nomark _))))) pa_nil)))) (fun _ _ _ _ _ => (pv 1)))))), ?_⟩
    obtain ⟨gk, g1, g2⟩ := ha.g
    obtain ⟨pk, p1, p2⟩ := ha.p
    have hgl : gk.length = h.goals.length := by rw [g2.len]; unfold goalsD; rw [List.length_map]
    refine rd_tt (rd_op (rd_fld rfl ha.i.i T.k_Hall T.n_Hall_goals rfl fun b hb => ⟨A.g, b, gk, rfl, rfl, .inl (by rw [upd_ne (ne_of_none g1 hb)]; exact g1), upd_same, _, rfl, ?_⟩))
    have f1 : Fx [] H (upd H b (.dK [])) := Fx.new hb
    generalize upd H b (.dK []) = H1 at f1
    have ha1 := ha.up f1
    have e0 : gk.isEmpty = h.goals.isEmpty := by
      cases gk with
      | nil =>
        cases hh : h.goals with
        | nil => rfl
        | cons _ _ => rw [hh] at hgl; cases hgl
      | cons _ _ =>
        cases hh : h.goals with
        | nil => rw [hh] at hgl; cases hgl
        | cons _ _ => rfl
    rw [e0]
    refine ifB (fun c => ?_) (fun c => ?_)
    · refine ⟨by show 0 ≤ sizeLine; decide, fun p hp => q _ p (f1.trans (Fx.new hp)) (f1.free hp) ?_⟩
      have e : rankedL h = [] := by unfold rankedL; rw [if_pos c]
      rw [e]
      exact upd_same
    refine rd_fld rfl ha1.i.i T.k_Hall T.n_Hall_players rfl ⟨A.p, pk, h.players.map (·.1), rfl, .inl (f1.to p1 fun z => nomatch z), by rw [p2.keys, players_keys], by rw [List.length_map]; have := hok.pl; omega, fun ys p hys hso hp => ?_⟩
    have ey : ys = names h := sortS_uniq hys hso
    subst ey
    have f2 : Fx [] H (upd H1 p (.lst ((names h).map V.str))) := f1.trans (Fx.new hp)
    have hS : SqL K (upd H1 p (.lst ((names h).map V.str))) p ((names h).map V.str) := SqL.of upd_same
    generalize upd H1 p (.lst ((names h).map V.str)) = H2 at f2 hS
    have hnl : (names h).length ≤ 6 := by
      unfold names
      rw [sortS_len, List.length_map]
      exact hok.pl
    refine ⟨p, rfl, ⟨_, hS⟩, fun D hD => lc_rel (walk_list (xs := (names h).map V.str)) (fun i acc H3 => Fx [] H2 H3 ∧ acc = (((names h).take i).filter (isRankd h)).map V.str) ⟨Fx.new hD, rfl⟩ (fun i acc H3 r => r.1.sqL hS fun m => nomatch m) (fun i acc x H3 H4 hi hl hDa r y => ?_) (fun acc H3 hl hDa r => ?_)⟩
    · obtain ⟨f, rfl⟩ := r
      obtain ⟨rfl, hx⟩ := y
      rw [List.getElem?_map] at hx
      obtain ⟨n, hn, rfl⟩ := Option.map_eq_some_iff.mp hx
      rw [List.length_map] at hi
      have f3 := f2.trans f
      have ha3 := ha.up f3
      have g3 := f3.to g1 fun z => nomatch z
      refine ⟨rfl, ?_⟩
      have hDa3 := hDa
      refine ⟨A.g, _, g3, trivial, fun od => ?_⟩
      obtain ⟨i1, r1⟩ := ha3.lockG g3 od
      have hlk : upd H4 A.g (.frz od (.dK gk)) A.g = some (.frz od (.dK gk)) := upd_same
      refine ⟨_, rfl, A.a, _, _, _, _, rfl, i1.i, T.k_Hall, T.n_Hall_goals, rfl, A.g, od, rfl, .inl ⟨gk, hlk, fun D2 hD2 => lc_map walk_keys (fun i => .bl (match h.goals[i]? with
        | some q => !(cntL h.runs n q.1).isEmpty
        | none => true)) (by have := hok.gl; omega) hD2 (fun H5 f5 => f5.z _ _ _ hlk) (fun _ _ _ _ y => by rw [y.1]; exact .refl) (fun j x H5 H6 Qe Z hj f5 y k => ?_) (fun H5 f5 hL => ?_)⟩⟩
      · obtain ⟨rfl, kk, vv, hkv, rfl⟩ := y
        have hj2 : j < h.goals.length := by omega
        have eg : (goalsD h)[j]? = some (h.goals[j].1, taskD h.goals[j].2) := by
          unfold goalsD
          rw [List.getElem?_map, List.getElem?_eq_getElem hj2]
          rfl
        obtain ⟨v2, e2, _⟩ := g2.get eg
        rw [hkv] at e2
        cases e2
        rw [List.getElem?_eq_getElem hj2] at k
        refine ⟨rfl, ifT rfl ?_⟩
        have i2 := i1.fx f5 (fun z => nomatch z) (fun z => nomatch z)
        have r2 := r1.fx f5 (fun z => nomatch z) (fun q _ => ⟨(fun z => nomatch z), (fun z => nomatch z)⟩)
        refine ⟨_, rfl, A.a, A.dx, _, rfl, i2.i, rfl, _, rfl, _, rfl, A, d, h.runs, n, h.goals[j].1, rfl, i2, r2, hok.rl, fun H7 p7 f7 hp7 hpl7 => ⟨by show 0 ≤ sizeLine; decide, fun b7 hb7 => ?_⟩⟩
        have f8 : Fx [] H7 (upd H7 b7 (.lst [])) := Fx.new hb7
        exact ne_nilN K (f8.to hpl7 fun z => nomatch z) upd_same (k _ (f7.trans f8))
      · refine ⟨f5.z _ _ _ hlk, ?_⟩
        have f6 : Fx [] H4 (upd H5 A.g (.dK gk)) := Fx.unlock g3 (Chg.dK g3) f5
        have hgl2 : gk.length = h.goals.length := hgl
        have nD2 : D2 ≠ A.g := fun z => by
          rw [z] at hD2
          rw [hlk] at hD2
          cases hD2
        refine ⟨D2, (List.range h.goals.length).map fun i => match h.goals[i]? with
          | some q => !(cntL h.runs n q.1).isEmpty
          | none => true, rfl, SqL.of (by rw [upd_ne nD2, hL, hgl2, List.map_map]; rfl), _, rfl, ?_⟩
        rw [isR_all]
        have f7 := f3.trans f6
        have hDa7 := f6.to hDa fun z => nomatch z
        have et : (names h).take (i + 1) = (names h).take i ++ [n] := by rw [List.take_add_one, hn]; rfl
        refine ifB (fun c2 => ?_) (fun c2 => ?_)
        · refine ⟨_, rfl, Put.ok hl (by omega) hDa7 ⟨(f.trans f6).loc hD (Chg.lst hDa7), ?_⟩⟩
          rw [et, List.filter_append, List.map_append]
          congr 1
          rw [List.filter_cons_of_pos c2]
          rfl
        · refine Pvl.skip hl hDa7 ⟨f.trans f6, ?_⟩
          rw [et, List.filter_append, List.filter_cons_of_neg (by rw [c2]; decide)]
          simp
    · obtain ⟨f, rfl⟩ := r
      have e : rankedL h = (names h).filter (isRankd h) := by unfold rankedL; rw [if_neg (by rw [c]; decide)]
      rw [List.length_map, List.take_length, ← e] at hDa
      exact q H3 D (f2.trans f) (f2.free hD) hDa
end Mh
/-! MhHm -/
namespace Mh
open PySem PySem.Spec PyProof.Rows L2
theorem inV_ints (k : Int) (ns : List Int) : inV (.int k) (ns.map V.int) = ns.contains k := by
  unfold inV
  rw [List.any_map]
  induction ns with
  | nil => rfl
  | cons n ns ih =>
    rw [List.any_cons, List.contains_cons, ih]
    congr 1
    show (n == k) = (k == n)
    rw [Bool.eq_iff_iff, beq_iff_eq, beq_iff_eq]
    exact eq_comm
theorem eq_nilL (K : PySem.W.Frag) {H : Hp} {Q : VK} {a b : Addr} {ns : List Int} (h : H a = some (.lst (ns.map V.int))) (hb : H b = some (.lst [])) (q : Q (.bl ns.isEmpty) H) : rEqD K (.ref a) (.ref b) H Q := by
  refine ⟨_, .list [], Dp.lsti h, .lst (SqL.of hb) .nil, shaped_ints ns, by decide +kernel, ?_⟩
  have e : PyData.eqv (.list (ns.map .int)) (.list []) = ns.isEmpty := by
    cases ns with
    | nil => simp [PyData.eqv, PyData.eqvAll]
    | cons n ns => simp [PyData.eqv, PyData.eqvAll]
  rw [e]
  exact q
def optM : Option (Int × Int) → PyData
  | some p => shareD p
  | none => .none
theorem optM_nol (o : Option (Int × Int)) : nol (optM o) = true := by cases o <;> rfl
def goneB (gone : List Int) (k : Nat) : Bool := !gone.contains ((k : Nat) : Int)
theorem someL_le {h : HallM} (hok : h.ok) (n g : Str) (gone : List Int) : (someL h.runs n g gone).length ≤ 5 ∧ 0 ≤ (someL h.runs n g gone).sum ∧ (someL h.runs n g gone).sum ≤ 80 := by
  have h1 : (someL h.runs n g gone).length ≤ 5 := by
    unfold someL
    rw [List.length_map]
    exact Nat.le_trans (List.length_filter_le _ _) (hok.cn n g)
  have h2 : ∀ l : List Int, (∀ x ∈ l, 0 ≤ x ∧ x ≤ 16) → 0 ≤ l.sum ∧ l.sum ≤ 16 * (l.length : Int) := by
    intro l
    induction l with
    | nil => intro _; exact ⟨by simp, by simp⟩
    | cons x l ih =>
      intro hx
      obtain ⟨a, b⟩ := ih fun y hy => hx y (List.mem_cons_of_mem _ hy)
      obtain ⟨c, d⟩ := hx x List.mem_cons_self
      rw [List.sum_cons, List.length_cons]
      constructor
      · omega
      · omega
  obtain ⟨a, b⟩ := h2 (someL h.runs n g gone) fun x hx => by
    unfold someL at hx
    obtain ⟨k, hk, rfl⟩ := List.mem_map.mp hx
    obtain ⟨r, hr, _⟩ := cnt_get ((List.mem_filter.mp hk).1)
    have e : ptsAt h.runs k = r.x := by unfold ptsAt; rw [hr]
    rw [e]
    exact (hok.r r (List.mem_of_getElem? hr)).x
  exact ⟨h1, a, by omega⟩
/-- bounds of the sum while tasks are walked -/
def MB (i : Nat) (o u : Int) : Prop := 0 ≤ o ∧ 1 ≤ u ∧ o + u ≤ 1000 ^ i
theorem MB.next {i : Nat} {o u w s l : Int} (b : MB i o u) (hw : 1 ≤ w ∧ w ≤ 9) (hs : 0 ≤ s ∧ s ≤ 80) (hl : 1 ≤ l ∧ l ≤ 5) : MB (i + 1) (o * l + w * s * u) (u * l) := by
  obtain ⟨b1, b2, b3⟩ := b
  have e1 : 0 ≤ o * l := Int.mul_nonneg b1 (by omega)
  have e2 : 0 ≤ w * s := Int.mul_nonneg (by omega) hs.1
  have e3 : 0 ≤ w * s * u := Int.mul_nonneg e2 (by omega)
  have e4 : 1 * 1 ≤ u * l := Int.mul_le_mul b2 hl.1 (by omega) (by omega)
  have e5 : o * l ≤ o * 5 := Int.mul_le_mul_of_nonneg_left hl.2 b1
  have e6 : u * l ≤ u * 5 := Int.mul_le_mul_of_nonneg_left hl.2 (by omega)
  have e7 : w * s ≤ 9 * 80 := Int.mul_le_mul hw.2 hs.2 hs.1 (by omega)
  have e8 : w * s * u ≤ 720 * u := Int.mul_le_mul_of_nonneg_right e7 (by omega)
  refine ⟨by omega, by omega, ?_⟩
  have e9 : (1000 : Int) ^ (i + 1) = 1000 ^ i * 1000 := Int.pow_succ 1000 i
  omega
theorem MB.small {i : Nat} {o u : Int} (b : MB i o u) (h : i ≤ 4) : o ≤ 1000000000000 ∧ u ≤ 1000000000000 := by
  obtain ⟨b1, b2, b3⟩ := b
  have : (1000 : Int) ^ i ≤ 1000 ^ 4 := by
    match i, h with
    | 0, _ => decide
    | 1, _ => decide
    | 2, _ => decide
    | 3, _ => decide
    | 4, _ => decide
  have e : (1000 : Int) ^ 4 = 1000000000000 := by decide
  omega
theorem sc_Hall_mean_without : FnScope ["self", "name", "gone", "over", "under", "goal", "task", "some", "k"] ["self", "name", "gone"] (defScope s_Hall_mean_without) := ⟨rfl, rfl, rfl, by decide +kernel, rfl, by decide +kernel, by decide +kernel⟩
def spMeanW (K : PySem.W.Frag) : Sp := fun vs H Q _ => ∃ (A : HA) (d : Int) (h : HallM) (n : Str) (t : Addr) (gone : List Int), vs = [.ref A.a, .str n, .ref t] ∧ HallAt K H A d h ∧ h.ok ∧ SqT K H t (gone.map V.int) ∧
  ∀ H' v, Fx [] H H' → Dp K H' v (optM (meanW h n gone)) → Q v H'
theorem ok_Hall_mean_without {P : Program} {w : World} {K : PySem.W.Frag} {mg : Str → Option Value} {base : Heap} (T : Tx K mg) : MDef P w K mg base CX0 3 "Hall" "mean_without" ["self", "name", "gone"] (spMeanW K) := by
  obtain ⟨fd, F⟩ := T.d_Hall_mean_without
  have G_share := ok_share (P := P) (w := w) (base := base) T
  have M_Hall_counting := ok_Hall_counting (P := P) (w := w) (base := base) T
  refine ⟨_, fd, F.ok sc_Hall_mean_without (fun vs H Q E h => ?_) (fun cdv A outer s H vs Q E hr h => ?_), F.bindsN fun _ _ _ _ _ _ us hl => match us, hl with | [_, _, _], _ => rfl, T.k_Hall, T.m_Hall_mean_without⟩
  · obtain ⟨A, d, h, n, t, gone, rfl, _⟩ := h
    rfl
  · obtain ⟨A, d, h, n, t, gone, rfl, ha, hok, hgo, q⟩ := h
    refine ⟨_, PSs.nox (pss_cons (ps_asg (pe_tup (pa_cons pe_int (pa_cons pe_int pa_nil))) (pg_tup rfl (pgs_cons (pg_name (i := 3) sc_Hall_mean_without.nd rfl (by first | exact Or.inl rfl | exact Or.inr rfl)) (pgs_cons (pg_name (i := 4) sc_Hall_mean_without.nd rfl (by first | exact Or.inl rfl | exact Or.inr rfl)) pgs_nil))))
        (pss_cons (ps_lock (ps_for PassesOwn.never rfl (pi_items (pe_fld (pv 0) rfl)) (pg_tup rfl (pgs_cons (pg_name (i := 5) sc_Hall_mean_without.nd rfl (by first | exact Or.inl rfl | exact Or.inr rfl)) (pgs_cons (pg_name (i := 6) sc_Hall_mean_without.nd rfl (by first | exact Or.inl rfl | exact Or.inr rfl)) pgs_nil)))
        (pss_cons (ps_setLc (i := 7) (own := [("k", 8)]) (g := (gName 8)) (tt := _) rfl sc_Hall_mean_without.nd rfl rfl (sw_true rfl rfl rfl (by decide +kernel)) (pi_list (pe_mdef M_Hall_counting (hr.mono (by omega)) pass0 (pv 0) (pa_cons (pv 1) (pa_cons (pv 5) pa_nil)))) (blkOk_by (own := [("k", 8)]) (N := ["self", "name", "gone", "over", "under", "goal", "task", "some", "k"]) (sc := defScope s_Hall_mean_without) (by decide +kernel)) (fun _ _ _ _ _ => pg_name (i := 8) sc_Hall_mean_without.nd rfl (by first | exact Or.inl rfl | exact Or.inr rfl)) (fun _ _ _ _ _ => pts_one (pt_cmpR (kop_notIn (K := K) rfl) (pv 8) (pv 2) (by rfl))) (fun _ _ _ _ _ => (kpe_fld (K := K) rfl (pe_ix (kix_list (K := K) rfl) (kpe_fld (K := K) rfl (pv 0) rfl) (pv 8) (fun _ _ => rfl)) rfl)))
        (pss_cons (ps_if (pt_cmpR (op_eqD hr.units) (pv 7) (pe_lst pa_nil) (nomark _))
        (pss_one (ps_ret pe_non))
        pss_nil)
        (pss_cons (ps_set (i := 3) sc_Hall_mean_without.nd rfl (by first | exact Or.inl rfl | exact Or.inr rfl) (pe_op op_add (pe_op op_mul (pv 3) (pe_callB call_len_seq (by rfl) T.f_len (by decide +kernel) (pa_cons (pv 7) pa_nil))) (pe_op op_mul (pe_op op_mul (pe_ix ix_tup (pv 6) pe_int (fun _ _ => rfl)) (pe_callB (cr_sum rfl) (by rfl) T.f_sum (by decide +kernel) (pa_cons (pv 7) pa_nil))) (pv 4))))
        (pss_one (ps_set (i := 4) sc_Hall_mean_without.nd rfl (by first | exact Or.inl rfl | exact Or.inr rfl) (pe_op op_mul (pv 4) (pe_callB call_len_seq (by rfl) T.f_len (by decide +kernel) (pa_cons (pv 7) pa_nil))))))))))
        (pss_one (ps_ret (pe_def G_share (hr.mono (by omega)) pass0 (pa_cons (pv 3) (pa_cons (pv 4) pa_nil))))))), ?_⟩
    refine ⟨by show 2 ≤ sizeLine; decide, fun p0 hp0 => ⟨p0, _, rfl, SqT.of upd_same, rfl, _, _, rfl, _, _, rfl, rfl, ?_⟩⟩
    have f0 : Fx [] H (upd H p0 (.tup [.int 0, .int 1])) := Fx.new hp0
    generalize upd H p0 (.tup [.int 0, .int 1]) = H0 at f0
    replace ha := ha.up f0
    replace hgo := f0.sqT hgo
    replace q := fun H' v f => q H' v (f0.trans f)
    clear f0 hp0
    obtain ⟨gk, g1, g2⟩ := ha.g
    have hgl : gk.length = h.goals.length := by rw [g2.len]; unfold goalsD; rw [List.length_map]
    refine ⟨A.g, _, g1, trivial, fun od => ?_⟩
    obtain ⟨i1, r1⟩ := ha.lockG g1 od
    have fl : Fx [A.g] H0 (upd H0 A.g (.frz od (.dK gk))) := Fx.set List.mem_cons_self (Chg.dK g1)
    have hlk : upd H0 A.g (.frz od (.dK gk)) A.g = some (.frz od (.dK gk)) := upd_same
    have un : ∀ H5, Fx [] (upd H0 A.g (.frz od (.dK gk))) H5 → Fx [] H0 (upd H5 A.g (.dK gk)) := fun H5 f5 => Fx.unlock g1 (Chg.dK g1) f5
    generalize upd H0 A.g (.frz od (.dK gk)) = Hl at i1 r1 fl hlk un
    refine ⟨_, rfl, A.a, _, _, _, _, rfl, i1.i, T.k_Hall, T.n_Hall_goals, rfl, A.g, od, gk, rfl, hlk, for_it walk_items (fun i σ' H' => ∃ (o u : Int) (y5 y6 y7 : Option V), σ' = [some (.ref A.a), some (.str n), some (.ref t), some (.int o), some (.int u), y5, y6, y7, none] ∧ Fx [] Hl H' ∧ MB i o u ∧ meanGo h.runs n gone (h.goals.drop i) o u = meanGo h.runs n gone h.goals 0 1) ⟨0, 1, none, none, none, rfl, .refl, ⟨by decide, by decide, by decide⟩, rfl⟩ (fun i σ' H' _ hP => ?_) (fun i x σ' H2 H3 hi hP y => ?_) (fun σ' H' hP => ?_)⟩
    · obtain ⟨_, _, _, _, _, _, f, _⟩ := hP
      exact f.z _ _ _ hlk
    · obtain ⟨o, u, y5, y6, y7, rfl, f, hb, hm⟩ := hP
      obtain ⟨T', ku, vu, rfl, hT, hu, hv⟩ := YPair.tup y
      have fy : Fx [] H2 H3 := YPair.fx y
      have f3 := f.trans fy
      have hi2 : i < h.goals.length := by omega
      have hi4 : i < 4 := by have := hok.gl; omega
      obtain ⟨g, tk, hgt⟩ : ∃ g tk, h.goals[i]? = some (g, tk) := ⟨_, _, List.getElem?_eq_getElem hi2⟩
      have eg : (goalsD h)[i]? = some (g, taskD tk) := by
        unfold goalsD
        rw [List.getElem?_map, hgt]
        rfl
      obtain ⟨v2, e2, e3⟩ := g2.get eg
      rw [e2] at hu hv
      cases hu
      cases hv
      have htk : tk.ok := hok.gt _ (List.mem_of_getElem? hgt)
      have ed : h.goals.drop i = (g, tk) :: h.goals.drop (i + 1) := by
        have e5 : h.goals[i] = (g, tk) := by
          rw [List.getElem?_eq_getElem hi2] at hgt
          exact Option.some.inj hgt
        rw [List.drop_eq_getElem_cons hi2, e5]
      refine ⟨T', _, rfl, SqT.of hT, rfl, _, _, rfl, _, _, rfl, rfl, ?_⟩
      have i2 := i1.fx f3 (fun z => nomatch z) (fun z => nomatch z)
      have r2 := r1.fx f3 (fun z => nomatch z) (fun q _ => ⟨(fun z => nomatch z), (fun z => nomatch z)⟩)
      refine ⟨_, rfl, A.a, A.dx, _, rfl, i2.i, rfl, _, rfl, _, rfl, A, d, h.runs, n, g, rfl, i2, r2, hok.rl, fun H4 p f4 hp hpl => ⟨p, rfl, ⟨_, SqL.of hpl⟩, fun D hD => ?_⟩⟩
      refine lc_rel (walk_list (xs := (cntL h.runs n g).map natV)) (fun j acc H5 => Fx [] H4 H5 ∧ acc = ((((cntL h.runs n g).take j).filter (goneB gone)).map (ptsAt h.runs)).map V.int) ⟨Fx.new hD, rfl⟩ (fun j acc H5 r => (SqL.of (r.1.to hpl fun m => nomatch m))) (fun j acc x H5 H6 hj hl hDa r y => ?_) (fun acc H5 hl hDa r => ?_)
      · obtain ⟨f5, rfl⟩ := r
        obtain ⟨rfl, hx⟩ := y
        rw [List.getElem?_map] at hx
        obtain ⟨k, hk, rfl⟩ := Option.map_eq_some_iff.mp hx
        rw [List.length_map] at hj
        have hcl := hok.cn n g
        have f6 := (f3.trans f4).trans f5
        have i3 := i1.fx f6 (fun z => nomatch z) (fun z => nomatch z)
        have r3 := r1.fx f6 (fun z => nomatch z) (fun q _ => ⟨(fun z => nomatch z), (fun z => nomatch z)⟩)
        have et : (cntL h.runs n g).take (j + 1) = (cntL h.runs n g).take j ++ [k] := by rw [List.take_add_one, hk]; rfl
        refine ⟨rfl, _, rfl, _, rfl, t, _, rfl, .inr (f6.sqT (fl.sqT hgo)), rfl, all_flat gone, _, rfl, ?_⟩
        rw [if_pos rfl, show natV k = V.int ((k : Nat) : Int) from rfl, inV_ints]
        refine ifB (fun c => ?_) (fun c => ?_)
        · have hklt : k < h.runs.length := cnt_lt (List.mem_of_getElem? hk)
          obtain ⟨qa, hqa⟩ : ∃ qa, A.ra[k]? = some qa := ⟨_, List.getElem?_eq_getElem (by rw [r3.n]; exact hklt)⟩
          obtain ⟨mr, q2⟩ : ∃ mr, h.runs[k]? = some mr := ⟨_, List.getElem?_eq_getElem hklt⟩
          have q3 := (r3.i k qa mr hqa q2).1
          refine ⟨_, rfl, A.a, _, _, _, _, rfl, i3.i, T.k_Hall, T.n_Hall_runs, rfl, _, rfl, A.r, _, ((k : Nat) : Int), .ref qa.1, rfl, rfl, SqL.of r3.l, atI_nat (by rw [List.getElem?_map, hqa]; rfl), qa.1, _, _, _, _, rfl, q3, T.k_Run, T.n_Run_points, rfl, Put.ok hl (by omega) hDa ⟨f5.loc hD (Chg.lst hDa), ?_⟩⟩
          have ep : ptsAt h.runs k = mr.x := by unfold ptsAt; rw [q2]
          rw [et, List.filter_append, List.map_append, List.map_append]
          congr 1
          rw [List.filter_cons_of_pos (show goneB gone k = true from c)]
          show [V.int mr.x] = [V.int (ptsAt h.runs k)]
          rw [ep]
        · refine Pvl.skip hl hDa ⟨f5, ?_⟩
          rw [et, List.filter_append, List.filter_cons_of_neg (show ¬ goneB gone k = true by unfold goneB; rw [c]; decide)]
          simp
      · obtain ⟨f5, rfl⟩ := r
        rw [List.length_map, List.take_length] at hDa
        have es : ((cntL h.runs n g).filter (goneB gone)).map (ptsAt h.runs) = someL h.runs n g gone := rfl
        rw [es] at hDa
        obtain ⟨s1, s2, s3⟩ := someL_le hok n g gone
        refine ⟨_, rfl, by show 0 ≤ sizeLine; decide, fun b hbx => eq_nilL K (ns := someL h.runs n g gone) (by rw [upd_ne (ne_of_none hDa hbx)]; exact hDa) upd_same ⟨_, rfl, ?_⟩⟩
        have f7 : Fx [] H5 (upd H5 b (.lst [])) := Fx.new hbx
        have hDa7 := f7.to hDa fun z => nomatch z
        have f8 := ((f3.trans f4).trans f5).trans f7
        generalize upd H5 b (.lst []) = H7 at f7 hDa7 f8
        rw [ed] at hm
        refine ifB (fun c => ?_) (fun c => ?_)
        · refine ⟨f8.z _ _ _ hlk, ?_⟩
          have em : meanW h n gone = none := by
            unfold meanW
            rw [← hm]
            unfold meanGo
            rw [if_pos c]
            rfl
          have := q (upd H7 A.g (.dK gk)) .non (un _ f8)
          rw [em] at this
          exact this .non
        · have hl1 : 1 ≤ (someL h.runs n g gone).length := by
            cases hs : someL h.runs n g gone with
            | nil => rw [hs] at c; cases c
            | cons _ _ => rw [List.length_cons]; omega
          have hb4 := hb.small (by omega)
          have hbn := hb.next (w := tk.w) (s := (someL h.runs n g gone).sum) (l := ((someL h.runs n g gone).length : Nat)) htk.w ⟨s2, s3⟩ ⟨by omega, by omega⟩
          have hb5 := hbn.small (by omega)
          obtain ⟨ta, w0, w1, rfl, hta, k0, k1⟩ := (((e3.mv fl (task_nol _)).ext f8)).tup2
          cases k1
          obtain ⟨b1, b2, b3⟩ := hb
          have hws : 0 ≤ tk.w * (someL h.runs n g gone).sum ∧ tk.w * (someL h.runs n g gone).sum ≤ 9 * 80 := ⟨Int.mul_nonneg (by have := htk.w.1; omega) s2, Int.mul_le_mul htk.w.2 s3 s2 (by omega)⟩
          refine ⟨_, rfl, _, rfl, D, _, rfl, .inl (SqL.of hDa7), _, _, rfl, rfl, .inl ⟨by omega, by omega⟩, ?_⟩
          refine ⟨_, rfl, ta, _, 1, _, rfl, rfl, hta, atI_nat (j := 1) rfl, _, rfl, D, someL h.runs n g gone, rfl, SqL.of hDa7, _, _, rfl, rfl, .inl ⟨by have := htk.w; omega, by have := htk.w; omega⟩, _, rfl, _, _, rfl, rfl, .inl ⟨by omega, by omega⟩, _, _, rfl, rfl, ?_⟩
          refine ⟨_, rfl, _, rfl, D, _, rfl, .inl (SqL.of hDa7), _, _, rfl, rfl, .inl ⟨by omega, by omega⟩, ?_⟩
          rw [List.length_map]
          refine ⟨_, _, _, _, _, rfl, f8, hbn, ?_⟩
          rw [← hm]
          conv => rhs; unfold meanGo
          rw [if_neg (by rw [c]; decide)]
    · obtain ⟨o, u, y5, y6, y7, rfl, f, hb, hm⟩ := hP
      rw [hgl, List.drop_length] at hm
      rw [hgl] at hb
      have hbs := hb.small hok.gl
      obtain ⟨b1, b2, b3⟩ := hb
      refine ⟨f.z _ _ _ hlk, ?_⟩
      refine ⟨_, rfl, _, rfl, ⟨o, u, rfl, b1, by omega, Int.lt_of_le_of_lt hbs.2 (by decide), fun H5 v f5 hv => ?_⟩⟩
      have em : meanW h n gone = some (shareI o u) := by
        unfold meanW
        rw [← hm]
        rfl
      have := q H5 v ((un _ f).trans f5)
      rw [em] at this
      exact this hv
end Mh
/-! MhHt -/
namespace Mh
open PySem PySem.Spec PyProof.Rows L2
/-! ### a dict comprehension over a walk -/
section
variable {J : It} {n : Nat} {G : Hp → Prop} {Y : Nat → Hp → V → Hp → Prop}
def PvD (R : Nat → List (Key × V) → Hp → Prop) (D : Addr) (i : Nat) (H : Hp) : Prop := ∃ acc, acc.length ≤ i ∧ H D = some (.dK acc) ∧ R i acc H
def PutD (R : Nat → List (Key × V) → Hp → Prop) (D : Addr) (i : Nat) (y : V) : VK := fun z H => ∃ kvs k, y = kV k ∧ H D = some (.dK kvs) ∧ kvs.length < sizeLine ∧ PvD R D i (upd H D (.dK (putK kvs k z)))
theorem PutD.ok {R : Nat → List (Key × V) → Hp → Prop} {D : Addr} {i : Nat} {k : Key} {z : V} {H : Hp} {acc : List (Key × V)} (hl : acc.length ≤ i) (hi : i < 1000000) (hD : H D = some (.dK acc)) (r : R (i + 1) (putK acc k z) (upd H D (.dK (putK acc k z)))) : PutD R D (i + 1) (kV k) z H :=
  ⟨acc, k, rfl, hD, Nat.lt_of_lt_of_le (show acc.length < 1000000 by omega) (by decide), _, by have := length_putK acc k z; omega, upd_same, r⟩
theorem dc_rel (w : Walk J n G Y) {g : TG} {tt : TT} {tk tv : TE} {vs : List Nat} {σ : L2.St} {H1 : Hp} {D : Addr} {Qd : Hp → Prop} (R : Nat → List (Key × V) → Hp → Prop) (h0 : R 0 [] (upd H1 D (.dK []))) (hG : ∀ i acc H, R i acc H → G H)
    (hs : ∀ i acc x H H', i < n → acc.length ≤ i → H D = some (.dK acc) → R i acc H → Y i H x H' → g x (wipe σ vs) H' fun σ2 H2 => wipe σ2 vs = wipe σ vs ∧ tt σ2 H2 fun b H3 =>
      if b = true then tk σ2 H3 fun y H4 => tv σ2 H4 (PutD R D (i + 1) y) else PvD R D (i + 1) H3)
    (hd : ∀ acc H, acc.length ≤ n → H D = some (.dK acc) → R n acc H → Qd H) :
    ∃ W : Nat → Nat → Hp → Prop, (∃ m, W 0 m (upd H1 D (.dK []))) ∧ ∀ i m H, W i m H →
      (J.stop i H ∧ Qd H) ∨ (J.go i H ∧ ∃ Nx : Hp → Prop, (∀ H', Nx H' → ∃ m', m' < m ∧ W (i + 1) m' H') ∧ ∀ x H', J.yld i H x H' → g x (wipe σ vs) H' fun σ2 H2 => wipe σ2 vs = wipe σ vs ∧ tt σ2 H2 fun b H3 =>
        if b = true then tk σ2 H3 fun y H4 => tv σ2 H4 fun z H5 => ∃ kvs k, y = kV k ∧ H5 D = some (.dK kvs) ∧ kvs.length < sizeLine ∧ Nx (upd H5 D (.dK (putK kvs k z))) else Nx H3) := by
  refine ⟨fun i m H => m = n - i ∧ i ≤ n ∧ PvD R D i H, ⟨n, by simp, Nat.zero_le _, [], Nat.le_refl _, upd_same, h0⟩, ?_⟩
  rintro i m H ⟨rfl, hi, acc, hl, hD, r⟩
  have q := hG i acc H r
  by_cases hlt : i < n
  · exact .inr ⟨w.goes i H hlt q, PvD R D (i + 1), fun H' p' => ⟨n - (i + 1), by omega, rfl, hlt, p'⟩, fun x H' y => hs i acc x H H' hlt hl hD r (w.yields i H x H' hlt q y)⟩
  · have e : i = n := by omega
    subst e
    exact .inl ⟨w.stops H q, hd acc H hl hD r⟩
end
theorem putA_new {α : Type} {l : List (Str × α)} {n : Str} (v : α) (h : n ∉ l.map (·.1)) : putA l n v = l ++ [(n, v)] := by
  unfold putA
  rw [if_neg]
  intro z
  obtain ⟨q, hq, e⟩ := List.any_eq_true.mp z
  exact h (List.mem_map.mpr ⟨q, hq, of_decide_eq_true e⟩)
theorem nodup_notin {α : Type} {l : List α} {i : Nat} {x : α} (h : l.Nodup) (e : l[i]? = some x) : x ∉ l.take i := fun m => by
  obtain ⟨j, hj, ej⟩ := List.mem_iff_getElem.mp m
  rw [List.getElem_take] at ej
  have hj2 : j < i := by rw [List.length_take] at hj; omega
  obtain ⟨hi, ei⟩ := List.getElem?_eq_some_iff.mp e
  exact List.pairwise_iff_getElem.mp (List.nodup_iff_pairwise_ne.mp h) j i (by omega) hi hj2 (ej.trans ei.symm)
theorem ranked_nodup {h : HallM} (hok : h.ok) : (rankedL h).Nodup := by
  unfold rankedL
  split
  · exact List.nodup_nil
  · exact List.Nodup.sublist List.filter_sublist (sortS_nodup hok.pn)
theorem ranked_len {h : HallM} (hok : h.ok) : (rankedL h).length ≤ 6 := by
  unfold rankedL
  split
  · exact Nat.zero_le _
  · refine Nat.le_trans (List.length_filter_le _ _) ?_
    unfold names
    rw [sortS_len, List.length_map]
    exact hok.pl
theorem meanGo_some {h : HallM} (hok : h.ok) (n : Str) : ∀ (l : List (Str × Tsk)) (o u : Int), (l.all fun q => !(cntL h.runs n q.1).isEmpty) = true → ∃ p, meanGo h.runs n [] l o u = some p
  | [], o, u, _ => ⟨_, rfl⟩
  | q :: l, o, u, hl => by
    obtain ⟨h1, h2⟩ := Bool.and_eq_true_iff.mp (show ((!(cntL h.runs n q.1).isEmpty) && l.all fun q => !(cntL h.runs n q.1).isEmpty) = true from hl)
    unfold meanGo
    have e : someL h.runs n q.1 [] = (cntL h.runs n q.1).map (ptsAt h.runs) := by
      have e0 : (cntL h.runs n q.1).filter (fun k => !([] : List Int).contains ((k : Nat) : Int)) = cntL h.runs n q.1 := List.filter_eq_self.mpr fun k _ => rfl
      unfold someL
      rw [e0]
    have e2 : (someL h.runs n q.1 []).isEmpty = false := by
      rw [e]
      cases hc : cntL h.runs n q.1 with
      | nil => rw [hc] at h1; cases h1
      | cons _ _ => rfl
    rw [e2, if_neg (by decide)]
    exact meanGo_some hok n l _ _ h2
theorem meanW_some {h : HallM} (hok : h.ok) {n : Str} (hn : n ∈ rankedL h) : meanW h n [] = some (meanOf h n) := by
  have hr : isRankd h n = true := by
    unfold rankedL at hn
    split at hn
    · cases hn
    · exact (List.mem_filter.mp hn).2
  obtain ⟨p, hp⟩ := meanGo_some hok n h.goals 0 1 hr
  unfold meanOf meanW
  rw [hp]
  rfl
theorem meanGo_MB {h : HallM} (hok : h.ok) (n : Str) (gone : List Int) : ∀ (l : List (Str × Tsk)) (i : Nat) (o u : Int) (p : Int × Int), (∀ q ∈ l, q.2.ok) → MB i o u → i + l.length ≤ 4 → meanGo h.runs n gone l o u = some p → ∃ j, j ≤ 4 ∧ MB j p.1 p.2
  | [], i, o, u, p, _, b, hi, e => by
    have e2 : (o, u) = p := Option.some.inj e
    rw [← e2]
    exact ⟨i, by simpa using hi, b⟩
  | q :: l, i, o, u, p, hq, b, hi, e => by
    unfold meanGo at e
    rw [List.length_cons] at hi
    split at e
    · cases e
    · rename_i hne
      obtain ⟨s1, s2, s3⟩ := someL_le hok n q.1 gone
      have hl1 : 1 ≤ (someL h.runs n q.1 gone).length := by
        cases hs : someL h.runs n q.1 gone with
        | nil => rw [hs] at hne; exact absurd rfl hne
        | cons _ _ => rw [List.length_cons]; omega
      have hbn := b.next (w := q.2.w) (s := (someL h.runs n q.1 gone).sum) (l := ((someL h.runs n q.1 gone).length : Nat)) (hq q List.mem_cons_self).w ⟨s2, s3⟩ ⟨by omega, by omega⟩
      exact meanGo_MB hok n gone l (i + 1) _ _ p (fun x hx => hq x (List.mem_cons_of_mem _ hx)) hbn (by omega) e
structure SmallM (p : Int × Int) : Prop where
  a0 : 0 ≤ p.1
  a1 : p.1 ≤ 1000000000000
  b0 : 1 ≤ p.2
  b1 : p.2 ≤ 1000000000000
theorem share_small {o u : Int} (h1 : 0 ≤ o) (h2 : o ≤ 1000000000000) (h3 : 1 ≤ u) (h4 : u ≤ 1000000000000) : SmallM (shareI o u) := by
  obtain ⟨g1, g2⟩ := gcd_dvdn (x := o) (y := u) (by omega)
  have k1 : o / (Int.gcd o u : Int) ≤ o := Int.ediv_le_self _ h1
  have k2 : u / (Int.gcd o u : Int) ≤ u := Int.ediv_le_self _ (by omega)
  have k3 : 0 ≤ o / (Int.gcd o u : Int) := Int.ediv_nonneg h1 (by omega)
  have k4 : 1 ≤ u / (Int.gcd o u : Int) := by
    have := Int.ediv_pos_of_pos_of_dvd (a := u) (b := (Int.gcd o u : Int)) (by omega) (by omega) (Int.gcd_dvd_right o u)
    omega
  exact ⟨k3, by show o / _ ≤ _; omega, k4, by show u / _ ≤ _; omega⟩
theorem meanW_small {h : HallM} (hok : h.ok) {n : Str} {gone : List Int} {p : Int × Int} (e : meanW h n gone = some p) : SmallM p := by
  unfold meanW at e
  obtain ⟨q, hq, rfl⟩ := Option.map_eq_some_iff.mp e
  obtain ⟨j, hj, b⟩ := meanGo_MB hok n gone h.goals 0 0 1 q hok.gt ⟨by decide, by decide, by decide⟩ (by have := hok.gl; omega) hq
  have bs := b.small hj
  obtain ⟨b1, b2, _⟩ := b
  exact share_small b1 bs.1 b2 bs.2
theorem meanOf_small {h : HallM} (hok : h.ok) (n : Str) : SmallM (meanOf h n) := by
  unfold meanOf
  cases e : meanW h n [] with
  | none => exact ⟨by decide, by decide, by decide, by decide⟩
  | some p => exact meanW_small hok e
def meansD (h : HallM) : List (Str × PyData) := (meansL h).map fun q => (q.1, shareD q.2)
theorem means_nol (l : List (Str × Int × Int)) : nolA ((l.map fun q => (q.1, shareD q.2)).map (·.2)) = true := by
  induction l with
  | nil => rfl
  | cons q l ih =>
    show (nol (shareD q.2) && nolA ((l.map fun q => (q.1, shareD q.2)).map (·.2))) = true
    rw [ih]
    rfl
theorem keys_means (h : HallM) : ∀ l : List Str, ((l.map fun n => (n, meanOf h n)).map fun q => (q.1, shareD q.2)).map (·.1) = l
  | [] => rfl
  | n :: l => congrArg (n :: ·) (keys_means h l)
theorem sc_Hall_means : FnScope ["self", "name"] ["self"] (defScope s_Hall_means) := ⟨rfl, rfl, rfl, by decide +kernel, rfl, by decide +kernel, by decide +kernel⟩
def spMeans (K : PySem.W.Frag) : Sp := fun vs H Q _ => ∃ (A : HA) (d : Int) (h : HallM), vs = [.ref A.a] ∧ HallAt K H A d h ∧ h.ok ∧
  ∀ H' p kvs, Fx [] H H' → H p = none → H' p = some (.dK kvs) → KvD K H' kvs (meansD h) → Q (.ref p) H'
theorem ok_Hall_means {P : Program} {w : World} {K : PySem.W.Frag} {mg : Str → Option Value} {base : Heap} (T : Tx K mg) : MDef P w K mg base CX0 4 "Hall" "means" ["self"] (spMeans K) := by
  obtain ⟨fd, F⟩ := T.d_Hall_means
  have M_Hall_mean_without := ok_Hall_mean_without (P := P) (w := w) (base := base) T
  have M_Hall_ranked := ok_Hall_ranked (P := P) (w := w) (base := base) T
  refine ⟨_, fd, F.ok sc_Hall_means (fun vs H Q E h => ?_) (fun cdv A outer s H vs Q E hr h => ?_), F.bindsN fun _ _ _ _ _ _ us hl => match us, hl with | [_], _ => rfl, T.k_Hall, T.m_Hall_means⟩
  · obtain ⟨A, d, h, rfl, _⟩ := h
    rfl
  · obtain ⟨A, d, h, rfl, ha, hok, q⟩ := h
    refine ⟨_, PSs.nox (pss_one (ps_ret (pe_dc (own := [("name", 1)]) (g := (gName 1)) (tt := tYes) rfl sc_Hall_means.nd (pi_list (pe_mdef0 M_Hall_ranked (hr.mono (by omega)) pass0 (pv 0))) (blkOk_by (own := [("name", 1)]) (N := ["self", "name"]) (sc := defScope s_Hall_means) (by decide +kernel)) (fun _ _ _ _ _ => pg_name (i := 1) sc_Hall_means.nd rfl (by first | exact Or.inl rfl | exact Or.inr rfl)) (fun _ _ _ _ _ => pts_nil) (fun _ _ _ _ _ => (pv 1)) (fun _ _ _ _ _ => (kpe_mdef (K := K) rfl M_Hall_mean_without (hr.mono (by omega)) pass0 (pv 0) (pa_cons (pv 1) (pa_cons (pe_tup pa_nil) pa_nil))))))), ?_⟩
    refine ⟨_, rfl, A.a, A.dx, _, rfl, ha.i.i, rfl, A, d, h, rfl, ha, hok, fun H1 p f1 hp hp1 => ⟨p, rfl, ⟨_, SqL.of hp1⟩, fun D hD => ?_⟩⟩
    have hrl := ranked_len hok
    refine dc_rel (walk_list (xs := (rankedL h).map V.str)) (fun i acc H2 => Fx [] H1 H2 ∧ KvD K H2 acc ((((rankedL h).take i).map fun n => (n, meanOf h n)).map fun q => (q.1, shareD q.2))) ⟨Fx.new hD, .nil⟩ (fun i acc H2 r => SqL.of (r.1.to hp1 fun z => nomatch z)) (fun i acc x H2 H3 hi hl hDa r y => ?_) (fun acc H2 hl hDa r => ?_)
    · obtain ⟨f, hk⟩ := r
      obtain ⟨rfl, hx⟩ := y
      rw [List.getElem?_map] at hx
      obtain ⟨n, hn, rfl⟩ := Option.map_eq_some_iff.mp hx
      rw [List.length_map] at hi
      have f2 := f1.trans f
      have ha2 := ha.up f2
      refine ⟨rfl, _, rfl, ?_⟩
      refine ⟨_, rfl, A.a, A.dx, _, rfl, ha2.i.i, rfl, _, rfl, by show 0 ≤ sizeLine; decide, fun t ht => ?_⟩
      have f3 : Fx [] H3 (upd H3 t (.tup [])) := Fx.new ht
      refine ⟨A, d, h, n, t, [], rfl, ha2.up f3, hok, SqT.of upd_same, fun H4 v f4 hv => ?_⟩
      rw [meanW_some hok (List.mem_of_getElem? hn)] at hv
      have f5 := f3.trans f4
      have hDa4 := f5.to hDa fun z => nomatch z
      refine PutD.ok (k := .inr n) hl (by omega) hDa4 ?_
      have f6 : Fx [] H1 (upd H4 D (.dK (putK acc (.inr n) v))) := (f.trans f5).loc hD (Chg.dK hDa4)
      refine ⟨f6, ?_⟩
      have k1 := (hk.mv f5 (means_nol _)).put (n := n) hv
      have f7 : Fx [D] H4 (upd H4 D (.dK (putK acc (.inr n) v))) := Fx.set List.mem_cons_self (Chg.dK hDa4)
      have et : (rankedL h).take (i + 1) = (rankedL h).take i ++ [n] := by rw [List.take_add_one, hn]; rfl
      rw [et, List.map_append, List.map_append]
      have e2 : putA ((((rankedL h).take i).map fun n => (n, meanOf h n)).map fun q => (q.1, shareD q.2)) n (optM (some (meanOf h n))) = _ := putA_new _ (by
        rw [keys_means]
        exact nodup_notin (ranked_nodup hok) hn)
      rw [e2] at k1
      refine k1.mv f7 ?_
      have := means_nol (((rankedL h).take i).map (fun n => (n, meanOf h n)) ++ [(n, meanOf h n)])
      rw [List.map_append] at this
      exact this
    · obtain ⟨f, hk⟩ := r
      rw [List.length_map, List.take_length] at hk
      exact q H2 D acc (f1.trans f) (f1.free hD) hDa hk
/-- a list with an item of its own for each of a list -/
theorem dp_share {K : PySem.W.Frag} {H : Hp} {v : V} {p : Int × Int} (h : Dp K H v (shareD p)) : ∃ t, v = .ref t ∧ SqT K H t [.int p.1, .int p.2] := by
  obtain ⟨t, v0, v1, rfl, ht, k0, k1⟩ := h.tup2
  cases k0
  cases k1
  exact ⟨t, rfl, ht⟩
def tableD (l : List (Str × Int)) : List (Str × PyData) := l.map fun q => (q.1, .int q.2)
theorem table_nol (l : List (Str × Int)) : nolA ((tableD l).map (·.2)) = true := by
  induction l with
  | nil => rfl
  | cons q l ih => exact ih
theorem table_any {K : PySem.W.Frag} {H H' : Hp} : ∀ {l : List (Str × Int)} {kvs : List (Key × V)}, KvD K H kvs (tableD l) → KvD K H' kvs (tableD l)
  | [], [], _ => .nil
  | [], _ :: _, h => by have := h.len; simp [tableD] at this
  | _ :: _, [], h => by have := h.len; simp [tableD] at this
  | q :: l, p :: kvs, h => by
    obtain ⟨h1, h2, h3⟩ := h.tail
    refine .cons' h1 ?_ (table_any (l := l) h3)
    have e := h2.intI
    rw [e]
    exact .int _
theorem sc_Hall_table : FnScope ["self", "means", "found", "name", "mean", "one"] ["self"] (defScope s_Hall_table) := ⟨rfl, rfl, rfl, by decide +kernel, rfl, by decide +kernel, by decide +kernel⟩
def spTable (K : PySem.W.Frag) : Sp := fun vs H Q _ => ∃ (A : HA) (d : Int) (h : HallM), vs = [.ref A.a] ∧ HallAt K H A d h ∧ h.ok ∧
  ∀ H' p kvs, Fx [] H H' → H p = none → H' p = some (.dK kvs) → KvD K H' kvs (tableD (tableL h)) → Q (.ref p) H'
theorem table_keys (h : HallM) : ∀ l : List (Str × Int × Int), (tableD (l.map fun q => (q.1, rankOf h q.2))).map (·.1) = l.map (·.1)
  | [] => rfl
  | n :: l => congrArg (n.1 :: ·) (table_keys h l)
theorem means_names (h : HallM) : (meansL h).map (·.1) = rankedL h := by
  unfold meansL
  rw [List.map_map]
  exact List.map_id _
theorem ok_Hall_table {P : Program} {w : World} {K : PySem.W.Frag} {mg : Str → Option Value} {base : Heap} (T : Tx K mg) : MDef P w K mg base CX0 5 "Hall" "table" ["self"] (spTable K) := by
  obtain ⟨fd, F⟩ := T.d_Hall_table
  have M_Hall_means := ok_Hall_means (P := P) (w := w) (base := base) T
  refine ⟨_, fd, F.ok sc_Hall_table (fun vs H Q E h => ?_) (fun cdv A outer s H vs Q E hr h => ?_), F.bindsN fun _ _ _ _ _ _ us hl => match us, hl with | [_], _ => rfl, T.k_Hall, T.m_Hall_table⟩
  · obtain ⟨A, d, h, rfl, _⟩ := h
    rfl
  · obtain ⟨A, d, h, rfl, ha, hok, q⟩ := h
    refine ⟨_, PSs.nox (pss_cons (ps_set (i := 1) sc_Hall_table.nd rfl (by first | exact Or.inl rfl | exact Or.inr rfl) (pe_mdef0 M_Hall_means (hr.mono (by omega)) pass0 (pv 0)))
        (pss_cons (ps_set (i := 2) sc_Hall_table.nd rfl (by first | exact Or.inl rfl | exact Or.inr rfl) pe_dnewK)
        (pss_cons (ps_lock (ps_for PassesOwn.never rfl (pi_items (pv 1)) (pg_tup rfl (pgs_cons (pg_name (i := 3) sc_Hall_table.nd rfl (by first | exact Or.inl rfl | exact Or.inr rfl)) (pgs_cons (pg_name (i := 4) sc_Hall_table.nd rfl (by first | exact Or.inl rfl | exact Or.inr rfl)) pgs_nil)))
        (pss_one (ps_dput (hu_of hr) (pv 2) (pv 3) (pe_op op_add pe_int (pe_callB call_len_seq (by rfl) T.f_len (by decide +kernel) (pa_cons (pe_lc (own := [("one", 5)]) (g := (gName 5)) (tt := _) rfl sc_Hall_table.nd (pi_values (pv 1)) (blkOk_by (own := [("one", 5)]) (N := ["self", "means", "found", "name", "mean", "one"]) (sc := defScope s_Hall_table) (by decide +kernel)) (fun _ _ _ _ _ => pg_name (i := 5) sc_Hall_table.nd rfl (by first | exact Or.inl rfl | exact Or.inr rfl)) (fun _ _ _ _ _ => pts_one (pt_cmpR op_gt (pe_op op_mul (pe_ix (kix_tup (K := K) rfl) (pv 5) pe_int (fun _ _ => rfl)) (pe_ix (kix_tup (K := K) rfl) (pv 4) pe_int (fun _ _ => rfl))) (pe_op op_mul (pe_ix (kix_tup (K := K) rfl) (pv 4) pe_int (fun _ _ => rfl)) (pe_ix (kix_tup (K := K) rfl) (pv 5) pe_int (fun _ _ => rfl))) (nomark _))) (fun _ _ _ _ _ => (pv 5))) pa_nil))) rfl))))
        (pss_one (ps_ret (pv 2)))))), ?_⟩
    refine ⟨_, rfl, A.a, A.dx, _, rfl, ha.i.i, rfl, A, d, h, rfl, ha, hok, fun H1 p kvs f1 hp hp1 hk => ?_⟩
    intro D hD
    have hml : (meansL h).length ≤ 6 := by unfold meansL; rw [List.length_map]; exact ranked_len hok
    have hkl : kvs.length = (meansL h).length := by rw [hk.len]; unfold meansD; rw [List.length_map]
    have f2 : Fx [] H1 (upd H1 D (.dK [])) := Fx.new hD
    have hD2 : upd H1 D (.dK []) D = some (.dK []) := upd_same
    have hp2 := f2.to hp1 fun z => nomatch z
    have hk2 := hk.mv f2 (means_nol _)
    have nDp : D ≠ p := fun z => by rw [z] at hD; rw [hp1] at hD; cases hD
    generalize upd H1 D (.dK []) = H2 at f2 hD2 hp2 hk2
    have f12 := f1.trans f2
    have hD0 : H D = none := f1.free hD
    refine ⟨p, _, hp2, trivial, fun od => ?_⟩
    have fl : Fx [p] H2 (upd H2 p (.frz od (.dK kvs))) := Fx.set List.mem_cons_self (Chg.dK hp2)
    have hlk : upd H2 p (.frz od (.dK kvs)) p = some (.frz od (.dK kvs)) := upd_same
    have hD3 : upd H2 p (.frz od (.dK kvs)) D = some (.dK []) := by rw [upd_ne nDp]; exact hD2
    have hk3 := hk2.mv fl (means_nol _)
    have un : ∀ H5, Fx [D] (upd H2 p (.frz od (.dK kvs))) H5 → Fx [D] H2 (upd H5 p (.dK kvs)) := fun H5 f5 => Fx.unlock hp2 (Chg.dK hp2) f5
    generalize upd H2 p (.frz od (.dK kvs)) = Hl at fl hlk hD3 hk3 un
    refine ⟨_, rfl, p, od, kvs, rfl, hlk, for_it walk_items (fun i σ' H' => ∃ (y3 y4 : Option V) (acc : List (Key × V)), σ' = [some (.ref A.a), some (.ref p), some (.ref D), y3, y4, none] ∧ Fx [D] Hl H' ∧ H' D = some (.dK acc) ∧ acc.length ≤ i ∧ KvD K H' acc (tableD (((meansL h).take i).map fun q => (q.1, rankOf h q.2)))) ⟨none, none, [], rfl, .refl, hD3, Nat.le_refl _, .nil⟩ (fun i σ' H' _ hP => ?_) (fun i x σ' H3 H4 hi hP y => ?_) (fun σ' H' hP => ?_)⟩
    · obtain ⟨_, _, _, _, f, _⟩ := hP
      exact f.z _ _ _ hlk
    · obtain ⟨y3, y4, acc, rfl, f, hDa, hal, hka⟩ := hP
      obtain ⟨T', ku, vu, rfl, hT, hu, hv⟩ := YPair.tup y
      have fy : Fx [] H3 H4 := YPair.fx y
      have f4 := f.trans (fy.mono (N := [D]) fun x m => nomatch m)
      rw [hkl] at hi
      obtain ⟨n, m, hnm⟩ : ∃ n m, (meansL h)[i]? = some (n, m) := ⟨_, _, List.getElem?_eq_getElem hi⟩
      have eg : (meansD h)[i]? = some (n, shareD m) := by
        unfold meansD
        rw [List.getElem?_map, hnm]
        rfl
      obtain ⟨v2, e2, e3⟩ := hk3.get eg
      rw [e2] at hu hv
      cases hu
      cases hv
      obtain ⟨tm, rfl, htm⟩ := dp_share (e3.mv f4 rfl)
      refine ⟨T', _, rfl, SqT.of hT, rfl, _, _, rfl, _, _, rfl, rfl, ?_⟩
      have hDa4 := fy.to hDa fun z => nomatch z
      refine ⟨_, rfl, p, od, kvs, rfl, f4.z _ _ _ hlk, fun D2 hD2 => ?_⟩
      have sm : ∀ q ∈ meansL h, SmallM q.2 := fun q hq => by
        unfold meansL at hq
        obtain ⟨n, _, rfl⟩ := List.mem_map.mp hq
        exact meanOf_small hok n
      have smm : SmallM m := sm _ (List.mem_of_getElem? hnm)
      refine lc_rel walk_values (fun j ac2 H5 => Fx [] H4 H5 ∧ ac2.length = (((meansL h).take j).filter fun q => gtM q.2 m).length) ⟨Fx.new hD2, rfl⟩ (fun j ac2 H5 r => (f4.trans (r.1.mono (N := [D]) fun x m => nomatch m)).z _ _ _ hlk) (fun j ac2 x H5 H6 hj hl hDa2 r y => ?_) (fun ac2 H5 hl hDa2 r => ?_)
      · obtain ⟨f5, hlen⟩ := r
        obtain ⟨rfl, kk, hkj⟩ := y
        rw [hkl] at hj
        obtain ⟨n', m', hnm'⟩ : ∃ n m, (meansL h)[j]? = some (n, m) := ⟨_, _, List.getElem?_eq_getElem hj⟩
        have eg' : (meansD h)[j]? = some (n', shareD m') := by
          unfold meansD
          rw [List.getElem?_map, hnm']
          rfl
        obtain ⟨v2', e2', e3'⟩ := hk3.get eg'
        rw [e2'] at hkj
        cases hkj
        obtain ⟨tm', rfl, htm'⟩ := dp_share ((e3'.mv f4 rfl).ext f5)
        have sm' : SmallM m' := sm _ (List.mem_of_getElem? hnm')
        have htm5 := f5.sqT htm
        have et : (meansL h).take (j + 1) = (meansL h).take j ++ [(n', m')] := by rw [List.take_add_one, hnm']; rfl
        refine ⟨rfl, _, rfl, tm', _, 0, _, rfl, rfl, htm', atI_nat (j := 0) rfl, _, rfl, tm, _, 1, _, rfl, rfl, htm5, atI_nat (j := 1) rfl, _, _, rfl, rfl, .inl ⟨by have := sm'.a0; omega, by have := sm'.a1; omega⟩, ?_⟩
        refine ⟨_, rfl, tm, _, 0, _, rfl, rfl, htm5, atI_nat (j := 0) rfl, _, rfl, tm', _, 1, _, rfl, rfl, htm', atI_nat (j := 1) rfl, _, _, rfl, rfl, .inl ⟨by have := smm.a0; omega, by have := smm.a1; omega⟩, _, _, rfl, rfl, _, rfl, ?_⟩
        refine ifB (fun c => ?_) (fun c => ?_)
        · refine ⟨_, rfl, Put.ok hl (by omega) hDa2 ⟨f5.loc hD2 (Chg.lst hDa2), ?_⟩⟩
          rw [et, List.filter_append, List.filter_cons_of_pos (p := fun q : Str × Int × Int => gtM q.2 m) (a := (n', m')) (l := []) (show gtM m' m = true from c), List.length_append, List.length_append, hlen]
          rfl
        · refine Pvl.skip hl hDa2 ⟨f5, ?_⟩
          rw [et, List.filter_append, List.filter_cons_of_neg (p := fun q : Str × Int × Int => gtM q.2 m) (a := (n', m')) (l := []) (show ¬ gtM m' m = true by unfold gtM; rw [c]; decide), hlen]
          simp
      · obtain ⟨f5, hlen⟩ := r
        rw [hkl, List.take_length] at hlen
        have hDa5 := f5.to hDa4 fun z => nomatch z
        refine ⟨D2, _, rfl, .inl (SqL.of hDa2), _, _, rfl, rfl, ?_⟩
        rw [hlen]
        refine ⟨_, rfl, _, rfl, D, _, rfl, DPut.k (k := .inr n) hDa5 (ltL (m := acc.length) rfl (by omega)), ?_⟩
        have f6 := f4.trans (f5.mono (N := [D]) fun x m => nomatch m)
        have f7 : Fx [D] H5 (upd H5 D (.dK (putK acc (.inr n) (.int (1 + ((((meansL h).filter fun q => gtM q.2 m).length : Nat) : Int)))))) := Fx.set List.mem_cons_self (Chg.dK hDa5)
        refine ⟨_, _, _, rfl, f6.trans f7, upd_same, Nat.le_trans (length_putK acc _ _) (Nat.succ_le_succ hal), ?_⟩
        have f45 : Fx [] H3 H5 := fy.trans f5
        have k1 := (hka.mv f45 (table_nol _)).put (n := n) (Dp.int (K := K) (H := H5) (rankOf h m))
        have e2 : putA (tableD (((meansL h).take i).map fun q => (q.1, rankOf h q.2))) n (.int (rankOf h m)) = _ := putA_new _ (by
          rw [table_keys]
          have hn := ranked_nodup hok
          rw [← means_names] at hn
          have := nodup_notin (x := n) (i := i) hn (by rw [List.getElem?_map, hnm]; rfl)
          rw [← List.map_take] at this
          exact this)
        rw [e2] at k1
        have et : (meansL h).take (i + 1) = (meansL h).take i ++ [(n, m)] := by rw [List.take_add_one, hnm]; rfl
        rw [et, List.map_append]
        unfold tableD at k1 ⊢
        rw [List.map_append]
        have nn := table_nol (((meansL h).take i).map (fun q => (q.1, rankOf h q.2)) ++ [(n, rankOf h m)])
        unfold tableD at nn
        rw [List.map_append] at nn
        exact k1.mv f7 nn
    · obtain ⟨y3, y4, acc, rfl, f, hDa, hal, hka⟩ := hP
      rw [hkl, List.take_length] at hka
      refine ⟨f.z _ _ _ hlk, _, rfl, ?_⟩
      have f3 : Fx [D] H (upd H' p (.dK kvs)) := (f12.mono fun x m => nomatch m).trans (un _ f)
      exact q (upd H' p (.dK kvs)) D acc (f3.drop hD0) hD0 (by rw [upd_ne nDp]; exact hDa) (table_any hka)
end Mh
/-! MhHx -/
namespace Mh
open PySem PySem.Spec PyProof.Rows L2
theorem sc_need_name : FnScope ["name", "sign"] ["name"] (defScope s_need_name) := ⟨rfl, rfl, rfl, by decide +kernel, rfl, by decide +kernel, by decide +kernel⟩
def spNeedName (K : PySem.W.Frag) : Sp := fun vs H Q _ => ∃ (n : Str), vs = [.str n] ∧ NameOk n ∧ ∀ H', Fx [] H H' → Q .non H'
theorem ok_need_name {P : Program} {w : World} {K : PySem.W.Frag} {mg : Str → Option Value} {base : Heap} (T : Tx K mg) : Def P w K mg base CX0 1 "need_name" ["name"] (spNeedName K) := by
  obtain ⟨fd, F⟩ := T.d_need_name
  refine ⟨_, fd, F.ok sc_need_name (fun vs H Q E h => ?_) (fun cdv A outer s H vs Q E hr h => ?_), F.bindsN fun _ _ _ _ _ _ us hl => match us, hl with | [_], _ => rfl, T.g_need_name, F.kp⟩
  · obtain ⟨n, rfl, _⟩ := h
    rfl
  · obtain ⟨n, rfl, hn, q⟩ := h
    refine ⟨_, PSs.nox (pss_one (ps_if (PW.pt (pw_or (pt_not (pt_val (pe_callB call_isiD (by rfl) T.f_isinstance (by decide +kernel) (pa_cons (pv 0) (pa_cons (gT (n := "str") T.f_str) pa_nil))))) (pw_or (pt_not (pt_chain op_le op_le pe_int (pe_callB call_len_str (by rfl) T.f_len (by decide +kernel) (pa_cons (pv 0) pa_nil)) (gC T.c_MOST_NAME))) (pw_or1 (pt_not (pt_val (pe_callB (cr_all rfl) (by rfl) T.f_all (by decide +kernel) (pa_cons (pe_lc (own := [("sign", 1)]) (g := (gName 1)) (tt := tYes) rfl sc_need_name.nd (pi_str (pv 0)) (blkOk_by (own := [("sign", 1)]) (N := ["name", "sign"]) (sc := defScope s_need_name) (by decide +kernel)) (fun _ _ _ _ _ => pg_name (i := 1) sc_need_name.nd rfl (by first | exact Or.inl rfl | exact Or.inr rfl)) (fun _ _ _ _ _ => pts_nil) (fun _ _ _ _ _ => (pe_cmpR op_inS (pv 1) (gS T.s_LETTERS) (by rfl)))) pa_nil))))))))
        (pss_one ps_never)
        pss_nil)), ?_⟩
    have h1 := hn.l1
    have h6 := hn.l6
    have hs : n.length ≤ sizeLine := Nat.le_trans h6 (by decide)
    refine rd_isD rfl (by decide) (.str n) ⟨_, rfl, ifF rfl ?_⟩
    refine ⟨_, rfl, n, rfl, hs, _, _, rfl, rfl, _, rfl, ifT (decide_eq_true (by omega)) ⟨_, _, rfl, rfl, _, rfl, ifF (by rw [decide_eq_true (show (n.length : Int) ≤ 6 by omega)]; rfl) ?_⟩⟩
    have hsz : n.cps.size = n.length := rfl
    refine ⟨_, rfl, n, rfl, fun D hD => lc_map walk_str (fun i => .bl (decide (n.cps.toList.getD i 0 ∈ letters))) (by rw [hsz]; omega) hD (fun _ _ => trivial) (fun _ _ _ _ y => by rw [y.1]; exact .refl) (fun i x H2 H3 Qe Z hi f y k => ?_) (fun H2 f hL => ?_)⟩
    · obtain ⟨rfl, c, hc, rfl⟩ := y
      have ec : n.cps.toList.getD i 0 = c := getD_of (by rw [Array.getElem?_toList]; exact hc)
      rw [ec] at k
      exact ⟨rfl, ifT rfl ⟨_, rfl, c, _, rfl, rfl, k _ .refl⟩⟩
    · have eA : (((List.range n.cps.size).map fun i => decide (n.cps.toList.getD i 0 ∈ letters)).all id) = true := List.all_eq_true.mpr fun b hb => by
        obtain ⟨i, hi, rfl⟩ := List.mem_map.mp hb
        have hi := List.mem_range.mp hi
        rw [← Array.length_toList] at hi
        refine decide_eq_true (hn.az _ ?_)
        rw [List.getD_eq_getElem?_getD, List.getElem?_eq_getElem hi]
        exact List.getElem_mem hi
      refine ⟨D, (List.range n.cps.size).map fun i => decide (n.cps.toList.getD i 0 ∈ letters), rfl, SqL.of (by rw [hL, List.map_map]; rfl), ?_⟩
      rw [eA]
      exact ⟨_, rfl, ifF rfl (q _ f)⟩
/-- a new list of data -/
def NewL (K : PySem.W.Frag) (H H' : Hp) (p : Addr) (ds : List PyData) : Prop := H p = none ∧ ∃ xs, H' p = some (.lst xs) ∧ DpAll K H' xs ds
theorem dec_oV (a b : Option Int) : decide (oV a = oV b) = decide (a = b) := by
  cases a with
  | none =>
    cases b with
    | none => rfl
    | some j => rw [decide_eq_false (show ¬ oV none = oV (some j) from fun z => nomatch z), decide_eq_false (fun z => nomatch z)]
  | some i =>
    cases b with
    | none => rw [decide_eq_false (show ¬ oV (some i) = oV none from fun z => nomatch z), decide_eq_false (fun z => nomatch z)]
    | some j =>
      by_cases e : i = j
      · rw [e, decide_eq_true rfl, decide_eq_true rfl]
      · rw [decide_eq_false (show ¬ oV (some i) = oV (some j) from fun z => e (V.int.inj z)), decide_eq_false (fun z => e (Option.some.inj z))]
theorem dp_oV2 {K : PySem.W.Frag} {H : Hp} (o : Option Int) : Dp K H (oV o) (optD o) := by
  cases o with
  | none => exact .non
  | some i => exact .int i
theorem table_get {K : PySem.W.Frag} {H : Hp} {kvs : List (Key × V)} {l : List (Str × Int)} (h : KvD K H kvs (tableD l)) (n : Str) : (valV kvs (.inr n)).getD .non = oV (l.lookup n) := by
  have e := lookup_map (fun i : Int => PyData.int i) l n
  rcases h.val n with ⟨h1, h2⟩ | ⟨d, v, h1, h2, h3⟩
  · have e1 : (l.lookup n).map (fun i : Int => PyData.int i) = none := e.symm.trans h1
    rw [h2]
    cases hl : l.lookup n with
    | none => rfl
    | some i => rw [hl] at e1; cases e1
  · have e1 : (l.lookup n).map (fun i : Int => PyData.int i) = some d := e.symm.trans h1
    rw [h2]
    cases hl : l.lookup n with
    | none => rw [hl] at e1; cases e1
    | some i =>
      rw [hl] at e1
      have e2 : PyData.int i = d := Option.some.inj e1
      subst e2
      exact h3.intI
theorem chg_nol (l : List ChgM) : nolA (l.map chgD) = true := by
  induction l with
  | nil => rfl
  | cons c l ih =>
    obtain ⟨n, a, b⟩ := c
    show (nol (chgD (n, a, b)) && nolA (l.map chgD)) = true
    rw [ih]
    cases a <;> cases b <;> rfl
theorem chgs_snoc (ns : List Str) (n : Str) (b t : List (Str × Int)) : chgs (ns ++ [n]) b t = chgs ns b t ++ (if b.lookup n ≠ t.lookup n then [(n, b.lookup n, t.lookup n)] else []) := by
  unfold chgs
  rw [List.filter_append, List.map_append]
  congr 1
  by_cases e : b.lookup n ≠ t.lookup n
  · rw [if_pos e, List.filter_cons_of_pos (by exact decide_eq_true e)]
    rfl
  · rw [if_neg e, List.filter_cons_of_neg (by rw [decide_eq_false e]; decide)]
    rfl
theorem sc_Hall_changes : FnScope ["self", "before", "now", "found", "name"] ["self", "before"] (defScope s_Hall_changes) := ⟨rfl, rfl, rfl, by decide +kernel, rfl, by decide +kernel, by decide +kernel⟩
def spChanges (K : PySem.W.Frag) : Sp := fun vs H Q _ => ∃ (A : HA) (d : Int) (h : HallM) (b : Addr) (bk : List (Key × V)) (bl : List (Str × Int)), vs = [.ref A.a, .ref b] ∧ HallAt K H A d h ∧ h.ok ∧ H b = some (.dK bk) ∧ KvD K H bk (tableD bl) ∧
  ∀ H' p, Fx [] H H' → NewL K H H' p ((changesL h bl).map chgD) → Q (.ref p) H'
theorem ok_Hall_changes {P : Program} {w : World} {K : PySem.W.Frag} {mg : Str → Option Value} {base : Heap} (T : Tx K mg) : MDef P w K mg base CX0 6 "Hall" "changes" ["self", "before"] (spChanges K) := by
  obtain ⟨fd, F⟩ := T.d_Hall_changes
  have M_Hall_table := ok_Hall_table (P := P) (w := w) (base := base) T
  refine ⟨_, fd, F.ok sc_Hall_changes (fun vs H Q E h => ?_) (fun cdv A outer s H vs Q E hr h => ?_), F.bindsN fun _ _ _ _ _ _ us hl => match us, hl with | [_, _], _ => rfl, T.k_Hall, T.m_Hall_changes⟩
  · obtain ⟨A, d, h, b, bk, bl, rfl, _⟩ := h
    rfl
  · obtain ⟨A, d, h, b, bk, bl, rfl, ha, hok, hb, hbk, q⟩ := h
    refine ⟨_, PSs.nox (pss_cons (ps_set (i := 2) sc_Hall_changes.nd rfl (by first | exact Or.inl rfl | exact Or.inr rfl) (pe_mdef0 M_Hall_table (hr.mono (by omega)) pass0 (pv 0)))
        (pss_cons (ps_set (i := 3) sc_Hall_changes.nd rfl (by first | exact Or.inl rfl | exact Or.inr rfl) (pe_lst pa_nil))
        (pss_cons (ps_for PassesOwn.never rfl (pi_list (pe_callB (call_sortedD rfl) (by rfl) T.f_sorted (by decide +kernel) (pa_cons (pe_fld (pv 0) rfl) pa_nil))) (pg_name (i := 4) sc_Hall_changes.nd rfl (by first | exact Or.inl rfl | exact Or.inr rfl))
        (pss_one (ps_if (pt_cmpR op_ne (pe_dget2 (hu_of hr) (pv 1) (pv 4) pe_non ⟨rfl, rfl, rfl, rfl⟩) (pe_dget2 (hu_of hr) (pv 2) (pv 4) pe_non ⟨rfl, rfl, rfl, rfl⟩) (nomark _))
        (pss_one (ps_expr (pe_bm PySem.F.plainAttrs_list PySem.F.slot_list_append PySem.F.type_list_append mt_append (pv 3) (pa_cons (pe_tup (pa_cons (pv 4) (pa_cons (pe_dget2 (hu_of hr) (pv 1) (pv 4) pe_non ⟨rfl, rfl, rfl, rfl⟩) (pa_cons (pe_dget2 (hu_of hr) (pv 2) (pv 4) pe_non ⟨rfl, rfl, rfl, rfl⟩) pa_nil)))) pa_nil))))
        pss_nil)))
        (pss_one (ps_ret (pv 3)))))), ?_⟩
    refine ⟨_, rfl, A.a, A.dx, _, rfl, ha.i.i, rfl, A, d, h, rfl, ha, hok, fun H1 t tk f1 ht ht1 htk => ?_⟩
    refine ⟨by show 0 ≤ sizeLine; decide, fun D hD => ?_⟩
    have f2 : Fx [] H1 (upd H1 D (.lst [])) := Fx.new hD
    have hD2 : upd H1 D (.lst []) D = some (.lst []) := upd_same
    have ht2 := f2.to ht1 fun z => nomatch z
    have hb2 := (f1.trans f2).to hb fun z => nomatch z
    have hD0 : H D = none := f1.free hD
    have f12 := f1.trans f2
    have ha2 := ha.up f12
    generalize upd H1 D (.lst []) = H2 at f2 hD2 ht2 hb2 f12 ha2
    obtain ⟨pk, p1, p2⟩ := ha2.p
    refine ⟨_, rfl, A.a, _, _, _, _, rfl, ha2.i.i, T.k_Hall, T.n_Hall_players, rfl, A.p, pk, h.players.map (·.1), rfl, .inl p1, by rw [p2.keys, players_keys], by rw [List.length_map]; have := hok.pl; omega, fun ys p hys hso hp => ?_⟩
    have ey : ys = names h := sortS_uniq hys hso
    subst ey
    have f3 : Fx [] H2 (upd H2 p (.lst ((names h).map V.str))) := Fx.new hp
    have hS : upd H2 p (.lst ((names h).map V.str)) p = some (.lst ((names h).map V.str)) := upd_same
    have hD3 := f3.to hD2 fun z => nomatch z
    have hnl : (names h).length ≤ 6 := by
      unfold names
      rw [sortS_len, List.length_map]
      exact hok.pl
    have ht3 := f3.to ht2 fun z => nomatch z
    have hb3 := f3.to hb2 fun z => nomatch z
    have f13 := f12.trans f3
    have nDp : p ≠ D := fun z => by rw [z] at hp; rw [hD2] at hp; cases hp
    generalize upd H2 p (.lst ((names h).map V.str)) = H3 at f3 hS hD3 ht3 hb3 f13
    have nbD : b ≠ D := fun z => by rw [z] at hb; rw [hD0] at hb; cases hb
    have ntD : t ≠ D := fun z => by rw [z] at ht1; rw [hD] at ht1; cases ht1
    refine ⟨p, rfl, ⟨_, SqL.of hS⟩, for_it (walk_list (xs := (names h).map V.str)) (fun i σ' H' => ∃ (y4 : Option V) (acc : List V), σ' = [some (.ref A.a), some (.ref b), some (.ref t), some (.ref D), y4] ∧ Fx [D] H3 H' ∧ H' D = some (.lst acc) ∧ acc.length ≤ i ∧ DpAll K H' acc ((chgs ((names h).take i) bl (tableL h)).map chgD)) ⟨none, [], rfl, .refl, hD3, Nat.le_refl _, .nil⟩ (fun i σ' H' _ hP => ?_) (fun i x σ' H4 H5 hi hP y => ?_) (fun σ' H' hP => ?_)⟩
    · obtain ⟨_, _, _, f, _⟩ := hP
      exact SqL.of (f.to hS fun z => nDp (List.mem_singleton.mp z))
    · obtain ⟨y4, acc, rfl, f, hDa, hal, hdp⟩ := hP
      obtain ⟨rfl, hx⟩ := y
      rw [List.getElem?_map] at hx
      obtain ⟨n, hn, rfl⟩ := Option.map_eq_some_iff.mp hx
      rw [List.length_map] at hi
      have hb5 := f.to hb3 fun z => nbD (List.mem_singleton.mp z)
      have ht5 := f.to ht3 fun z => ntD (List.mem_singleton.mp z)
      have eb : (valV bk (.inr n)).getD .non = oV (bl.lookup n) := table_get hbk n
      have en : (valV tk (.inr n)).getD .non = oV ((tableL h).lookup n) := table_get htk n
      refine ⟨_, rfl, b, rfl, .inl ⟨bk, .inl hb5⟩, _, rfl, _, DGet.k (k := .inr n) hb5, _, rfl, t, rfl, .inl ⟨tk, .inl ht5⟩, _, rfl, _, DGet.k (k := .inr n) ht5, ?_⟩
      rw [eb, en]
      have hsc : scal (oV (bl.lookup n)) (oV ((tableL h).lookup n)) = true := by
        cases bl.lookup n <;> cases (tableL h).lookup n <;> rfl
      have et : (names h).take (i + 1) = (names h).take i ++ [n] := by rw [List.take_add_one, hn]; rfl
      refine ⟨hsc, _, rfl, ?_⟩
      rw [dec_oV]
      refine ifB (fun c => ?_) (fun c => ?_)
      · have c2 : bl.lookup n ≠ (tableL h).lookup n := by
          intro z
          rw [decide_eq_true z] at c
          cases c
        refine ⟨_, rfl, .inl ⟨rfl, _, SqL.of hDa⟩, _, rfl, _, rfl, b, rfl, .inl ⟨bk, .inl hb5⟩, _, rfl, _, DGet.k (k := .inr n) hb5, _, rfl, t, rfl, .inl ⟨tk, .inl ht5⟩, _, rfl, _, DGet.k (k := .inr n) ht5, by show 3 ≤ sizeLine; decide, fun u hu => ?_⟩
        rw [eb, en]
        have f6 : Fx [] H5 (upd H5 u (.tup [.str n, oV (bl.lookup n), oV ((tableL h).lookup n)])) := Fx.new hu
        have hu6 : SqT K (upd H5 u (.tup [.str n, oV (bl.lookup n), oV ((tableL h).lookup n)])) u [.str n, oV (bl.lookup n), oV ((tableL h).lookup n)] := SqT.of upd_same
        have hDa6 := f6.to hDa fun z => nomatch z
        have hdp6 := hdp.mv f6 (chg_nol _)
        generalize upd H5 u (.tup [.str n, oV (bl.lookup n), oV ((tableL h).lookup n)]) = H6 at f6 hu6 hDa6 hdp6
        refine ⟨D, _, _, rfl, rfl, hDa6, ltL (m := acc.length) rfl (by omega), ?_⟩
        have f7 : Fx [D] H6 (upd H6 D (.lst (acc ++ [.ref u]))) := Fx.set List.mem_cons_self (Chg.lst hDa6)
        refine ⟨_, _, rfl, (f.trans (f6.mono fun x m => nomatch m)).trans f7, upd_same, by rw [List.length_append]; exact Nat.succ_le_succ hal, ?_⟩
        rw [et, chgs_snoc, if_pos c2, List.map_append]
        have k1 := hdp6.snoc (d := chgD (n, bl.lookup n, (tableL h).lookup n)) (v := .ref u) (.tup hu6 (.cons (.str n) (.cons (dp_oV2 _) (.cons (dp_oV2 _) .nil))))
        have nn := chg_nol (chgs ((names h).take i) bl (tableL h) ++ [(n, bl.lookup n, (tableL h).lookup n)])
        rw [List.map_append] at nn
        exact k1.mv f7 nn
      · have c2 : ¬ bl.lookup n ≠ (tableL h).lookup n := by
          intro z
          rw [decide_eq_false z] at c
          cases c
        refine ⟨_, _, rfl, f, hDa, Nat.le_succ_of_le hal, ?_⟩
        rw [et, chgs_snoc, if_neg c2, List.append_nil]
        exact hdp
    · obtain ⟨y4, acc, rfl, f, hDa, hal, hdp⟩ := hP
      rw [List.length_map, List.take_length] at hdp
      exact ⟨_, rfl, q H' D (((f13.mono fun x m => nomatch m).trans f).drop hD0) ⟨hD0, acc, hDa, hdp⟩⟩
end Mh
/-! MhHk -/
namespace Mh
open PySem PySem.Spec PyProof.Rows L2
theorem perm_uniqM {α : Type} {R : α → α → Prop} : ∀ {l m : List α}, (∀ x ∈ l, ∀ y ∈ l, R x y → R y x → x = y) → l.Pairwise R → m.Pairwise R → l.Perm m → l = m
  | [], m, _, _, _, h => (List.Perm.eq_nil h.symm).symm
  | x :: l, [], _, _, _, h => absurd h.length_eq (by simp)
  | x :: l, y :: m, an, hl, hm, h => by
    have e : x = y := by
      rcases List.mem_cons.mp (h.mem_iff.mp (List.mem_cons_self (a := x) (l := l))) with e | hx
      · exact e
      · have hy0 := h.mem_iff.mpr (List.mem_cons_self (a := y) (l := m))
        rcases List.mem_cons.mp hy0 with e | hy
        · exact e.symm
        · exact an x List.mem_cons_self y hy0 ((List.pairwise_cons.mp hl).1 y hy) ((List.pairwise_cons.mp hm).1 x hx)
    subst e
    rw [perm_uniqM (fun a ha b hb => an a (List.mem_cons_of_mem _ ha) b (List.mem_cons_of_mem _ hb)) (List.pairwise_cons.mp hl).2 (List.pairwise_cons.mp hm).2 h.cons_inv]
theorem perm_map_inv {α β : Type} {f : α → β} {u m : List β} (h : u.Perm m) : ∀ {l : List α}, u = l.map f → ∃ l', m = l'.map f ∧ l.Perm l' := by
  induction h with
  | nil =>
    intro l e
    exact ⟨[], rfl, by rw [List.map_eq_nil_iff.mp e.symm]⟩
  | cons x _ ih =>
    intro l e
    cases l with
    | nil => cases e
    | cons a l =>
      rw [List.map_cons] at e
      obtain ⟨e1, e2⟩ := List.cons.inj e
      obtain ⟨l', h1, h2⟩ := ih e2
      exact ⟨a :: l', by rw [List.map_cons, e1, h1], h2.cons a⟩
  | swap x y l0 =>
    intro l e
    match l, e with
    | a :: b :: l, e =>
      rw [List.map_cons, List.map_cons] at e
      obtain ⟨e1, e2⟩ := List.cons.inj e
      obtain ⟨e3, e4⟩ := List.cons.inj e2
      exact ⟨b :: a :: l, by rw [List.map_cons, List.map_cons, e1, e3, e4], List.Perm.swap b a l⟩
    | [a], e => simp at e
    | [], e => simp at e
  | trans _ _ ih1 ih2 =>
    intro l e
    obtain ⟨l1, h1, h2⟩ := ih1 e
    obtain ⟨l2, h3, h4⟩ := ih2 h1
    exact ⟨l2, h3, h2.trans h4⟩
def kH (H : Hp) (x : V) : Int × Str := match x with
  | .ref t => match H t with
    | some (.tup (.int i :: .str z :: _)) => (i, z)
    | _ => (0, Str.empty)
  | _ => (0, Str.empty)
/-- a new row at x -/
def RowAt (K : PySem.W.Frag) (H : Hp) (x : V) (r : RowM) : Prop := ∃ t v, x = .ref t ∧ H t = some (.tup [.int r.1, .str r.2.1, v]) ∧ Dp K H v (shareD r.2.2)
theorem RowAt.fx {K : PySem.W.Frag} {M : List Addr} {H H' : Hp} {x : V} {r : RowM} (h : RowAt K H x r) (f : Fx M H H') : RowAt K H' x r := let ⟨t, v, h1, h2, h3⟩ := h; ⟨t, v, h1, f.t _ _ h2, h3.mv f rfl⟩
theorem RowAt.key {K : PySem.W.Frag} {H : Hp} {x : V} {r : RowM} (h : RowAt K H x r) : kH H x = (r.1, r.2.1) := by
  obtain ⟨t, v, rfl, h2, _⟩ := h
  unfold kH
  simp only [h2]
theorem RowAt.dp {K : PySem.W.Frag} {H : Hp} {x : V} {r : RowM} (h : RowAt K H x r) : Dp K H x (rowMD r) := by
  obtain ⟨t, v, rfl, h2, h3⟩ := h
  exact .tup (SqT.of h2) (.cons (.int _) (.cons (.str _) (.cons h3 .nil)))
def RowsAt (K : PySem.W.Frag) (H : Hp) : List V → List RowM → Prop
  | [], [] => True
  | x :: xs, r :: rs => RowAt K H x r ∧ RowsAt K H xs rs
  | _, _ => False
theorem RowsAt.fx {K : PySem.W.Frag} {M : List Addr} {H H' : Hp} (f : Fx M H H') : ∀ {xs : List V} {rs : List RowM}, RowsAt K H xs rs → RowsAt K H' xs rs
  | [], [], _ => trivial
  | _ :: _, _ :: _, ⟨h1, h2⟩ => ⟨h1.fx f, RowsAt.fx f h2⟩
  | [], _ :: _, h => h.elim
  | _ :: _, [], h => h.elim
theorem RowsAt.snoc {K : PySem.W.Frag} {H : Hp} {x : V} {r : RowM} (h2 : RowAt K H x r) : ∀ {xs : List V} {rs : List RowM}, RowsAt K H xs rs → RowsAt K H (xs ++ [x]) (rs ++ [r])
  | [], [], _ => ⟨h2, trivial⟩
  | _ :: _, _ :: _, ⟨h1, h3⟩ => ⟨h1, RowsAt.snoc h2 h3⟩
  | [], _ :: _, h => h.elim
  | _ :: _, [], h => h.elim
theorem RowsAt.len {K : PySem.W.Frag} {H : Hp} : ∀ {xs : List V} {rs : List RowM}, RowsAt K H xs rs → xs.length = rs.length
  | [], [], _ => rfl
  | _ :: _, _ :: _, ⟨_, h3⟩ => congrArg Nat.succ (RowsAt.len h3)
  | [], _ :: _, h => h.elim
  | _ :: _, [], h => h.elim
theorem RowsAt.zip {K : PySem.W.Frag} {H : Hp} : ∀ {xs : List V} {rs : List RowM}, RowsAt K H xs rs → ∃ P : List (V × RowM), xs = P.map (·.1) ∧ rs = P.map (·.2) ∧ ∀ p ∈ P, RowAt K H p.1 p.2
  | [], [], _ => ⟨[], rfl, rfl, fun _ m => nomatch m⟩
  | x :: _, r :: _, ⟨h1, h3⟩ => by
    obtain ⟨P, e1, e2, e3⟩ := RowsAt.zip h3
    exact ⟨(x, r) :: P, by rw [e1]; rfl, by rw [e2]; rfl, fun p m => (List.mem_cons.mp m).elim (fun e => by rw [e]; exact h1) (e3 p)⟩
  | [], _ :: _, h => h.elim
  | _ :: _, [], h => h.elim
theorem DpAll.ofP {K : PySem.W.Frag} {H : Hp} : ∀ {P : List (V × RowM)}, (∀ p ∈ P, RowAt K H p.1 p.2) → DpAll K H (P.map (·.1)) ((P.map (·.2)).map rowMD)
  | [], _ => .nil
  | p :: P, h => .cons (h p List.mem_cons_self).dp (DpAll.ofP fun q m => h q (List.mem_cons_of_mem _ m))
theorem leRow_trans (x y z : RowM) (h1 : leRow x y = true) (h2 : leRow y z = true) : leRow x z = true := leK_trans _ _ _ h1 h2
theorem leRow_total (x y : RowM) : (leRow x y || leRow y x) = true := leK_total _ _
theorem names_inj {rs : List RowM} (h : (rs.map (·.2.1)).Nodup) : ∀ x ∈ rs, ∀ y ∈ rs, x.2.1 = y.2.1 → x = y := by
  intro x hx y hy e
  obtain ⟨i, hi, ei⟩ := List.mem_iff_getElem.mp hx
  obtain ⟨j, hj, ej⟩ := List.mem_iff_getElem.mp hy
  have hp := List.pairwise_iff_getElem.mp (List.nodup_iff_pairwise_ne.mp h)
  rcases Nat.lt_trichotomy i j with l | l | l
  · refine absurd ?_ (hp i j (by rw [List.length_map]; exact hi) (by rw [List.length_map]; exact hj) l)
    rw [List.getElem_map, List.getElem_map, ei, ej, e]
  · subst l
    exact ei.symm.trans ej
  · refine absurd ?_ (hp j i (by rw [List.length_map]; exact hj) (by rw [List.length_map]; exact hi) l)
    rw [List.getElem_map, List.getElem_map, ei, ej, e]
/-- sorted of new rows, their names unlike -/
theorem rd_sortR {K : PySem.W.Frag} {H : Hp} {Q : VK} {a : Addr} {xs : List V} {rs : List RowM} (ha : SqL K H a xs) (hr : RowsAt K H xs rs) (hn : (rs.map (·.2.1)).Nodup) (q : ∀ H' p, Fx [] H H' → NewL K H H' p ((rs.mergeSort leRow).map rowMD) → Q (.ref p) H') : rSortedR K [.ref a] H Q := by
  obtain ⟨P, e1, e2, e3⟩ := hr.zip
  refine ⟨a, xs, kH H, rfl, ha, fun x hx => ?_, fun x hx y hy e => ?_, fun ys p hp hs hpn => ?_⟩
  · rw [e1] at hx
    obtain ⟨pr, hpr, rfl⟩ := List.mem_map.mp hx
    have h1 := e3 pr hpr
    obtain ⟨t, v, k1, k2, _⟩ := h1
    refine ⟨t, [v], k1, ?_⟩
    rw [(e3 pr hpr).key]
    exact k2
  · rw [e1] at hx hy
    obtain ⟨p1, hp1, rfl⟩ := List.mem_map.mp hx
    obtain ⟨p2, hp2, rfl⟩ := List.mem_map.mp hy
    rw [(e3 p1 hp1).key, (e3 p2 hp2).key] at e
    have e4 : p1.2.1 = p2.2.1 ∧ p1.2.2.1 = p2.2.2.1 := Prod.mk.inj e
    have hn2 : (P.map fun z => z.2.2.1).Nodup := by
      rw [e2, List.map_map] at hn
      exact hn
    obtain ⟨i, hi, ei⟩ := List.mem_iff_getElem.mp hp1
    obtain ⟨j, hj, ej⟩ := List.mem_iff_getElem.mp hp2
    have hpw := List.pairwise_iff_getElem.mp (List.nodup_iff_pairwise_ne.mp hn2)
    rcases Nat.lt_trichotomy i j with l | l | l
    · refine absurd ?_ (hpw i j (by rw [List.length_map]; exact hi) (by rw [List.length_map]; exact hj) l)
      rw [List.getElem_map, List.getElem_map, ei, ej, e4.2]
    · subst l
      rw [ei.symm.trans ej]
    · refine absurd ?_ (hpw j i (by rw [List.length_map]; exact hj) (by rw [List.length_map]; exact hi) l)
      rw [List.getElem_map, List.getElem_map, ei, ej, e4.2]
  · obtain ⟨P', e4, e5⟩ := perm_map_inv (f := fun z : V × RowM => z.1) (u := xs) (m := ys) hp.symm e1
    have e6 : ∀ p ∈ P', RowAt K H p.1 p.2 := fun p m => e3 p (e5.mem_iff.mpr m)
    have e7 : (P'.map (·.2)).Perm rs := by
      rw [e2]
      exact (e5.map _).symm
    have e8 : (P'.map (·.2)).Pairwise fun x y => leRow x y = true := by
      rw [e4] at hs
      have h1 := List.pairwise_map.mp hs
      refine List.pairwise_map.mpr ?_
      refine List.Pairwise.imp_of_mem (fun {x y} hx hy h => ?_) h1
      rw [(e6 x hx).key, (e6 y hy).key] at h
      exact h
    have e9 : P'.map (·.2) = rs.mergeSort leRow := by
      refine perm_uniqM (R := fun x y => leRow x y = true) (fun x hx y hy h1 h2 => ?_) e8 (List.pairwise_mergeSort leRow_trans leRow_total rs) (e7.trans (List.mergeSort_perm _ _).symm)
      have e10 := leK_anti _ _ h1 h2
      exact names_inj hn x (e7.mem_iff.mp hx) y (e7.mem_iff.mp hy) (Prod.mk.inj e10).2
    refine q _ p (Fx.new hpn) ⟨hpn, ys, upd_same, ?_⟩
    have k1 := DpAll.ofP e6
    rw [← e4, e9] at k1
    exact k1.ext (Fx.new hpn)
theorem raw_names (h : HallM) : (rowsRaw h).map (·.2.1) = rankedL h := by
  unfold rowsRaw
  rw [List.map_map]
  exact means_names h
theorem sc_Hall_ranks : FnScope ["self", "means", "ranks", "name"] ["self"] (defScope s_Hall_ranks) := ⟨rfl, rfl, rfl, by decide +kernel, rfl, by decide +kernel, by decide +kernel⟩
def spRanks (K : PySem.W.Frag) : Sp := fun vs H Q _ => ∃ (A : HA) (d : Int) (h : HallM), vs = [.ref A.a] ∧ HallAt K H A d h ∧ h.ok ∧
  ∀ H' p, Fx [] H H' → NewL K H H' p ((ranksL h).map rowMD) → Q (.ref p) H'
theorem means_val {K : PySem.W.Frag} {H : Hp} {h : HallM} {kvs : List (Key × V)} (hok : h.ok) (hk : KvD K H kvs (meansD h)) {i : Nat} {n : Str} {m : Int × Int} (e : (meansL h)[i]? = some (n, m)) : kvs[i]? = some (.inr n, (valV kvs (.inr n)).getD .non) ∧ (∃ v, valV kvs (.inr n) = some v ∧ Dp K H v (shareD m)) ∧ (tableL h).lookup n = some (rankOf h m) := by
  have hlk : ∀ {β : Type} (f : Str × Int × Int → β) (l : List (Str × Int × Int)) (i : Nat), (l.map (·.1)).Nodup → l[i]? = some (n, m) → (l.map fun q => (q.1, f q)).lookup n = some (f (n, m)) := by
    intro β f l
    induction l with
    | nil => intro i _ e; simp at e
    | cons q l ih =>
      intro i hn e
      rw [List.map_cons] at hn ⊢
      obtain ⟨n1, n2⟩ := List.nodup_cons.mp hn
      cases i with
      | zero =>
        have e1 : q = (n, m) := by simpa using e
        rw [e1, List.lookup_cons, beq_self_eq_true]
      | succ i =>
        have e1 : l[i]? = some (n, m) := by simpa using e
        have hne : (n == q.1) = false := by
          rw [beq_eq_false_iff_ne]
          intro z
          exact n1 (z ▸ List.mem_map.mpr ⟨_, List.mem_of_getElem? e1, rfl⟩)
        rw [List.lookup_cons, hne]
        exact ih i n2 e1
  have hn := ranked_nodup hok
  rw [← means_names] at hn
  have e1 : (meansD h).lookup n = some (shareD m) := hlk (fun q => shareD q.2) (meansL h) i hn e
  have e2 : (tableL h).lookup n = some (rankOf h m) := hlk (fun q => rankOf h q.2) (meansL h) i hn e
  have eg : (meansD h)[i]? = some (n, shareD m) := by
    unfold meansD
    rw [List.getElem?_map, e]
    rfl
  obtain ⟨v1, k1, k2⟩ := hk.get eg
  rcases hk.val n with ⟨h1, h2⟩ | ⟨d, v, h1, h2, h3⟩
  · rw [e1] at h1
    cases h1
  · rw [e1] at h1
    cases h1
    have hv : v1 = v := by
      have hnk : (kvs.map (·.1)).Nodup := by
        rw [hk.k]
        have e3 : ((meansD h).map fun q => (Sum.inr q.1 : Key)) = (rankedL h).map Sum.inr := by
          rw [← means_names]
          unfold meansD
          rw [List.map_map, List.map_map]
          rfl
        rw [e3]
        refine List.pairwise_map.mpr ((ranked_nodup hok).imp fun {a b} z e => z (Sum.inr.inj e))
      have : ∀ (l : List (Key × V)) (i : Nat), (l.map (·.1)).Nodup → l[i]? = some ((.inr n : Key), v1) → valV l (.inr n) = some v1 := by
        intro l
        induction l with
        | nil => intro i _ e; simp at e
        | cons q l ih =>
          intro i hn e
          rw [List.map_cons] at hn
          obtain ⟨n1, n2⟩ := List.nodup_cons.mp hn
          cases i with
          | zero =>
            have e1 : q = ((.inr n : Key), v1) := by simpa using e
            rw [e1]
            exact valV_pos rfl
          | succ i =>
            have e1 : l[i]? = some ((.inr n : Key), v1) := by simpa using e
            rw [valV_neg (fun z => n1 (z ▸ List.mem_map.mpr ⟨_, List.mem_of_getElem? e1, rfl⟩))]
            exact ih i n2 e1
      have h4 := this kvs i hnk k1
      rw [h2] at h4
      exact (Option.some.inj h4).symm
    subst hv
    exact ⟨by rw [k1, h2]; rfl, ⟨v1, h2, h3⟩, e2⟩
theorem ok_Hall_ranks {P : Program} {w : World} {K : PySem.W.Frag} {mg : Str → Option Value} {base : Heap} (T : Tx K mg) : MDef P w K mg base CX0 6 "Hall" "ranks" ["self"] (spRanks K) := by
  obtain ⟨fd, F⟩ := T.d_Hall_ranks
  have M_Hall_means := ok_Hall_means (P := P) (w := w) (base := base) T
  have M_Hall_table := ok_Hall_table (P := P) (w := w) (base := base) T
  refine ⟨_, fd, F.ok sc_Hall_ranks (fun vs H Q E h => ?_) (fun cdv A outer s H vs Q E hr h => ?_), F.bindsN fun _ _ _ _ _ _ us hl => match us, hl with | [_], _ => rfl, T.k_Hall, T.m_Hall_ranks⟩
  · obtain ⟨A, d, h, rfl, _⟩ := h
    rfl
  · obtain ⟨A, d, h, rfl, ha, hok, q⟩ := h
    refine ⟨_, PSs.nox (pss_cons (ps_asg (pe_tup (pa_cons (pe_mdef0 M_Hall_means (hr.mono (by omega)) pass0 (pv 0)) (pa_cons (pe_mdef0 M_Hall_table (hr.mono (by omega)) pass0 (pv 0)) pa_nil))) (pg_tup rfl (pgs_cons (pg_name (i := 1) sc_Hall_ranks.nd rfl (by first | exact Or.inl rfl | exact Or.inr rfl)) (pgs_cons (pg_name (i := 2) sc_Hall_ranks.nd rfl (by first | exact Or.inl rfl | exact Or.inr rfl)) pgs_nil))))
        (pss_one (ps_ret (pe_callB cr_sortedR (by rfl) T.f_sorted (by decide +kernel) (pa_cons (pe_lock (pe_lc (own := [("name", 3)]) (g := (gName 3)) (tt := tYes) rfl sc_Hall_ranks.nd (pi_keys (pv 1)) (blkOk_by (own := [("name", 3)]) (N := ["self", "means", "ranks", "name"]) (sc := defScope s_Hall_ranks) (by decide +kernel)) (fun _ _ _ _ _ => pg_name (i := 3) sc_Hall_ranks.nd rfl (by first | exact Or.inl rfl | exact Or.inr rfl)) (fun _ _ _ _ _ => pts_nil) (fun _ _ _ _ _ => (pe_tup (pa_cons (pe_dget (hu_of hr) (pv 2) (pv 3) (fun _ _ => rfl)) (pa_cons (pv 3) (pa_cons (pe_dget (hu_of hr) (pv 1) (pv 3) (fun _ _ => rfl)) pa_nil))))))) pa_nil))))), ?_⟩
    refine ⟨_, rfl, A.a, A.dx, _, rfl, ha.i.i, rfl, A, d, h, rfl, ha, hok, fun H1 p mk f1 hp hp1 hmk => ?_⟩
    have ha1 := ha.up f1
    refine ⟨_, rfl, A.a, A.dx, _, rfl, ha1.i.i, rfl, A, d, h, rfl, ha1, hok, fun H2 t tk f2 ht ht2 htk => ?_⟩
    have hp2 := f2.to hp1 fun z => nomatch z
    have hmk2 := hmk.mv f2 (means_nol _)
    refine ⟨by show 2 ≤ sizeLine; decide, fun p0 hp0 => ⟨p0, _, rfl, SqT.of upd_same, rfl, _, _, rfl, _, _, rfl, rfl, ?_⟩⟩
    have f02 : Fx [] H2 (upd H2 p0 (.tup [.ref p, .ref t])) := Fx.new hp0
    replace f2 := f2.trans f02
    replace hp2 := f02.to hp2 fun z => nomatch z
    replace ht2 := f02.to ht2 fun z => nomatch z
    replace hmk2 := hmk2.mv f02 (means_nol _)
    generalize upd H2 p0 (.tup [.ref p, .ref t]) = H2 at f2 hp2 ht2 hmk2
    clear f02 hp0
    have f12 := f1.trans f2
    have hml : (meansL h).length ≤ 6 := by unfold meansL; rw [List.length_map]; exact ranked_len hok
    have hkl : mk.length = (meansL h).length := by rw [hmk.len]; unfold meansD; rw [List.length_map]
    have npt : t ≠ p := fun z => by rw [z] at ht; rw [hp1] at ht; cases ht
    refine ⟨p, _, hp2, trivial, fun od => ?_⟩
    have fl : Fx [p] H2 (upd H2 p (.frz od (.dK mk))) := Fx.set List.mem_cons_self (Chg.dK hp2)
    have hlk : upd H2 p (.frz od (.dK mk)) p = some (.frz od (.dK mk)) := upd_same
    have ht3 : upd H2 p (.frz od (.dK mk)) t = some (.dK tk) := by rw [upd_ne npt]; exact ht2
    have hk3 := hmk2.mv fl (means_nol _)
    have un : ∀ H5, Fx [] (upd H2 p (.frz od (.dK mk))) H5 → Fx [] H2 (upd H5 p (.dK mk)) := fun H5 f5 => Fx.unlock hp2 (Chg.dK hp2) f5
    generalize upd H2 p (.frz od (.dK mk)) = Hl at fl hlk ht3 hk3 un
    refine ⟨_, rfl, p, od, rfl, .inl ⟨mk, hlk, fun D hD => lc_rel walk_keys (fun i acc H3 => Fx [] Hl H3 ∧ RowsAt K H3 acc ((rowsRaw h).take i)) ⟨Fx.new hD, trivial⟩ (fun i acc H3 r => r.1.z _ _ _ hlk) (fun i acc x H3 H4 hi hl hDa r y => ?_) (fun acc H3 hl hDa r => ?_)⟩⟩
    · obtain ⟨rfl, kk, vv, hkv, rfl⟩ := y
      obtain ⟨f, hr4⟩ := r
      rw [hkl] at hi
      obtain ⟨n, m, hnm⟩ : ∃ n m, (meansL h)[i]? = some (n, m) := ⟨_, _, List.getElem?_eq_getElem hi⟩
      obtain ⟨g1, ⟨v, g2, g3⟩, g4⟩ := means_val hok hk3 hnm
      rw [hkv] at g1
      cases g1
      have ht4 := f.to ht3 fun z => nomatch z
      have et : valV tk (.inr n) = some (.int (rankOf h m)) := by
        have e := table_get htk n
        rw [g4] at e
        rcases htk.val n with ⟨h1, h2⟩ | ⟨d, v, h1, h2, h3⟩
        · rw [h2] at e
          cases e
        · rw [h2] at e ⊢
          exact congrArg some e
      refine ⟨rfl, _, rfl, _, rfl, t, _, rfl, by rw [← et]; exact DGet.k (k := .inr n) ht4, _, rfl, _, rfl, _, rfl, p, v, rfl, .inl ⟨mk, .inr n, .inr ⟨od, f.z _ _ _ hlk⟩, rfl, g2.symm⟩, by show 3 ≤ sizeLine; decide, fun u hu => ?_⟩
      have f6 : Fx [] H4 (upd H4 u (.tup [.int (rankOf h m), kV (Sum.inr n), v])) := Fx.new hu
      have hu6 : upd H4 u (.tup [.int (rankOf h m), kV (Sum.inr n), v]) u = some (.tup [.int (rankOf h m), .str n, v]) := upd_same
      have hDa6 := f6.to hDa fun z => nomatch z
      generalize upd H4 u (.tup [.int (rankOf h m), kV (Sum.inr n), v]) = H6 at f6 hu6 hDa6
      refine Put.ok hl (by omega) hDa6 ⟨(f.trans f6).loc hD (Chg.lst hDa6), ?_⟩
      have f7 : Fx [D] H6 (upd H6 D (.lst (acc ++ [.ref u]))) := Fx.set List.mem_cons_self (Chg.lst hDa6)
      have et : (rowsRaw h).take (i + 1) = (rowsRaw h).take i ++ [(rankOf h m, n, m)] := by
        rw [List.take_add_one]
        unfold rowsRaw
        rw [List.getElem?_map, hnm]
        rfl
      rw [et]
      refine ((hr4.fx f6).snoc ?_).fx f7
      exact ⟨u, v, rfl, hu6, (g3.mv f rfl).ext f6⟩
    · obtain ⟨f, hr3⟩ := r
      refine ⟨f.z _ _ _ hlk, ?_⟩
      have f3 := un _ f
      have nDp : D ≠ p := fun z => by rw [z] at hD; rw [hlk] at hD; cases hD
      have hrl : (rowsRaw h).length = (meansL h).length := by unfold rowsRaw; rw [List.length_map]
      rw [hkl, ← hrl, List.take_length] at hr3
      have hr4 : RowsAt K (upd H3 p (.dK mk)) acc (rowsRaw h) := by
        have tup_up : ∀ {xs : List V} {rs : List RowM}, RowsAt K H3 xs rs → RowsAt K (upd H3 p (.dK mk)) xs rs := by
          intro xs
          induction xs with
          | nil => intro rs h; cases rs with
            | nil => trivial
            | cons _ _ => exact h.elim
          | cons x xs ih => intro rs h; cases rs with
            | nil => exact h.elim
            | cons r rs =>
              refine ⟨?_, ih h.2⟩
              obtain ⟨t', v', k1, k2, k3⟩ := h.1
              have hp3 := f.z _ _ _ hlk
              refine ⟨t', v', k1, by rw [upd_ne (fun z => by rw [z, hp3] at k2; cases k2)]; exact k2, ?_⟩
              obtain ⟨tt, rfl, htt⟩ := dp_share k3
              refine .tup ?_ (.cons (.int _) (.cons (.int _) .nil))
              rcases htt with (z | ⟨o, z⟩) | z
              · exact .inl (.inl (by rw [upd_ne (fun e => by rw [e, hp3] at z; cases z)]; exact z))
              · exact .inl (.inr ⟨o, by rw [upd_ne (fun e => by rw [e, hp3] at z; cases z)]; exact z⟩)
              · exact .inr z
        exact tup_up hr3
      refine rd_sortR (SqL.of (by rw [upd_ne nDp]; exact hDa)) hr4 (by rw [raw_names]; exact ranked_nodup hok) fun H5 p5 f5 hp5 => ?_
      refine q H5 p5 ((f12.trans f3).trans f5) ⟨(f12.trans f3).free hp5.1, hp5.2⟩
end Mh
/-! MhHb -/
namespace Mh
open PySem PySem.Spec PyProof.Rows L2
/-! ### a hall changed at one of its places -/
def HA.tl (A : HA) : List Addr := A.ra.map (·.1) ++ (A.ra.map (·.2) ++ A.sa)
structure HA.Nd (A : HA) : Prop where
  a : A.a ≠ A.dx ∧ A.a ≠ A.g ∧ A.a ≠ A.p ∧ A.a ≠ A.r ∧ A.a ≠ A.s ∧ A.a ≠ A.w ∧ A.a ∉ A.tl
  dx : A.dx ≠ A.g ∧ A.dx ≠ A.p ∧ A.dx ≠ A.r ∧ A.dx ≠ A.s ∧ A.dx ≠ A.w ∧ A.dx ∉ A.tl
  g : A.g ≠ A.p ∧ A.g ≠ A.r ∧ A.g ≠ A.s ∧ A.g ≠ A.w ∧ A.g ∉ A.tl
  p : A.p ≠ A.r ∧ A.p ≠ A.s ∧ A.p ≠ A.w ∧ A.p ∉ A.tl
  r : A.r ≠ A.s ∧ A.r ≠ A.w ∧ A.r ∉ A.tl
  s : A.s ≠ A.w ∧ A.s ∉ A.tl
  w : A.w ∉ A.tl
  t : A.tl.Nodup
theorem HA.nd_iff {A : HA} : A.foot.Nodup ↔ A.Nd := by
  unfold HA.foot
  rw [show A.ra.map (·.1) ++ (A.ra.map (·.2) ++ A.sa) = A.tl from rfl]
  simp only [List.nodup_cons, List.mem_cons, not_or]
  exact ⟨fun ⟨h1, h2, h3, h4, h5, h6, h7, h8⟩ => ⟨h1, h2, h3, h4, h5, h6, h7, h8⟩, fun h => ⟨h.a, h.dx, h.g, h.p, h.r, h.s, h.w, h.t⟩⟩
theorem n1 {x y : Addr} (h : x ≠ y) : x ∉ [y] := fun m => h (List.mem_singleton.mp m)
theorem tl1 {A : HA} {q : Addr × Addr} (h : q ∈ A.ra) : q.1 ∈ A.tl := List.mem_append_left _ (List.mem_map.mpr ⟨q, h, rfl⟩)
theorem tl2 {A : HA} {q : Addr × Addr} (h : q ∈ A.ra) : q.2 ∈ A.tl := List.mem_append_right _ (List.mem_append_left _ (List.mem_map.mpr ⟨q, h, rfl⟩))
theorem tls {A : HA} {q : Addr} (h : q ∈ A.sa) : q ∈ A.tl := List.mem_append_right _ (List.mem_append_right _ h)
theorem nt {x y : Addr} {l : List Addr} (hx : x ∈ l) (hy : y ∉ l) : x ≠ y := fun e => hy (e ▸ hx)
structure Led (K : PySem.W.Frag) (H H' : Hp) (A A' : HA) (n : Int) (h : HallM) : Prop where
  at' : HallAt K H' A' n h
  a : A'.a = A.a
  f : Fx A.foot H H'
  new : ∀ x ∈ A'.foot, x ∈ A.foot ∨ H x = none
  k : ∀ q ∈ A.sa, q ∈ A'.sa ∧ ∀ u, H q = some u → H' q = some u
theorem Led.trans {K : PySem.W.Frag} {H H1 H2 : Hp} {A A1 A2 : HA} {n m : Int} {h1 h2 : HallM} (x : Led K H H1 A A1 n h1) (y : Led K H1 H2 A1 A2 m h2) : Led K H H2 A A2 m h2 :=
  ⟨y.at', y.a.trans x.a, x.f.cut y.f x.new, fun z m => by
    rcases y.new z m with e | e
    · exact x.new z e
    · exact .inr (x.f.free e), fun q m => ⟨(y.k q (x.k q m).1).1, fun u e => (y.k q (x.k q m).1).2 u ((x.k q m).2 u e)⟩⟩
theorem Led.up {K : PySem.W.Frag} {H H1 H2 : Hp} {A A1 : HA} {n : Int} {h1 : HallM} (x : Led K H H1 A A1 n h1) (f : Fx [] H1 H2) : Led K H H2 A A1 n h1 :=
  ⟨x.at'.up f, x.a, x.f.trans (f.mono fun _ m => nomatch m), x.new, fun q m => ⟨(x.k q m).1, fun u e => f.to ((x.k q m).2 u e) fun z => nomatch z⟩⟩
theorem Led.pre {K : PySem.W.Frag} {H H1 H2 : Hp} {A A1 : HA} {n : Int} {h1 : HallM} (f : Fx [] H H1) (x : Led K H1 H2 A A1 n h1) : Led K H H2 A A1 n h1 :=
  ⟨x.at', x.a, (f.mono fun _ m => nomatch m).trans x.f, fun z m => (x.new z m).imp id fun e => f.free e, fun q m => ⟨(x.k q m).1, fun u e => (x.k q m).2 u (f.to e fun z => nomatch z)⟩⟩
section
variable {K : PySem.W.Frag} {H H' : Hp} {A : HA} {n : Int} {h : HallM}
theorem Led.refl (x : HallAt K H A n h) : Led K H H A A n h := ⟨x, rfl, .refl, fun _ m => .inl m, fun _ m => ⟨m, fun _ e => e⟩⟩
theorem HallAt.setG (x : HallAt K H A n h) (f : Fx [A.g] H H') {gs : List (Str × Tsk)} (e : ∃ kvs, H' A.g = some (.dK kvs) ∧ KvD K H' kvs (gs.map fun q => (q.1, taskD q.2))) : Led K H H' A A n { h with goals := gs } := by
  have nd := HA.nd_iff.mp x.nd
  obtain ⟨pk, p1, p2⟩ := x.p
  obtain ⟨vs, w1, w2⟩ := x.w
  exact ⟨⟨x.i.fx f (n1 nd.a.2.1) (n1 nd.dx.1), x.r.fx f (n1 nd.g.2.1.symm) fun q hq => ⟨n1 (nt (tl1 hq) nd.g.2.2.2.2), n1 (nt (tl2 hq) nd.g.2.2.2.2)⟩, e, ⟨pk, f.to p1 (n1 nd.g.1.symm), p2.mv f (machs_nol _)⟩,
    x.s.fx f (n1 nd.g.2.2.1.symm) fun q hq => n1 (nt (tls hq) nd.g.2.2.2.2), ⟨vs, f.to w1 (n1 nd.g.2.2.2.1.symm), w2.mv f (deeds_nol _)⟩, x.nd⟩, rfl, f.mono fun z m => by rw [List.mem_singleton.mp m]; exact foot_g, fun _ m => .inl m, fun q m => ⟨m, fun u e => f.to e (n1 (nt (tls m) nd.g.2.2.2.2))⟩⟩
theorem HallAt.setP (x : HallAt K H A n h) (f : Fx [A.p] H H') {ps : List (Str × Mch)} (e : ∃ kvs, H' A.p = some (.dK kvs) ∧ KvD K H' kvs (ps.map fun q => (q.1, machD q.2))) : Led K H H' A A n { h with players := ps } := by
  have nd := HA.nd_iff.mp x.nd
  obtain ⟨gk, g1, g2⟩ := x.g
  obtain ⟨vs, w1, w2⟩ := x.w
  exact ⟨⟨x.i.fx f (n1 nd.a.2.2.1) (n1 nd.dx.2.1), x.r.fx f (n1 nd.p.1.symm) fun q hq => ⟨n1 (nt (tl1 hq) nd.p.2.2.2), n1 (nt (tl2 hq) nd.p.2.2.2)⟩, ⟨gk, f.to g1 (n1 nd.g.1), g2.mv f (tasks_nol _)⟩, e,
    x.s.fx f (n1 nd.p.2.1.symm) fun q hq => n1 (nt (tls hq) nd.p.2.2.2), ⟨vs, f.to w1 (n1 nd.p.2.2.1.symm), w2.mv f (deeds_nol _)⟩, x.nd⟩, rfl, f.mono fun z m => by rw [List.mem_singleton.mp m]; exact foot_p, fun _ m => .inl m, fun q m => ⟨m, fun u e => f.to e (n1 (nt (tls m) nd.p.2.2.2))⟩⟩
theorem HallAt.setW (x : HallAt K H A n h) (f : Fx [A.w] H H') {ws : List Deed} (e : ∃ vs, H' A.w = some (.lst vs) ∧ DpAll K H' vs (ws.map Deed.d)) : Led K H H' A A n { h with rows := ws } := by
  have nd := HA.nd_iff.mp x.nd
  obtain ⟨gk, g1, g2⟩ := x.g
  obtain ⟨pk, p1, p2⟩ := x.p
  exact ⟨⟨x.i.fx f (n1 nd.a.2.2.2.2.2.1) (n1 nd.dx.2.2.2.2.1), x.r.fx f (n1 nd.r.2.1) fun q hq => ⟨n1 (nt (tl1 hq) nd.w), n1 (nt (tl2 hq) nd.w)⟩, ⟨gk, f.to g1 (n1 nd.g.2.2.2.1), g2.mv f (tasks_nol _)⟩, ⟨pk, f.to p1 (n1 nd.p.2.2.1), p2.mv f (machs_nol _)⟩,
    x.s.fx f (n1 nd.s.1) fun q hq => n1 (nt (tls hq) nd.w), e, x.nd⟩, rfl, f.mono fun z m => by rw [List.mem_singleton.mp m]; exact foot_w, fun _ m => .inl m, fun q m => ⟨m, fun u e => f.to e (n1 (nt (tls m) nd.w))⟩⟩
/-- runs changed where they stand -/
theorem HallAt.setR (x : HallAt K H A n h) {M : List Addr} (f : Fx M H H') (hM : ∀ z ∈ M, z ∈ A.ra.map (·.1)) {rs : List RunM} (e : RunsAt K H' A.r A.ra rs) : Led K H H' A A n { h with runs := rs } := by
  have nd := HA.nd_iff.mp x.nd
  obtain ⟨gk, g1, g2⟩ := x.g
  obtain ⟨pk, p1, p2⟩ := x.p
  obtain ⟨vs, w1, w2⟩ := x.w
  have hT : ∀ z ∈ M, z ∈ A.tl := fun z m => List.mem_append_left _ (hM z m)
  have nn : ∀ {y : Addr}, y ∉ A.tl → y ∉ M := fun hy m => hy (hT _ m)
  have ns : ∀ q ∈ A.sa, q ∉ M := fun q hq m => by
    have h1 := hM q m
    have h2 := List.nodup_append.mp nd.t
    exact h2.2.2 q h1 q (List.mem_append_right _ hq) rfl
  exact ⟨⟨x.i.fx f (nn nd.a.2.2.2.2.2.2) (nn nd.dx.2.2.2.2.2), e, ⟨gk, f.to g1 (nn nd.g.2.2.2.2), g2.mv f (tasks_nol _)⟩, ⟨pk, f.to p1 (nn nd.p.2.2.2), p2.mv f (machs_nol _)⟩,
    x.s.fx f (nn nd.s.2) ns, ⟨vs, f.to w1 (nn nd.w), w2.mv f (deeds_nol _)⟩, x.nd⟩, rfl, f.mono fun z m => foot_tl (hT z m), fun _ m => .inl m, fun q m => ⟨m, fun u e => f.to e (ns q m)⟩⟩
theorem HallAt.there (x : HallAt K H A n h) : ∀ z ∈ A.foot, H z ≠ none := by
  obtain ⟨gk, g1, g2⟩ := x.g
  obtain ⟨pk, p1, p2⟩ := x.p
  obtain ⟨vs, w1, w2⟩ := x.w
  intro z m e
  unfold HA.foot at m
  simp only [List.mem_cons, List.mem_append, List.mem_map] at m
  rcases m with rfl | rfl | rfl | rfl | rfl | rfl | rfl | ⟨q, hq, rfl⟩ | ⟨q, hq, rfl⟩ | hz
  · rw [x.i.i] at e; cases e
  · rw [x.i.o] at e; cases e
  · rw [g1] at e; cases e
  · rw [p1] at e; cases e
  · rw [x.r.l] at e; cases e
  · rw [x.s.l] at e; cases e
  · rw [w1] at e; cases e
  · obtain ⟨k, hk, ek⟩ := List.getElem_of_mem hq
    have hk2 : k < h.runs.length := by rw [← x.r.n]; exact hk
    have := (x.r.i k q _ (by rw [List.getElem?_eq_getElem hk, ek]) (List.getElem?_eq_getElem hk2)).1
    rw [e] at this
    cases this
  · obtain ⟨k, hk, ek⟩ := List.getElem_of_mem hq
    have hk2 : k < h.runs.length := by rw [← x.r.n]; exact hk
    have := (x.r.i k q _ (by rw [List.getElem?_eq_getElem hk, ek]) (List.getElem?_eq_getElem hk2)).2
    rw [e] at this
    cases this
  · obtain ⟨k, hk, ek⟩ := List.getElem_of_mem hz
    have hk2 : k < h.sheets.length := by rw [← x.s.n]; exact hk
    obtain ⟨vs, h1, _⟩ := x.s.i k z _ (by rw [List.getElem?_eq_getElem hk, ek]) (List.getElem?_eq_getElem hk2)
    rw [e] at h1
    cases h1
/-- a run more -/
theorem HallAt.addR (x : HallAt K H A n h) (f : Fx [A.r] H H') {q dx : Addr} {m : RunM} (hq : H q = none) (hd : H dx = none) (hne : q ≠ dx) (e1 : H' A.r = some (.lst ((A.ra ++ [(q, dx)]).map fun z => V.ref z.1)))
    (e2 : H' q = some (.ins (He.ga K "Run") dx (runF m))) (e3 : H' dx = some (.own q)) : Led K H H' A { A with ra := A.ra ++ [(q, dx)] } n { h with runs := h.runs ++ [m] } := by
  have nd := HA.nd_iff.mp x.nd
  obtain ⟨gk, g1, g2⟩ := x.g
  obtain ⟨pk, p1, p2⟩ := x.p
  obtain ⟨vs, w1, w2⟩ := x.w
  have hs := x.there
  have nq : q ∉ A.foot := fun m => hs q m hq
  have ndx : dx ∉ A.foot := fun m => hs dx m hd
  have hmem : ∀ z, z ∈ ({ A with ra := A.ra ++ [(q, dx)] } : HA).foot → z ∈ A.foot ∨ z = q ∨ z = dx := fun z m => by
    unfold HA.foot at m ⊢
    simp only [List.mem_cons, List.mem_append, List.mem_map, List.mem_nil_iff, or_false] at m ⊢
    rcases m with m | m | m | m | m | m | m | ⟨y, hy, e⟩ | ⟨y, hy, e⟩ | m
    · exact .inl (.inl m)
    · exact .inl (.inr (.inl m))
    · exact .inl (.inr (.inr (.inl m)))
    · exact .inl (.inr (.inr (.inr (.inl m))))
    · exact .inl (.inr (.inr (.inr (.inr (.inl m)))))
    · exact .inl (.inr (.inr (.inr (.inr (.inr (.inl m))))))
    · exact .inl (.inr (.inr (.inr (.inr (.inr (.inr (.inl m)))))))
    · rcases hy with hy | hy
      · exact .inl (.inr (.inr (.inr (.inr (.inr (.inr (.inr (.inl ⟨y, hy, e⟩))))))))
      · rw [hy] at e; exact .inr (.inl e.symm)
    · rcases hy with hy | hy
      · exact .inl (.inr (.inr (.inr (.inr (.inr (.inr (.inr (.inr (.inl ⟨y, hy, e⟩)))))))))
      · rw [hy] at e; exact .inr (.inr e.symm)
    · exact .inl (.inr (.inr (.inr (.inr (.inr (.inr (.inr (.inr (.inr m)))))))))
  have hnd : ({ A with ra := A.ra ++ [(q, dx)] } : HA).foot.Nodup := by
    have hp : (({ A with ra := A.ra ++ [(q, dx)] } : HA).foot).Perm (q :: dx :: A.foot) := by
      have e : (({ A with ra := A.ra ++ [(q, dx)] } : HA).foot) = A.a :: A.dx :: A.g :: A.p :: A.r :: A.s :: A.w :: ((A.ra.map (·.1) ++ [q]) ++ ((A.ra.map (·.2) ++ [dx]) ++ A.sa)) := by
        unfold HA.foot
        simp only [List.map_append, List.map_cons, List.map_nil]
      rw [e]
      have p1 : ((A.ra.map (·.1) ++ [q]) ++ ((A.ra.map (·.2) ++ [dx]) ++ A.sa)).Perm (q :: dx :: (A.ra.map (·.1) ++ (A.ra.map (·.2) ++ A.sa))) := by
        have a1 : ((A.ra.map (·.1) ++ [q]) ++ ((A.ra.map (·.2) ++ [dx]) ++ A.sa)) = A.ra.map (·.1) ++ (q :: (A.ra.map (·.2) ++ (dx :: A.sa))) := by simp
        rw [a1]
        refine List.perm_middle.trans (List.Perm.cons q ?_)
        have a2 : A.ra.map (·.1) ++ (A.ra.map (·.2) ++ dx :: A.sa) = (A.ra.map (·.1) ++ A.ra.map (·.2)) ++ dx :: A.sa := by simp
        rw [a2]
        refine List.perm_middle.trans (List.Perm.cons dx ?_)
        rw [List.append_assoc]
      have p2 : ∀ (l : List Addr) {t u : List Addr}, t.Perm (q :: dx :: u) → (l ++ t).Perm (q :: dx :: (l ++ u)) := fun l t u hp => by
        refine (List.Perm.append_left l hp).trans ?_
        refine List.perm_middle.trans (List.Perm.cons q ?_)
        exact List.perm_middle
      exact p2 [A.a, A.dx, A.g, A.p, A.r, A.s, A.w] p1
    refine hp.nodup_iff.mpr (List.nodup_cons.mpr ⟨fun m => ?_, List.nodup_cons.mpr ⟨ndx, x.nd⟩⟩)
    rcases List.mem_cons.mp m with m | m
    · exact hne m
    · exact nq m
  have hi := x.i.fx f (n1 nd.a.2.2.2.1) (n1 nd.dx.2.2.1)
  refine ⟨⟨⟨hi.i, hi.o⟩, ⟨e1, by rw [List.length_append, List.length_append, x.r.n]; rfl, fun k z y h1 h2 => ?_⟩, ⟨gk, f.to g1 (n1 nd.g.2.1), g2.mv f (tasks_nol _)⟩, ⟨pk, f.to p1 (n1 nd.p.1), p2.mv f (machs_nol _)⟩,
    x.s.fx f (n1 nd.r.1.symm) fun q hq => n1 (nt (tls hq) nd.r.2.2), ⟨vs, f.to w1 (n1 nd.r.2.1.symm), w2.mv f (deeds_nol _)⟩, hnd⟩, rfl, f.mono fun z m => by rw [List.mem_singleton.mp m]; exact foot_r, fun z m => ?_, fun q m => ⟨m, fun u e => f.to e (n1 (nt (tls m) nd.r.2.2))⟩⟩
  · by_cases hk : k < A.ra.length
    · rw [List.getElem?_append_left hk] at h1
      rw [List.getElem?_append_left (by rw [← x.r.n]; exact hk)] at h2
      obtain ⟨a1, a2⟩ := x.r.i k z y h1 h2
      have hm := List.mem_of_getElem? h1
      exact ⟨f.to a1 (n1 (nt (tl1 hm) nd.r.2.2)), f.to a2 (n1 (nt (tl2 hm) nd.r.2.2))⟩
    · have hkl : A.ra.length ≤ k := Nat.le_of_not_lt hk
      rw [List.getElem?_append_right hkl] at h1
      rw [List.getElem?_append_right (by rw [← x.r.n]; exact hkl), ← x.r.n] at h2
      have hz : k - A.ra.length = 0 := by
        have := (List.getElem?_eq_some_iff.mp h1).1
        simp at this
        omega
      rw [hz] at h1 h2
      have hz1 : (q, dx) = z := by simpa using h1
      have hz2 : m = y := by simpa using h2
      subst hz1 hz2
      exact ⟨e2, e3⟩
  · rcases hmem z m with e | e | e
    · exact .inl e
    · rw [e]; exact .inr hq
    · rw [e]; exact .inr hd
/-- a page more -/
theorem HallAt.addS (x : HallAt K H A n h) (f : Fx [A.s] H H') {q : Addr} {m : List RowM} (hq : H q = none) (e1 : H' A.s = some (.lst ((A.sa ++ [q]).map V.ref))) (e2 : ∃ vs, H' q = some (.lst vs) ∧ DpAll K H' vs (m.map rowMD)) :
    Led K H H' A { A with sa := A.sa ++ [q] } n { h with sheets := h.sheets ++ [m] } := by
  have nd := HA.nd_iff.mp x.nd
  obtain ⟨gk, g1, g2⟩ := x.g
  obtain ⟨pk, p1, p2⟩ := x.p
  obtain ⟨vs, w1, w2⟩ := x.w
  have hs := x.there
  have nq : q ∉ A.foot := fun m => hs q m hq
  have hp : (({ A with sa := A.sa ++ [q] } : HA).foot).Perm (q :: A.foot) := by
    have e : (({ A with sa := A.sa ++ [q] } : HA).foot) = A.foot ++ [q] := by
      unfold HA.foot
      simp
    rw [e]
    exact List.perm_append_singleton q A.foot
  have hi := x.i.fx f (n1 nd.a.2.2.2.2.1) (n1 nd.dx.2.2.2.1)
  refine ⟨⟨⟨hi.i, hi.o⟩, x.r.fx f (n1 nd.r.1) fun q hq => ⟨n1 (nt (tl1 hq) nd.s.2), n1 (nt (tl2 hq) nd.s.2)⟩, ⟨gk, f.to g1 (n1 nd.g.2.2.1), g2.mv f (tasks_nol _)⟩, ⟨pk, f.to p1 (n1 nd.p.2.1), p2.mv f (machs_nol _)⟩,
    ⟨e1, by rw [List.length_append, List.length_append, x.s.n]; rfl, fun k z y h1 h2 => ?_⟩, ⟨vs, f.to w1 (n1 nd.s.1.symm), w2.mv f (deeds_nol _)⟩, hp.nodup_iff.mpr (List.nodup_cons.mpr ⟨nq, x.nd⟩)⟩, rfl, f.mono fun z m => by rw [List.mem_singleton.mp m]; exact foot_s, fun z m => ?_, fun q m => ⟨List.mem_append_left _ m, fun u e => f.to e (n1 (nt (tls m) nd.s.2))⟩⟩
  · by_cases hk : k < A.sa.length
    · rw [List.getElem?_append_left hk] at h1
      rw [List.getElem?_append_left (by rw [← x.s.n]; exact hk)] at h2
      obtain ⟨vs, a1, a2⟩ := x.s.i k z y h1 h2
      exact ⟨vs, f.to a1 (n1 (nt (tls (List.mem_of_getElem? h1)) nd.s.2)), a2.mv f (rowsM_nol _)⟩
    · have hkl : A.sa.length ≤ k := Nat.le_of_not_lt hk
      rw [List.getElem?_append_right hkl] at h1
      rw [List.getElem?_append_right (by rw [← x.s.n]; exact hkl), ← x.s.n] at h2
      have hz : k - A.sa.length = 0 := by
        have := (List.getElem?_eq_some_iff.mp h1).1
        simp at this
        omega
      rw [hz] at h1 h2
      have hz1 : q = z := by simpa using h1
      have hz2 : m = y := by simpa using h2
      subst hz1 hz2
      exact e2
  · rcases List.mem_cons.mp (hp.mem_iff.mp m) with e | e
    · rw [e]; exact .inr hq
    · exact .inl e
end
end Mh
/-! MhHs -/
namespace Mh
open PySem PySem.Spec PyProof.Rows L2
theorem sc_Run_init : FnScope ["self", "player", "goal", "seed", "points"] ["self", "player", "goal", "seed", "points"] (defScope s_Run_init) := ⟨rfl, rfl, rfl, by decide +kernel, rfl, by decide +kernel, by decide +kernel⟩
def spRunInit (K : PySem.W.Frag) : Sp := fun vs H Q _ => ∃ (x dx : Addr) (p g : Str) (s n : Int), vs = [.ref x, .str p, .str g, .int s, .int n] ∧ H x = some (.ins (He.ga K "Run") dx []) ∧ Q .non (upd H x (.ins (He.ga K "Run") dx (runF ⟨p, g, s, n, true⟩)))
theorem ok_Run_init {P : Program} {w : World} {K : PySem.W.Frag} {mg : Str → Option Value} {base : Heap} (T : Tx K mg) : MkDef P w K mg base CX0 1 "Run" "__init__" ["self", "player", "goal", "seed", "points"] (spRunInit K) := by
  obtain ⟨fd, F⟩ := T.d_Run_init
  refine ⟨_, fd, F.ok sc_Run_init (fun vs H Q E h => ?_) (fun cdv A outer s H vs Q E hr h => ?_), F.bindsN fun _ _ _ _ _ _ us hl => match us, hl with | [_, _, _, _, _], _ => rfl, T.k_Run, T.mk_Run, T.g_Run⟩
  · obtain ⟨x, dx, p, g, s, n, rfl, _⟩ := h
    rfl
  · obtain ⟨x, dx, p, g, sd, n, rfl, hx, q⟩ := h
    refine ⟨_, PSs.nox (pss_cons (ps_fld (pv 0) (pv 1) rfl)
        (pss_cons (ps_fld (pv 0) (pv 2) rfl)
        (pss_cons (ps_fld (pv 0) (pv 3) rfl)
        (pss_cons (ps_fld (pv 0) (pv 4) rfl)
        (pss_one (ps_fld (pv 0) pe_bl rfl)))))), ?_⟩
    refine ⟨_, rfl, _, rfl, x, _, dx, [], rfl, hx, T.k_Run, T.n_Run_player, Nat.le_of_ble_eq_true rfl, ?_⟩
    refine ⟨_, rfl, _, rfl, x, _, dx, _, rfl, upd_same, T.k_Run, T.n_Run_goal, Nat.le_of_ble_eq_true rfl, ?_⟩
    rw [upd_upd]
    refine ⟨_, rfl, _, rfl, x, _, dx, _, rfl, upd_same, T.k_Run, T.n_Run_seed, Nat.le_of_ble_eq_true rfl, ?_⟩
    rw [upd_upd]
    refine ⟨_, rfl, _, rfl, x, _, dx, _, rfl, upd_same, T.k_Run, T.n_Run_points, Nat.le_of_ble_eq_true rfl, ?_⟩
    rw [upd_upd]
    refine ⟨_, rfl, x, _, dx, _, rfl, upd_same, T.k_Run, T.n_Run_counts, Nat.le_of_ble_eq_true rfl, ?_⟩
    rw [upd_upd]
    exact q
theorem sc_Hall_need_player : FnScope ["self", "name"] ["self", "name"] (defScope s_Hall_need_player) := ⟨rfl, rfl, rfl, by decide +kernel, rfl, by decide +kernel, by decide +kernel⟩
def spNeedPlayer (K : PySem.W.Frag) : Sp := fun vs H Q _ => ∃ (A : HA) (d : Int) (h : HallM) (n : Str) (m : Mch), vs = [.ref A.a, .str n] ∧ HallAt K H A d h ∧ h.players.lookup n = some m ∧ Q .non H
theorem ok_Hall_need_player {P : Program} {w : World} {K : PySem.W.Frag} {mg : Str → Option Value} {base : Heap} (T : Tx K mg) : MDef P w K mg base CX0 1 "Hall" "need_player" ["self", "name"] (spNeedPlayer K) := by
  obtain ⟨fd, F⟩ := T.d_Hall_need_player
  refine ⟨_, fd, F.ok sc_Hall_need_player (fun vs H Q E h => ?_) (fun cdv A outer s H vs Q E hr h => ?_), F.bindsN fun _ _ _ _ _ _ us hl => match us, hl with | [_, _], _ => rfl, T.k_Hall, T.m_Hall_need_player⟩
  · obtain ⟨A, d, h, n, m, rfl, _⟩ := h
    rfl
  · obtain ⟨A, d, h, n, m, rfl, ha, hm, q⟩ := h
    refine ⟨_, PSs.nox (pss_one (ps_if (PW.pt (pw_or (pt_not (pt_val (pe_callB call_isiD (by rfl) T.f_isinstance (by decide +kernel) (pa_cons (pv 1) (pa_cons (gT (n := "str") T.f_str) pa_nil))))) (pw_or1 (pt_cmp (pc_dnotin (hu_of hr) (pv 1) (pe_fld (pv 0) rfl))))))
        (pss_one ps_never)
        pss_nil)), ?_⟩
    obtain ⟨pk, p1, p2⟩ := ha.p
    obtain ⟨v, hv, _⟩ := player_val p2 hm
    refine rd_isD rfl (by decide) (.str n) ⟨_, rfl, ifF rfl ?_⟩
    exact ⟨_, rfl, _, rfl, A.a, _, _, _, _, rfl, ha.i.i, T.k_Hall, T.n_Hall_players, rfl, A.p, _, rfl, DGet.k (k := .inr n) p1, _, rfl, ifF (by rw [hv]; rfl) q⟩
theorem sc_Hall_points_of : FnScope ["self", "run"] ["self", "run"] (defScope s_Hall_points_of) := ⟨rfl, rfl, rfl, by decide +kernel, rfl, by decide +kernel, by decide +kernel⟩
def spPoints (K : PySem.W.Frag) : Sp := fun vs H Q _ => ∃ (A : HA) (d : Int) (gk pk : List (Key × V)) (gl : List (Str × Tsk)) (h : HallM) (q dx : Addr) (r : RunM) (m : Mch) (t : Tsk), vs = [.ref A.a, .ref q] ∧ InsAt K H A d ∧ H A.g = some (.dK gk) ∧ KvD K H gk (gl.map fun q => (q.1, taskD q.2)) ∧ H A.p = some (.dK pk) ∧ KvD K H pk (playersD h) ∧
  H q = some (.ins (He.ga K "Run") dx (runF r)) ∧ h.players.lookup r.p = some m ∧ m.ok ∧ gl.lookup r.g = some t ∧ t.ok ∧ ∀ H', Fx [] H H' → Q (.int ((rightL m t r.s).length : Nat)) H'
theorem ok_Hall_points_of {P : Program} {w : World} {K : PySem.W.Frag} {mg : Str → Option Value} {base : Heap} (T : Tx K mg) : MDef P w K mg base CX0 4 "Hall" "points_of" ["self", "run"] (spPoints K) := by
  obtain ⟨fd, F⟩ := T.d_Hall_points_of
  have G_right_of := ok_right_of (P := P) (w := w) (base := base) T
  refine ⟨_, fd, F.ok sc_Hall_points_of (fun vs H Q E h => ?_) (fun cdv A outer s H vs Q E hr h => ?_), F.bindsN fun _ _ _ _ _ _ us hl => match us, hl with | [_, _], _ => rfl, T.k_Hall, T.m_Hall_points_of⟩
  · obtain ⟨A, d, gk, pk, gl, h, q, dx, r, m, t, rfl, _⟩ := h
    rfl
  · obtain ⟨A, d, gk, pk, gl, h, qa, dx, r, m, t, rfl, hin, g1, g2, p1, p2, hq, hm, hmo, ht, hto, q⟩ := h
    refine ⟨_, PSs.nox (pss_one (ps_ret (pe_callB call_len_seq (by rfl) T.f_len (by decide +kernel) (pa_cons (pe_def G_right_of (hr.mono (by omega)) pass0 (pa_cons (pe_dget (hu_of hr) (pe_fld (pv 0) rfl) (pe_fld (pv 1) rfl) (fun _ _ => rfl)) (pa_cons (pe_dget (hu_of hr) (pe_fld (pv 0) rfl) (pe_fld (pv 1) rfl) (fun _ _ => rfl)) (pa_cons (pe_fld (pv 1) rfl) pa_nil)))) pa_nil)))), ?_⟩
    obtain ⟨vm, hvm, dvm⟩ := player_val p2 hm
    obtain ⟨vt, hvt, dvt⟩ := goal_val g2 ht
    refine ⟨_, rfl, A.a, _, _, _, _, rfl, hin.i, T.k_Hall, T.n_Hall_players, rfl, _, rfl, qa, _, _, _, _, rfl, hq, T.k_Run, T.n_Run_player, rfl, A.p, vm, rfl, by rw [← hvm]; exact DGet.k (k := .inr r.p) p1, ?_⟩
    refine ⟨_, rfl, A.a, _, _, _, _, rfl, hin.i, T.k_Hall, T.n_Hall_goals, rfl, _, rfl, qa, _, _, _, _, rfl, hq, T.k_Run, T.n_Run_goal, rfl, A.g, vt, rfl, by rw [← hvt]; exact DGet.k (k := .inr r.g) g1, ?_⟩
    refine ⟨_, rfl, qa, _, _, _, _, rfl, hq, T.k_Run, T.n_Run_seed, rfl, ⟨vm, vt, m, t, r.s, rfl, dvm, dvt, hmo, hto, fun H1 p f1 hp hp1 => ⟨p, _, rfl, .inl (SqL.of hp1), ?_⟩⟩⟩
    rw [List.length_map]
    exact q H1 f1
end Mh
/-! MhHallP -/
namespace Mh
open PySem PySem.Spec PyProof.Rows L2
theorem ltW {m : Nat} (h : m < 1000000) : m < sizeLine := Nat.lt_of_lt_of_le h (by decide)
/-! ### halls stay good by what is done -/
section
variable {α : Type}
theorem putA_lookup (l : List (Str × α)) (n m : Str) (v : α) : (putA l n v).lookup m = if m = n then some v else l.lookup m := by
  unfold putA
  by_cases ha : l.any (fun q => decide (q.1 = n)) = true
  · rw [if_pos ha]
    induction l with
    | nil => cases ha
    | cons q l ih =>
      rw [List.map_cons, List.lookup_cons, List.lookup_cons]
      by_cases e : q.1 = n
      · rw [if_pos e]
        by_cases em : m = n
        · rw [if_pos em]
          have : (m == q.1) = true := by rw [em, e]; exact beq_self_eq_true _
          show (match m == q.1 with | true => some v | false => _) = _
          rw [this]
        · rw [if_neg em]
          have : (m == q.1) = false := by rw [e]; simpa using em
          show (match m == q.1 with | true => some v | false => _) = match m == q.1 with | true => some q.2 | false => _
          rw [this]
          show (l.map fun q => if q.1 = n then (q.1, v) else q).lookup m = l.lookup m
          clear ih ha this
          induction l with
          | nil => rfl
          | cons p l ih2 =>
            rw [List.map_cons, List.lookup_cons, List.lookup_cons, ih2]
            by_cases e2 : p.1 = n
            · rw [if_pos e2]
              have : (m == p.1) = false := by rw [e2]; simpa using em
              show (match m == p.1 with | true => some v | false => _) = match m == p.1 with | true => some p.2 | false => _
              rw [this]
            · rw [if_neg e2]
      · rw [if_neg e]
        have ha2 : l.any (fun q => decide (q.1 = n)) = true := by
          rw [List.any_cons, decide_eq_false e, Bool.false_or] at ha
          exact ha
        rw [ih ha2]
        by_cases em : m = n
        · have : (m == q.1) = false := by rw [em]; simpa using fun z => e z.symm
          rw [if_pos em, if_pos em, this]
        · rw [if_neg em, if_neg em]
  · rw [if_neg ha]
    induction l with
    | nil =>
      rw [List.nil_append, List.lookup_cons]
      by_cases em : m = n
      · rw [if_pos em, em, beq_self_eq_true]
      · rw [if_neg em, (by simpa using em : (m == n) = false)]
    | cons q l ih =>
      rw [List.cons_append, List.lookup_cons, List.lookup_cons]
      have hq : ¬ q.1 = n := fun e => ha (by rw [List.any_cons, decide_eq_true e, Bool.true_or])
      have ha2 : ¬ l.any (fun q => decide (q.1 = n)) = true := fun z => ha (by rw [List.any_cons, z, Bool.or_true])
      rw [ih ha2]
      by_cases em : m = n
      · have : (m == q.1) = false := by rw [em]; simpa using fun z => hq z.symm
        rw [if_pos em, if_pos em, this]
      · rw [if_neg em, if_neg em]
theorem putA_old {l : List (Str × α)} {n : Str} {v : α} (h : l.any (fun q => decide (q.1 = n)) = true) : (putA l n v).map (·.1) = l.map (·.1) := by
  unfold putA
  rw [if_pos h, List.map_map]
  refine List.map_congr_left fun q _ => ?_
  show (if q.1 = n then (q.1, v) else q).1 = q.1
  split <;> rfl
theorem any_lookup (l : List (Str × α)) (n : Str) : l.any (fun q => decide (q.1 = n)) = (l.lookup n).isSome := by
  induction l with
  | nil => rfl
  | cons q l ih =>
    rw [List.any_cons, List.lookup_cons, ih]
    by_cases e : q.1 = n
    · rw [decide_eq_true e, e, beq_self_eq_true]
      rfl
    · rw [decide_eq_false e, (by simpa using fun z => e z.symm : (n == q.1) = false), Bool.false_or]
theorem lookup_mem {l : List (Str × α)} {n : Str} {v : α} (h : l.lookup n = some v) : (n, v) ∈ l := by
  induction l with
  | nil => cases h
  | cons q l ih =>
    rw [List.lookup_cons] at h
    cases e : n == q.1 with
    | true =>
      rw [e] at h
      have e1 : n = q.1 := eq_of_beq e
      have e2 : q.2 = v := Option.some.inj h
      rw [e1, ← e2]
      exact List.mem_cons_self
    | false =>
      rw [e] at h
      exact List.mem_cons_of_mem _ (ih h)
theorem lookup_notin {l : List (Str × α)} {n : Str} (h : l.lookup n = none) : n ∉ l.map (·.1) := fun m => by
  obtain ⟨q, hq, e⟩ := List.mem_map.mp m
  have h2 := any_lookup l n
  rw [h] at h2
  have h3 : l.any (fun q => decide (q.1 = n)) = true := List.any_eq_true.mpr ⟨q, hq, decide_eq_true e⟩
  rw [h3] at h2
  cases h2
theorem putA_mem {l : List (Str × α)} {n : Str} {v : α} {q : Str × α} (h : q ∈ putA l n v) : q ∈ l ∨ q = (n, v) := by
  unfold putA at h
  split at h
  · obtain ⟨p, hp, e⟩ := List.mem_map.mp h
    by_cases e2 : p.1 = n
    · rw [if_pos e2] at e
      exact .inr (by rw [← e, e2])
    · rw [if_neg e2] at e
      exact .inl (e ▸ hp)
  · rcases List.mem_append.mp h with h | h
    · exact .inl h
    · exact .inr (List.mem_singleton.mp h)
theorem putA_nodup {l : List (Str × α)} {n : Str} {v : α} (h : (l.map (·.1)).Nodup) : ((putA l n v).map (·.1)).Nodup := by
  by_cases ha : l.any (fun q => decide (q.1 = n)) = true
  · rw [putA_old ha]
    exact h
  · have hn : n ∉ l.map (·.1) := fun m => by
      obtain ⟨q, hq, e⟩ := List.mem_map.mp m
      exact ha (List.any_eq_true.mpr ⟨q, hq, decide_eq_true e⟩)
    unfold putA
    rw [if_neg ha, List.map_append]
    refine List.nodup_append.mpr ⟨h, List.nodup_cons.mpr ⟨(fun m => nomatch m), List.nodup_nil⟩, fun a ha b hb e => ?_⟩
    have : b = n := List.mem_singleton.mp hb
    rw [e, this] at ha
    exact hn ha
theorem putA_len2 {l : List (Str × α)} {n : Str} {v : α} {k : Nat} (h1 : l.length ≤ k) (h2 : l.lookup n = none → l.length < k) : (putA l n v).length ≤ k := by
  unfold putA
  rw [any_lookup]
  cases e : l.lookup n with
  | none =>
    rw [if_neg (by simp), List.length_append]
    exact h2 e
  | some w =>
    rw [if_pos (show (some w).isSome = true from rfl), List.length_map]
    exact h1
end
theorem right_len {m : Mch} {t : Tsk} (ht : t.ok) (s : Int) : (rightL m t s).length ≤ 16 := Nat.le_trans (rightN_len m t s _) ht.len
theorem scoreOf_range {h : HallM} (gt : ∀ n t, h.goals.lookup n = some t → t.ok) (r : RunM) : 0 ≤ scoreOf h r ∧ scoreOf h r ≤ 16 := by
  unfold scoreOf
  split
  · rename_i m t e1 e2
    have := right_len (m := m) (gt _ _ e2) r.s
    omega
  · omega
structure Fresh (h : HallM) : Prop where
  r : h.runs.length < 5000
  s : h.sheets.length < 5000
  w : h.rows.length < 5000
theorem cnt_map {f : RunM → RunM} (hf : ∀ r n g, mineB n g (f r) = mineB n g r) (rs : List RunM) (n g : Str) : cntL (rs.map f) n g = cntL rs n g := by
  unfold cntL cntTo
  rw [List.length_map]
  refine List.filter_congr fun k _ => ?_
  unfold cntB
  rw [List.getElem?_map]
  cases rs[k]? with
  | none => rfl
  | some r => exact hf r n g
theorem cnt_le {f : RunM → RunM} (hf : ∀ r n g, mineB n g (f r) = true → mineB n g r = true) (rs : List RunM) (n g : Str) : (cntL (rs.map f) n g).length ≤ (cntL rs n g).length := by
  unfold cntL cntTo
  rw [List.length_map]
  have : ∀ l : List Nat, (l.filter (cntB (rs.map f) n g)).length ≤ (l.filter (cntB rs n g)).length := by
    intro l
    induction l with
    | nil => exact Nat.le_refl _
    | cons k l ih =>
      cases h1 : cntB (rs.map f) n g k with
      | false =>
        rw [List.filter_cons_of_neg (by rw [h1]; decide)]
        cases h2 : cntB rs n g k with
        | false => rw [List.filter_cons_of_neg (by rw [h2]; decide)]; exact ih
        | true => rw [List.filter_cons_of_pos h2]; exact Nat.le_succ_of_le ih
      | true =>
        have h2 : cntB rs n g k = true := by
          unfold cntB at h1 ⊢
          rw [List.getElem?_map] at h1
          cases hk : rs[k]? with
          | none => rw [hk] at h1; cases h1
          | some r => rw [hk] at h1; exact hf r n g h1
        rw [List.filter_cons_of_pos h1, List.filter_cons_of_pos h2]
        exact Nat.succ_le_succ ih
  exact this _
def taskF (h1 : HallM) (n : Str) (r : RunM) : RunM := if r.c && decide (r.g = n) then { r with x := scoreOf h1 r } else r
theorem doTask_runs (h : HallM) (n : Str) (t : Tsk) : (doTask h n t).runs = h.runs.map (taskF { h with goals := putA h.goals n t, rows := h.rows ++ [.task n t] } n) := rfl
theorem taskF_mine (h1 : HallM) (n : Str) (r : RunM) (a g : Str) : mineB a g (taskF h1 n r) = mineB a g r := by
  unfold taskF
  split <;> rfl
theorem doTask_ok {h : HallM} (hok : h.ok) (fr : Fresh h) {n : Str} {t : Tsk} (c : Can h (.task n t)) : (doTask h n t).ok := by
  obtain ⟨c1, c2, c3⟩ := c
  have lk : ∀ m u, (putA h.goals n t).lookup m = some u → u.ok := fun m u e => by
    rw [putA_lookup] at e
    split at e
    · rw [← Option.some.inj e]; exact c2
    · exact hok.gt _ (lookup_mem e)
  refine ⟨putA_len2 hok.gl c3, putA_nodup hok.gn, fun q hq => ?_, fun q hq => ?_, hok.pl, hok.pn, hok.pm, hok.pk, by rw [doTask_runs, List.length_map]; exact hok.rl, fun q hq => ?_, fun a g => by rw [doTask_runs, cnt_map (fun r a g => taskF_mine _ n r a g)]; exact hok.cn a g, hok.sl, hok.st, by show (h.rows ++ [_]).length ≤ 5000; rw [List.length_append]; exact fr.w⟩
  · rcases putA_mem hq with m | m
    · exact hok.gt q m
    · rw [m]; exact c2
  · rcases putA_mem hq with m | m
    · exact hok.gk q m
    · rw [m]; exact c1
  · rw [doTask_runs] at hq
    obtain ⟨r, hr, e⟩ := List.mem_map.mp hq
    have ho := hok.r r hr
    have hg : ∃ u, (putA h.goals n t).lookup r.g = some u := by
      rw [putA_lookup]
      split
      · exact ⟨t, rfl⟩
      · exact ho.g
    subst e
    unfold taskF
    split
    · exact ⟨ho.p, hg, ho.s, scoreOf_range lk r⟩
    · exact ⟨ho.p, hg, ho.s, ho.x⟩
theorem doMachine_ok {h : HallM} (hok : h.ok) (fr : Fresh h) {n : Str} {m : Mch} (c : Can h (.machine n m)) : (doMachine h n m).ok := by
  obtain ⟨c1, c2, c3, c4⟩ := c
  refine ⟨hok.gl, hok.gn, hok.gt, hok.gk, putA_len2 hok.pl fun _ => c4, putA_nodup hok.pn, fun q hq => ?_, fun q hq => ?_, hok.rl, fun q hq => ?_, hok.cn, hok.sl, hok.st, by show (h.rows ++ [_]).length ≤ 5000; rw [List.length_append]; exact fr.w⟩
  · rcases putA_mem hq with e | e
    · exact hok.pm q e
    · rw [e]; exact c2
  · rcases putA_mem hq with e | e
    · exact hok.pk q e
    · rw [e]; exact c1
  · have ho := hok.r q hq
    refine ⟨?_, ho.g, ho.s, ho.x⟩
    show ∃ u, (putA h.players n m).lookup q.p = some u
    rw [putA_lookup]
    split
    · exact ⟨m, rfl⟩
    · exact ho.p
theorem cnt_snoc (rs : List RunM) (r : RunM) (n g : Str) : (cntL (rs ++ [r]) n g) = cntL rs n g ++ (if mineB n g r then [rs.length] else []) := by
  unfold cntL
  rw [List.length_append]
  show cntTo (rs ++ [r]) n g (rs.length + 1) = _
  rw [cntTo_succ]
  congr 1
  · unfold cntTo
    refine List.filter_congr fun k hk => ?_
    unfold cntB
    rw [List.getElem?_append_left (List.mem_range.mp hk)]
  · have : cntB (rs ++ [r]) n g rs.length = mineB n g r := by
      unfold cntB
      rw [List.getElem?_append_right (Nat.le_refl _), Nat.sub_self]
      rfl
    rw [this]
theorem doTell_ok {h : HallM} (hok : h.ok) (fr : Fresh h) {m t : Str} {s x : Int} (c : Can h (.tell m t s x)) : (doTell h m t s x).ok := by
  obtain ⟨⟨q, hq⟩, ⟨u, hu, x0, x1⟩, hs, tk, rm⟩ := c
  refine ⟨hok.gl, hok.gn, hok.gt, hok.gk, hok.pl, hok.pn, hok.pm, hok.pk, by show (h.runs ++ [_]).length ≤ 5000; rw [List.length_append]; exact fr.r, fun r hr => ?_, fun a g => ?_, hok.sl, hok.st, by show (h.rows ++ [_]).length ≤ 5000; rw [List.length_append]; exact fr.w⟩
  · rcases List.mem_append.mp hr with e | e
    · exact ⟨(hok.r r e).p, (hok.r r e).g, (hok.r r e).s, (hok.r r e).x⟩
    · rw [List.mem_singleton.mp e]
      have : u.rows.length ≤ 16 := (hok.gt _ (lookup_mem hu)).len
      exact ⟨⟨q, hq⟩, ⟨u, hu⟩, hs, by show 0 ≤ x ∧ x ≤ 16; omega⟩
  · show (cntL (h.runs ++ [_]) a g).length ≤ 5
    rw [cnt_snoc, List.length_append]
    split
    · rename_i hm
      have e : (m = a ∧ t = g) := by
        unfold mineB at hm
        simp only [Bool.true_and, Bool.and_eq_true, decide_eq_true_iff] at hm
        exact hm
      rw [← e.1, ← e.2]
      exact rm
    · exact hok.cn a g
theorem strikeAt_len (rs : List RunM) (k : Nat) : (strikeAt rs k).length = rs.length := by unfold strikeAt; rw [List.length_modify]
theorem strikeAt_get (rs : List RunM) (k i : Nat) : (strikeAt rs k)[i]? = (rs[i]?).map fun r => if k = i then { r with c := false } else r := by
  unfold strikeAt
  rw [List.getElem?_modify]
  cases rs[i]? with
  | none => rfl
  | some r =>
    by_cases e : k = i
    · simp [e]
    · simp [e]
theorem strike_le (rs : List RunM) (k : Nat) (n g : Str) : (cntL (strikeAt rs k) n g).length ≤ (cntL rs n g).length := by
  unfold cntL cntTo
  rw [strikeAt_len]
  have : ∀ l : List Nat, (l.filter (cntB (strikeAt rs k) n g)).length ≤ (l.filter (cntB rs n g)).length := by
    intro l
    induction l with
    | nil => exact Nat.le_refl _
    | cons i l ih =>
      cases h1 : cntB (strikeAt rs k) n g i with
      | false =>
        rw [List.filter_cons_of_neg (by rw [h1]; decide)]
        cases h2 : cntB rs n g i with
        | false => rw [List.filter_cons_of_neg (by rw [h2]; decide)]; exact ih
        | true => rw [List.filter_cons_of_pos h2]; exact Nat.le_succ_of_le ih
      | true =>
        have h2 : cntB rs n g i = true := by
          unfold cntB at h1 ⊢
          rw [strikeAt_get] at h1
          cases hk : rs[i]? with
          | none => rw [hk] at h1; cases h1
          | some r =>
            rw [hk] at h1
            by_cases e : k = i
            · rw [Option.map_some, if_pos e] at h1
              cases h1
            · rw [Option.map_some, if_neg e] at h1
              exact h1
        rw [List.filter_cons_of_pos h1, List.filter_cons_of_pos h2]
        exact Nat.succ_le_succ ih
  exact this _
theorem doStrike_ok {h : HallM} (hok : h.ok) (fr : Fresh h) {k : Nat} : (doStrike h k).ok := by
  refine ⟨hok.gl, hok.gn, hok.gt, hok.gk, hok.pl, hok.pn, hok.pm, hok.pk, by show (strikeAt h.runs k).length ≤ 5000; rw [strikeAt_len]; exact hok.rl, fun r hr => ?_, fun a g => Nat.le_trans (strike_le _ _ _ _) (hok.cn a g), hok.sl, hok.st, by show (h.rows ++ [_]).length ≤ 5000; rw [List.length_append]; exact fr.w⟩
  have hr : r ∈ strikeAt h.runs k := hr
  obtain ⟨i, hi, e⟩ := List.getElem_of_mem hr
  have e2 : (strikeAt h.runs k)[i]? = some r := by rw [List.getElem?_eq_getElem hi, e]
  rw [strikeAt_get] at e2
  obtain ⟨r0, h0, e3⟩ := Option.map_eq_some_iff.mp e2
  have ho := hok.r r0 (List.mem_of_getElem? h0)
  subst e3
  split
  · exact ⟨ho.p, ho.g, ho.s, ho.x⟩
  · exact ⟨ho.p, ho.g, ho.s, ho.x⟩
def cleanF (h : HallM) (r : RunM) : RunM := if partedB h r then { r with c := false } else r
theorem doClean_ok {h : HallM} (hok : h.ok) (fr : Fresh h) : (doClean h).ok := by
  refine ⟨hok.gl, hok.gn, hok.gt, hok.gk, hok.pl, hok.pn, hok.pm, hok.pk, by show (h.runs.map _).length ≤ 5000; rw [List.length_map]; exact hok.rl, fun r hr => ?_, fun a g => Nat.le_trans (cnt_le (f := cleanF h) (fun r a g e => ?_) h.runs a g) (hok.cn a g), hok.sl, hok.st, by show (h.rows ++ [_]).length ≤ 5000; rw [List.length_append]; exact fr.w⟩
  · have hr : r ∈ h.runs.map (cleanF h) := hr
    obtain ⟨r0, h0, e⟩ := List.mem_map.mp hr
    have ho := hok.r r0 h0
    subst e
    unfold cleanF
    split
    · exact ⟨ho.p, ho.g, ho.s, ho.x⟩
    · exact ⟨ho.p, ho.g, ho.s, ho.x⟩
  · unfold cleanF at e
    split at e
    · cases e
    · exact e
theorem ranks_len6 {h : HallM} (hl : (rankedL h).length ≤ 6) : (ranksL h).length ≤ 6 := by
  unfold ranksL rowsRaw meansL
  rw [(List.mergeSort_perm _ _).length_eq, List.length_map, List.length_map]
  exact hl
theorem ranked_len0 {h : HallM} (hok : h.ok) : (rankedL h).length ≤ 6 := by
  unfold rankedL
  split
  · exact Nat.zero_le _
  · refine Nat.le_trans (List.length_filter_le _ _) ?_
    unfold names
    rw [sortS_len, List.length_map]
    exact hok.pl
theorem doPublish_ok {h : HallM} (hok : h.ok) (fr : Fresh h) : (doPublish h).ok := by
  refine ⟨hok.gl, hok.gn, hok.gt, hok.gk, hok.pl, hok.pn, hok.pm, hok.pk, hok.rl, fun r hr => ⟨(hok.r r hr).p, (hok.r r hr).g, (hok.r r hr).s, (hok.r r hr).x⟩, hok.cn, by show (h.sheets ++ [_]).length ≤ 5000; rw [List.length_append]; exact fr.s, fun q hq => ?_, by show (h.rows ++ [_]).length ≤ 5000; rw [List.length_append]; exact fr.w⟩
  have hq : q ∈ h.sheets ++ [ranksL h] := hq
  rcases List.mem_append.mp hq with e | e
  · exact hok.st q e
  · rw [List.mem_singleton.mp e]
    exact ranks_len6 (ranked_len0 hok)
theorem do_ok {h : HallM} (hok : h.ok) (fr : Fresh h) : ∀ {e : Deed}, Can h e → (doDeed h e).ok
  | .task _ _, c => doTask_ok hok fr c
  | .machine _ _, c => doMachine_ok hok fr c
  | .tell _ _ _ _, c => doTell_ok hok fr c
  | .strike _, _ => doStrike_ok hok fr
  | .clean, _ => doClean_ok hok fr
  | .publish, _ => doPublish_ok hok fr
theorem hall0_ok : hall0.ok := ⟨by decide, List.nodup_nil, (fun _ m => nomatch m), (fun _ m => nomatch m), by decide, List.nodup_nil, (fun _ m => nomatch m), (fun _ m => nomatch m), by decide, (fun _ m => nomatch m), (fun _ _ => Nat.zero_le _), by decide, (fun _ m => nomatch m), by decide⟩
end Mh
/-! MhHd -/
namespace Mh
open PySem PySem.Spec PyProof.Rows L2
theorem goalsD_put (h : HallM) (n : Str) (t : Tsk) : (putA h.goals n t).map (fun q => (q.1, taskD q.2)) = putA (goalsD h) n (taskD t) := putA_map taskD h.goals n t
theorem playersD_put (h : HallM) (n : Str) (m : Mch) : (putA h.players n m).map (fun q => (q.1, machD q.2)) = putA (playersD h) n (machD m) := putA_map machD h.players n m
theorem RunsAt.set {K : PySem.W.Frag} {H : Hp} {r : Addr} {ra : List (Addr × Addr)} {rs : List RunM} (x : RunsAt K H r ra rs) {i : Nat} {q : Addr × Addr} {m : RunM} (hq : ra[i]? = some q) (hn : (ra.map (·.1)).Nodup) :
    RunsAt K (upd H q.1 (.ins (He.ga K "Run") q.2 (runF m))) r ra (rs.set i m) := by
  have hi : i < rs.length := by rw [← x.n]; exact (List.getElem?_eq_some_iff.mp hq).1
  obtain ⟨hq1, hq2⟩ := x.i i q _ hq (List.getElem?_eq_getElem hi)
  refine ⟨by rw [upd_ne (fun z => by rw [← z, x.l] at hq1; cases hq1)]; exact x.l, by rw [List.length_set]; exact x.n, fun k p y h1 h2 => ?_⟩
  by_cases e : k = i
  · subst e
    rw [hq] at h1
    cases h1
    rw [List.getElem?_set_self hi] at h2
    cases h2
    exact ⟨upd_same, by rw [upd_ne (fun z => by rw [z, hq1] at hq2; cases hq2)]; exact hq2⟩
  · rw [List.getElem?_set_ne (fun z => e z.symm)] at h2
    obtain ⟨a1, a2⟩ := x.i k p y h1 h2
    have ne : p.1 ≠ q.1 := fun z => by
      obtain ⟨hk, ek⟩ := List.getElem?_eq_some_iff.mp h1
      obtain ⟨hi2, ei⟩ := List.getElem?_eq_some_iff.mp hq
      have hp := List.pairwise_iff_getElem.mp (List.nodup_iff_pairwise_ne.mp hn)
      rcases Nat.lt_or_gt_of_ne e with l | l
      · refine hp k i (by rw [List.length_map]; exact hk) (by rw [List.length_map]; exact hi2) l ?_
        rw [List.getElem_map, List.getElem_map, ek, ei, z]
      · refine hp i k (by rw [List.length_map]; exact hi2) (by rw [List.length_map]; exact hk) l ?_
        rw [List.getElem_map, List.getElem_map, ek, ei, z]
    exact ⟨by rw [upd_ne ne]; exact a1, by rw [upd_ne (fun z => by rw [z, hq1] at a2; cases a2)]; exact a2⟩
theorem set_take {f : RunM → RunM} (rs : List RunM) (i : Nat) (r : RunM) (h : rs[i]? = some r) : ((rs.take i).map f ++ rs.drop i).set i (f r) = (rs.take (i + 1)).map f ++ rs.drop (i + 1) := by
  obtain ⟨hi, e⟩ := List.getElem?_eq_some_iff.mp h
  have e1 : rs.drop i = r :: rs.drop (i + 1) := by rw [List.drop_eq_getElem_cons hi, e]
  have e2 : rs.take (i + 1) = rs.take i ++ [r] := by rw [List.take_add_one, h]; rfl
  rw [e1, e2, List.map_append, List.append_assoc]
  have hl : ((rs.take i).map f).length = i := by rw [List.length_map, List.length_take]; omega
  rw [List.set_append_right _ _ (by rw [hl]; exact Nat.le_refl _), hl, Nat.sub_self]
  rfl
theorem keep_take {f : RunM → RunM} (rs : List RunM) (i : Nat) (r : RunM) (h : rs[i]? = some r) (e : f r = r) : (rs.take i).map f ++ rs.drop i = (rs.take (i + 1)).map f ++ rs.drop (i + 1) := by
  obtain ⟨hi, e3⟩ := List.getElem?_eq_some_iff.mp h
  have e1 : rs.drop i = r :: rs.drop (i + 1) := by rw [List.drop_eq_getElem_cons hi, e3]
  have e2 : rs.take (i + 1) = rs.take i ++ [r] := by rw [List.take_add_one, h]; rfl
  rw [e1, e2, List.map_append, List.append_assoc]
  show _ = (rs.take i).map f ++ ([f r] ++ _)
  rw [e]
  rfl
theorem sc_Hall_task : FnScope ["self", "name", "task", "before", "run"] ["self", "name", "task"] (defScope s_Hall_task) := ⟨rfl, rfl, rfl, by decide +kernel, rfl, by decide +kernel, by decide +kernel⟩
def spTask (K : PySem.W.Frag) : Sp := fun vs H Q _ => ∃ (A : HA) (d : Int) (h : HallM) (n : Str) (t : Tsk) (u : V), vs = [.ref A.a, .str n, u] ∧ HallAt K H A d h ∧ h.ok ∧ Fresh h ∧ Can h (.task n t) ∧ Dp K H u (taskD t) ∧
  ∀ H' A' p, Led K H H' A A' d (doTask h n t) → NewL K H H' p ((changesL (doTask h n t) (tableL h)).map chgD) → p ∉ A'.foot → Q (.ref p) H'
theorem ok_Hall_task {P : Program} {w : World} {K : PySem.W.Frag} {mg : Str → Option Value} {base : Heap} (T : Tx K mg) : MDef P w K mg base CX0 7 "Hall" "task" ["self", "name", "task"] (spTask K) := by
  obtain ⟨fd, F⟩ := T.d_Hall_task
  have G_need_name := ok_need_name (P := P) (w := w) (base := base) T
  have G_need_task := ok_need_task (P := P) (w := w) (base := base) T
  have M_Hall_table := ok_Hall_table (P := P) (w := w) (base := base) T
  have M_Hall_changes := ok_Hall_changes (P := P) (w := w) (base := base) T
  have M_Hall_points_of := ok_Hall_points_of (P := P) (w := w) (base := base) T
  refine ⟨_, fd, F.ok sc_Hall_task (fun vs H Q E h => ?_) (fun cdv A outer s H vs Q E hr h => ?_), F.bindsN fun _ _ _ _ _ _ us hl => match us, hl with | [_, _, _], _ => rfl, T.k_Hall, T.m_Hall_task⟩
  · obtain ⟨A, d, h, n, t, u, rfl, _⟩ := h
    rfl
  · obtain ⟨A, d, h, n, t, u, rfl, ha, hok, fr, hc, hu, q⟩ := h
    refine ⟨_, PSs.nox (pss_cons (ps_expr (pe_def G_need_name (hr.mono (by omega)) pass0 (pa_cons (pv 1) pa_nil)))
        (pss_cons (ps_expr (pe_def G_need_task (hr.mono (by omega)) pass0 (pa_cons (pv 2) pa_nil)))
        (Evl.pss_cut (ps_if (PW.pt (pw_and (pt_cmp (pc_dnotin (hu_of hr) (pv 1) (pe_fld (pv 0) rfl))) (pw_and1 (pt_cmpR op_eq (pe_callB call_lenD (by rfl) T.f_len (by decide +kernel) (pa_cons (pe_fld (pv 0) rfl) pa_nil)) (gC T.c_MOST_TASKS) (nomark _)))))
        (pss_one ps_never)
        pss_nil)
        (pss_cons (ps_set (i := 3) sc_Hall_task.nd rfl (by first | exact Or.inl rfl | exact Or.inr rfl) (pe_mdef0 M_Hall_table (hr.mono (by omega)) pass0 (pv 0)))
        (pss_cons (ps_dput (hu_of hr) (pe_fld (pv 0) rfl) (pv 1) (pv 2) rfl)
        (pss_cons (ps_for PassesOwn.never rfl (pi_list (pe_fld (pv 0) rfl)) (pg_name (i := 4) sc_Hall_task.nd rfl (by first | exact Or.inl rfl | exact Or.inr rfl))
        (pss_one (ps_if (PW.pt (pw_and (pt_val (pe_fld (pv 4) rfl)) (pw_and1 (pt_cmpR op_eq (pe_fld (pv 4) rfl) (pv 1) (nomark _)))))
        (pss_one (ps_fld (pv 4) (pe_mdef M_Hall_points_of (hr.mono (by omega)) pass0 (pv 0) (pa_cons (pv 4) pa_nil)) rfl))
        pss_nil)))
        (pss_cons (ps_expr (pe_bm PySem.F.plainAttrs_list PySem.F.slot_list_append PySem.F.type_list_append mt_append (pe_fld (pv 0) rfl) (pa_cons (pe_tup (pa_cons pe_str (pa_cons (pv 1) (pa_cons (pv 2) pa_nil)))) pa_nil)))
        (pss_one (ps_ret (pe_mdef M_Hall_changes (hr.mono (by omega)) pass0 (pv 0) (pa_cons (pv 3) pa_nil))))))))))), ?_⟩
    obtain ⟨c1, c2, c3⟩ := hc
    refine ⟨_, rfl, n, rfl, c1, fun H1 f1 => ?_⟩
    refine ⟨_, rfl, u, t, rfl, hu.ext f1, c2, fun H2 f2 => ?_⟩
    have f12 := f1.trans f2
    have ha2 := ha.up f12
    have hu2 := hu.ext f12
    obtain ⟨gk, g1, g2⟩ := ha2.g
    have hgl : gk.length = h.goals.length := by rw [g2.len]; unfold goalsD; rw [List.length_map]
    refine ⟨fun σ' H' => σ' = [some (.ref A.a), some (.str n), some u, none, none] ∧ H' = H2, ?_, fun σ' H' hM => ?_⟩
    · refine ⟨_, rfl, _, rfl, A.a, _, _, _, _, rfl, ha2.i.i, T.k_Hall, T.n_Hall_goals, rfl, A.g, _, rfl, DGet.k (k := .inr n) g1, _, rfl, ?_⟩
      rw [goal_isSome (n := n) g2]
      cases e : h.goals.lookup n with
      | some t0 => exact ⟨rfl, rfl⟩
      | none =>
        refine ⟨_, rfl, A.a, _, _, _, _, rfl, ha2.i.i, T.k_Hall, T.n_Hall_goals, rfl, A.g, gk, rfl, g1, rd_eqI ⟨_, rfl, ifF ?_ ⟨rfl, rfl⟩⟩⟩
        have := c3 e
        have : (gk.length : Int) ≠ 4 := by omega
        simpa using this
    obtain ⟨rfl, rfl⟩ := hM
    refine ⟨_, rfl, A.a, A.dx, _, rfl, ha2.i.i, rfl, A, d, h, rfl, ha2, hok, fun H3 b bk f3 hb hb3 hbk => ?_⟩
    have f13 := f12.trans f3
    have ha3 := ha.up f13
    have hu3 := hu.ext f13
    obtain ⟨gk, g1, g2⟩ := ha3.g
    have hgl : gk.length = h.goals.length := by rw [g2.len]; unfold goalsD; rw [List.length_map]
    refine ⟨_, rfl, _, rfl, A.a, _, _, _, _, rfl, ha3.i.i, T.k_Hall, T.n_Hall_goals, rfl, _, rfl, A.g, _, rfl, DPut.k (k := .inr n) g1 (ltL (m := gk.length) rfl (by have := hok.gl; omega)), ?_⟩
    have fg : Fx [A.g] H3 (upd H3 A.g (.dK (putK gk (.inr n) u))) := Fx.set List.mem_cons_self (Chg.dK g1)
    have L1 := ha3.setG fg (gs := putA h.goals n t) ⟨_, upd_same, by rw [goalsD_put]; exact (g2.put hu3).mv fg (by rw [← goalsD_put]; exact tasks_nol _)⟩
    have hb4 : upd H3 A.g (.dK (putK gk (.inr n) u)) b = some (.dK bk) := by rw [upd_ne (fun z => by rw [z] at hb; exact ha2.there _ foot_g hb)]; exact hb3
    have hu4 := hu3.mv fg (task_nol _)
    have hb0 : H b = none := f12.free hb
    replace L1 : Led K H (upd H3 A.g (.dK (putK gk (.inr n) u))) A A d { h with goals := putA h.goals n t } := L1.pre f13
    generalize upd H3 A.g (.dK (putK gk (.inr n) u)) = H4 at L1 hb4 hu4
    have ha4 := L1.at'
    have nd := HA.nd_iff.mp ha.nd
    have nd1 : (A.ra.map (·.1)).Nodup := (List.nodup_append.mp nd.t).1
    let h1 : HallM := { h with goals := putA h.goals n t, rows := h.rows ++ [.task n t] }
    have hok' := doTask_ok hok fr ⟨c1, c2, c3⟩
    have hbf : b ∉ A.foot := fun m => ha.there _ m hb0
    refine ⟨_, rfl, A.a, _, _, _, _, rfl, ha4.i.i, T.k_Hall, T.n_Hall_runs, rfl, A.r, rfl, ⟨_, SqL.of ha4.r.l⟩, for_it (walk_list (xs := A.ra.map fun q => V.ref q.1)) (fun i σ' H' => ∃ (y4 : Option V), σ' = [some (.ref A.a), some (.str n), some u, some (.ref b), y4] ∧ Fx (A.ra.map (·.1)) H4 H' ∧ RunsAt K H' A.r A.ra ((h.runs.take i).map (taskF h1 n) ++ h.runs.drop i)) ⟨none, rfl, .refl, ha4.r⟩ (fun i σ' H' _ hP => ?_) (fun i x σ' H5 H6 hi hP y => ?_) (fun σ' H' hP => ?_)⟩
    · obtain ⟨_, _, _, r⟩ := hP
      exact SqL.of r.l
    · obtain ⟨y4, rfl, f, hrn⟩ := hP
      obtain ⟨rfl, hx⟩ := y
      rw [List.length_map] at hi
      have hi2 : i < h.runs.length := by rw [← ha4.r.n]; exact hi
      obtain ⟨r, hr0⟩ : ∃ r, h.runs[i]? = some r := ⟨_, List.getElem?_eq_getElem hi2⟩
      rw [List.getElem?_map] at hx
      obtain ⟨qa, hqa, rfl⟩ := Option.map_eq_some_iff.mp hx
      have hri : ((h.runs.take i).map (taskF h1 n) ++ h.runs.drop i)[i]? = some r := by
        have hl : ((h.runs.take i).map (taskF h1 n)).length = i := by rw [List.length_map, List.length_take]; omega
        rw [List.getElem?_append_right (by rw [hl]; exact Nat.le_refl _), hl, Nat.sub_self, List.getElem?_drop, Nat.add_zero]
        exact hr0
      obtain ⟨q1, q2⟩ := hrn.i i qa r hqa hri
      have qmem : qa.1 ∈ A.ra.map (·.1) := List.mem_map.mpr ⟨qa, List.mem_of_getElem? hqa, rfl⟩
      have hro := hok.r r (List.mem_of_getElem? hr0)
      refine rd_and (rd_tb (rd_fld rfl q1 T.k_Run T.n_Run_counts rfl ⟨_, rfl, ifB (fun k1 => ?_) (fun k1 => ?_)⟩))
      · refine rd_tt (rd_op (rd_fld rfl q1 T.k_Run T.n_Run_goal rfl (rd_eqT rfl ⟨_, rfl, ifB (fun k2 => ?_) (fun k2 => ?_)⟩)))
        · have e2 : r.g = n := eq_of_beq k2
          obtain ⟨mm, hmm⟩ := hro.p
          have hmo := hok.pm _ (lookup_mem hmm)
          have nn : ∀ {y : Addr}, y ∉ A.tl → y ∉ A.ra.map (·.1) := fun hy m => hy (List.mem_append_left _ m)
          obtain ⟨gk5, g51, g52⟩ := ha4.g
          obtain ⟨pk5, p51, p52⟩ := ha4.p
          have i5 := ha4.i.fx f (nn nd.a.2.2.2.2.2.2) (nn nd.dx.2.2.2.2.2)
          refine ⟨_, rfl, A.a, A.dx, _, rfl, i5.i, rfl, _, rfl, A, d, gk5, pk5, putA h.goals n t, h, qa.1, qa.2, r, mm, t, rfl, i5, f.to g51 (nn nd.g.2.2.2.2), g52.mv f (tasks_nol _), f.to p51 (nn nd.p.2.2.2), p52.mv f (machs_nol _), q1, hmm, hmo, by rw [putA_lookup, if_pos e2], c2, fun H7 f7 => ?_⟩
          have q17 := f7.to q1 fun z => nomatch z
          refine ⟨_, rfl, qa.1, _, qa.2, _, rfl, q17, T.k_Run, T.n_Run_points, Nat.le_of_ble_eq_true rfl, ?_⟩
          have f8 : Fx (A.ra.map (·.1)) H7 (upd H7 qa.1 (.ins (He.ga K "Run") qa.2 (runF { r with x := (rightL mm t r.s).length }))) := Fx.set qmem (Chg.ins q17)
          refine ⟨_, rfl, (f.trans (f7.mono fun _ m => nomatch m)).trans f8, ?_⟩
          have hrn7 := hrn.fx f7 (fun z => nomatch z) (fun q _ => ⟨(fun z => nomatch z), (fun z => nomatch z)⟩)
          have hs := hrn7.set (m := { r with x := (rightL mm t r.s).length }) hqa nd1
          have ef : taskF h1 n r = { r with x := (rightL mm t r.s).length } := by
            unfold taskF
            rw [k1, decide_eq_true e2]
            have es : scoreOf h1 r = ((rightL mm t r.s).length : Nat) := by
              unfold scoreOf
              rw [show h1.players = h.players from rfl, hmm, show h1.goals = putA h.goals n t from rfl, putA_lookup, if_pos e2]
            rw [es]
            cases r
            rfl
          rw [← ef, set_take h.runs i r hr0] at hs
          rw [ef] at hs
          exact hs
        · have e2 : ¬ r.g = n := ne_of_beq_false k2
          refine ⟨_, rfl, f, ?_⟩
          rw [← keep_take h.runs i r hr0 (by unfold taskF; rw [decide_eq_false e2, Bool.and_false, if_neg (by decide)])]
          exact hrn
      · refine ⟨_, rfl, f, ?_⟩
        rw [← keep_take h.runs i r hr0 (by unfold taskF; rw [k1, Bool.false_and, if_neg (by decide)])]
        exact hrn
    · obtain ⟨y4, rfl, f, hrn⟩ := hP
      rw [List.length_map, ha4.r.n, List.take_length, List.drop_length, List.append_nil] at hrn
      have L2 := ha4.setR f (fun _ m => m) hrn
      have ha5 := L2.at'
      obtain ⟨vs, w1, w2⟩ := ha5.w
      have hu5 := hu4.mv f (task_nol _)
      refine ⟨_, rfl, A.a, _, _, _, _, rfl, ha5.i.i, T.k_Hall, T.n_Hall_rows, rfl, .inl ⟨rfl, _, SqL.of w1⟩, _, rfl, _, rfl, by show 3 ≤ sizeLine; decide, fun v hv => ?_⟩
      have f6 : Fx [] H' (upd H' v (.tup [.str "task", .str n, u])) := Fx.new hv
      have hv6 : SqT K (upd H' v (.tup [.str "task", .str n, u])) v [.str "task", .str n, u] := SqT.of upd_same
      have ha6 := ha5.up f6
      have hu6 := hu5.ext f6
      have w16 := f6.to w1 fun z => nomatch z
      have w26 := w2.ext f6
      have bt := (f.to hb4 fun m => hbf (foot_tl (List.mem_append_left _ m)))
      have bt6 := f6.to bt fun z => nomatch z
      have L3 := (L1.trans L2).up f6
      generalize upd H' v (.tup [.str "task", .str n, u]) = H6 at f6 hv6 ha6 hu6 w16 w26 bt6 L3
      have hvl : vs.length = h.rows.length := by rw [w2.len, List.length_map]
      refine ⟨A.w, _, _, rfl, rfl, w16, ltW (m := vs.length) (by have := hok.wl; omega), ?_⟩
      have f7 : Fx [A.w] H6 (upd H6 A.w (.lst (vs ++ [.ref v]))) := Fx.set List.mem_cons_self (Chg.lst w16)
      have w27 := w26.snoc (d := Deed.d (.task n t)) (v := .ref v) (.tup hv6 (.cons (.str _) (.cons (.str _) (.cons hu6 .nil))))
      have L4 := ha6.setW f7 (ws := h.rows ++ [.task n t]) ⟨_, upd_same, by
        rw [List.map_append]
        have nn := deeds_nol (h.rows ++ [Deed.task n t])
        rw [List.map_append] at nn
        exact w27.mv f7 nn⟩
      have bt7 : upd H6 A.w (.lst (vs ++ [.ref v])) b = some (.dK bk) := by rw [upd_ne (fun z => hbf (by rw [z]; exact foot_w))]; exact bt6
      have L5 := L3.trans L4
      generalize upd H6 A.w (.lst (vs ++ [.ref v])) = H7 at L5 bt7
      have L6 : Led K H H7 A A d (doTask h n t) := L5
      refine ⟨_, rfl, A.a, A.dx, _, rfl, L6.at'.i.i, rfl, _, rfl, A, d, doTask h n t, b, bk, tableL h, rfl, L6.at', hok', bt7, table_any hbk, fun H8 p8 f8 hp8 => ?_⟩
      refine q H8 A p8 (L6.up f8) ⟨?_, hp8.2⟩ (fun m => L6.at'.there _ m hp8.1)
      exact L6.f.free hp8.1
end Mh
/-! MhHe -/
namespace Mh
open PySem PySem.Spec PyProof.Rows L2
theorem rd_len4 {K : PySem.W.Frag} {H : Hp} {A : HA} {d : Int} {h : HallM} (ha : HallAt K H A d h) {kvs : List (Key × V)} (e : H A.p = some (.dK kvs)) (hk : KvD K H kvs (playersD h)) : kvs.length = h.players.length := by
  rw [hk.len]
  unfold playersD
  rw [List.length_map]
theorem sc_Hall_machine : FnScope ["self", "name", "machine", "before"] ["self", "name", "machine"] (defScope s_Hall_machine) := ⟨rfl, rfl, rfl, by decide +kernel, rfl, by decide +kernel, by decide +kernel⟩
def spMachineH (K : PySem.W.Frag) : Sp := fun vs H Q _ => ∃ (A : HA) (d : Int) (h : HallM) (n : Str) (m : Mch) (u : V), vs = [.ref A.a, .str n, u] ∧ HallAt K H A d h ∧ h.ok ∧ Fresh h ∧ Can h (.machine n m) ∧ Dp K H u (machD m) ∧
  ∀ H' A' p, Led K H H' A A' d (doMachine h n m) → NewL K H H' p ((changesL (doMachine h n m) (tableL h)).map chgD) → p ∉ A'.foot → Q (.ref p) H'
theorem ok_Hall_machine {P : Program} {w : World} {K : PySem.W.Frag} {mg : Str → Option Value} {base : Heap} (T : Tx K mg) : MDef P w K mg base CX0 7 "Hall" "machine" ["self", "name", "machine"] (spMachineH K) := by
  obtain ⟨fd, F⟩ := T.d_Hall_machine
  have G_need_name := ok_need_name (P := P) (w := w) (base := base) T
  have G_need_machine := ok_need_machine (P := P) (w := w) (base := base) T
  have M_Hall_table := ok_Hall_table (P := P) (w := w) (base := base) T
  have M_Hall_changes := ok_Hall_changes (P := P) (w := w) (base := base) T
  refine ⟨_, fd, F.ok sc_Hall_machine (fun vs H Q E h => ?_) (fun cdv A outer s H vs Q E hr h => ?_), F.bindsN fun _ _ _ _ _ _ us hl => match us, hl with | [_, _, _], _ => rfl, T.k_Hall, T.m_Hall_machine⟩
  · obtain ⟨A, d, h, n, t, u, rfl, _⟩ := h
    rfl
  · obtain ⟨A, d, h, n, t, u, rfl, ha, hok, fr, hc, hu, q⟩ := h
    refine ⟨_, PSs.nox (pss_cons (ps_expr (pe_def G_need_name (hr.mono (by omega)) pass0 (pa_cons (pv 1) pa_nil)))
        (pss_cons (ps_expr (pe_def G_need_machine (hr.mono (by omega)) pass0 (pa_cons (pv 2) pa_nil)))
        (pss_cons (ps_if (pt_cmp (pc_din (hu_of hr) (pv 1) (pe_fld (pv 0) rfl)))
        (pss_one ps_never)
        pss_nil)
        (pss_cons (ps_if (pt_cmpR op_eq (pe_callB call_lenD (by rfl) T.f_len (by decide +kernel) (pa_cons (pe_fld (pv 0) rfl) pa_nil)) (gC T.c_MOST_MACHINES) (nomark _))
        (pss_one ps_never)
        pss_nil)
        (pss_cons (ps_set (i := 3) sc_Hall_machine.nd rfl (by first | exact Or.inl rfl | exact Or.inr rfl) (pe_mdef0 M_Hall_table (hr.mono (by omega)) pass0 (pv 0)))
        (pss_cons (ps_dput (hu_of hr) (pe_fld (pv 0) rfl) (pv 1) (pv 2) rfl)
        (pss_cons (ps_expr (pe_bm PySem.F.plainAttrs_list PySem.F.slot_list_append PySem.F.type_list_append mt_append (pe_fld (pv 0) rfl) (pa_cons (pe_tup (pa_cons pe_str (pa_cons (pv 1) (pa_cons (pv 2) pa_nil)))) pa_nil)))
        (pss_one (ps_ret (pe_mdef M_Hall_changes (hr.mono (by omega)) pass0 (pv 0) (pa_cons (pv 3) pa_nil))))))))))), ?_⟩
    have hc0 := hc
    obtain ⟨c1, c2, c3, c4⟩ := hc
    refine ⟨_, rfl, n, rfl, c1, fun H1 f1 => ?_⟩
    refine rd_needM rfl c2 (hu.ext f1) fun H2 f2 => ?_
    have f12 := f1.trans f2
    have ha2 := ha.up f12
    have hu2 := hu.ext f12
    obtain ⟨pk, p1, p2⟩ := ha2.p
    have hpl := rd_len4 ha2 p1 p2
    refine ⟨_, rfl, _, rfl, A.a, _, _, _, _, rfl, ha2.i.i, T.k_Hall, T.n_Hall_players, rfl, A.p, _, rfl, DGet.k (k := .inr n) p1, _, rfl, ifF (by rw [player_none p2 c3]; rfl) ?_⟩
    refine ⟨_, rfl, A.a, _, _, _, _, rfl, ha2.i.i, T.k_Hall, T.n_Hall_players, rfl, A.p, pk, rfl, p1, rd_eqI ⟨_, rfl, ifF ?_ ?_⟩⟩
    · have : (pk.length : Int) ≠ 6 := by omega
      simpa using this
    refine ⟨_, rfl, A.a, A.dx, _, rfl, ha2.i.i, rfl, A, d, h, rfl, ha2, hok, fun H3 b bk f3 hb hb3 hbk => ?_⟩
    have f13 := f12.trans f3
    have ha3 := ha.up f13
    have hu3 := hu.ext f13
    obtain ⟨pk, p1, p2⟩ := ha3.p
    have hpl := rd_len4 ha3 p1 p2
    refine ⟨_, rfl, _, rfl, A.a, _, _, _, _, rfl, ha3.i.i, T.k_Hall, T.n_Hall_players, rfl, _, rfl, A.p, _, rfl, DPut.k (k := .inr n) p1 (ltW (m := pk.length) (by have := hok.pl; omega)), ?_⟩
    have fg : Fx [A.p] H3 (upd H3 A.p (.dK (putK pk (.inr n) u))) := Fx.set List.mem_cons_self (Chg.dK p1)
    have L1 := ha3.setP fg (ps := putA h.players n t) ⟨_, upd_same, by rw [playersD_put]; exact (p2.put hu3).mv fg (by rw [← playersD_put]; exact machs_nol _)⟩
    have hb0 : H b = none := f12.free hb
    have hbf : b ∉ A.foot := fun m => ha.there _ m hb0
    have hb4 : upd H3 A.p (.dK (putK pk (.inr n) u)) b = some (.dK bk) := by rw [upd_ne (fun z => hbf (by rw [z]; exact foot_p))]; exact hb3
    have hu4 := hu3.mv fg (mach_nol _)
    replace L1 : Led K H (upd H3 A.p (.dK (putK pk (.inr n) u))) A A d { h with players := putA h.players n t } := L1.pre f13
    generalize upd H3 A.p (.dK (putK pk (.inr n) u)) = H4 at L1 hb4 hu4
    have ha5 := L1.at'
    have hok' := doMachine_ok hok fr hc0
    obtain ⟨vs, w1, w2⟩ := ha5.w
    refine ⟨_, rfl, A.a, _, _, _, _, rfl, ha5.i.i, T.k_Hall, T.n_Hall_rows, rfl, .inl ⟨rfl, _, SqL.of w1⟩, _, rfl, _, rfl, by show 3 ≤ sizeLine; decide, fun v hv => ?_⟩
    have f6 : Fx [] H4 (upd H4 v (.tup [.str "machine", .str n, u])) := Fx.new hv
    have hv6 : SqT K (upd H4 v (.tup [.str "machine", .str n, u])) v [.str "machine", .str n, u] := SqT.of upd_same
    have ha6 := ha5.up f6
    have hu6 := hu4.ext f6
    have w16 := f6.to w1 fun z => nomatch z
    have w26 := w2.ext f6
    have bt6 := f6.to hb4 fun z => nomatch z
    have L3 := L1.up f6
    generalize upd H4 v (.tup [.str "machine", .str n, u]) = H6 at f6 hv6 ha6 hu6 w16 w26 bt6 L3
    have hvl : vs.length = h.rows.length := by rw [w2.len, List.length_map]
    refine ⟨A.w, _, _, rfl, rfl, w16, ltW (m := vs.length) (by have := hok.wl; omega), ?_⟩
    have f7 : Fx [A.w] H6 (upd H6 A.w (.lst (vs ++ [.ref v]))) := Fx.set List.mem_cons_self (Chg.lst w16)
    have w27 := w26.snoc (d := Deed.d (.machine n t)) (v := .ref v) (.tup hv6 (.cons (.str _) (.cons (.str _) (.cons hu6 .nil))))
    have L4 := ha6.setW f7 (ws := h.rows ++ [.machine n t]) ⟨_, upd_same, by
      rw [List.map_append]
      have nn := deeds_nol (h.rows ++ [Deed.machine n t])
      rw [List.map_append] at nn
      exact w27.mv f7 nn⟩
    have bt7 : upd H6 A.w (.lst (vs ++ [.ref v])) b = some (.dK bk) := by rw [upd_ne (fun z => hbf (by rw [z]; exact foot_w))]; exact bt6
    have L5 := L3.trans L4
    generalize upd H6 A.w (.lst (vs ++ [.ref v])) = H7 at L5 bt7
    have L6 : Led K H H7 A A d (doMachine h n t) := L5
    refine ⟨_, rfl, A.a, A.dx, _, rfl, L6.at'.i.i, rfl, _, rfl, A, d, doMachine h n t, b, bk, tableL h, rfl, L6.at', hok', bt7, table_any hbk, fun H8 p8 f8 hp8 => ?_⟩
    refine q H8 A p8 (L6.up f8) ⟨?_, hp8.2⟩ (fun m => L6.at'.there _ m hp8.1)
    exact L6.f.free hp8.1
theorem sc_Hall_tell : FnScope ["self", "machine", "task", "seed", "score", "some", "k"] ["self", "machine", "task", "seed", "score"] (defScope s_Hall_tell) := ⟨rfl, rfl, rfl, by decide +kernel, rfl, by decide +kernel, by decide +kernel⟩
def spTell (K : PySem.W.Frag) : Sp := fun vs H Q _ => ∃ (A : HA) (d : Int) (h : HallM) (n g : Str) (s x : Int), vs = [.ref A.a, .str n, .str g, .int s, .int x] ∧ HallAt K H A d h ∧ h.ok ∧ Fresh h ∧ Can h (.tell n g s x) ∧
  ∀ H' A', Led K H H' A A' d (doTell h n g s x) → Q (.int (h.runs.length : Nat)) H'
theorem ok_Hall_tell {P : Program} {w : World} {K : PySem.W.Frag} {mg : Str → Option Value} {base : Heap} (T : Tx K mg) : MDef P w K mg base CX0 3 "Hall" "tell" ["self", "machine", "task", "seed", "score"] (spTell K) := by
  obtain ⟨fd, F⟩ := T.d_Hall_tell
  have G_need_seed := ok_need_seed (P := P) (w := w) (base := base) T
  have G_is_number := ok_is_number (P := P) (w := w) (base := base) T
  have M_Hall_need_player := ok_Hall_need_player (P := P) (w := w) (base := base) T
  have M_Hall_counting := ok_Hall_counting (P := P) (w := w) (base := base) T
  have M_Run_init := ok_Run_init (P := P) (w := w) (base := base) T
  refine ⟨_, fd, F.ok sc_Hall_tell (fun vs H Q E h => ?_) (fun cdv A outer s H vs Q E hr h => ?_), F.bindsN fun _ _ _ _ _ _ us hl => match us, hl with | [_, _, _, _, _], _ => rfl, T.k_Hall, T.m_Hall_tell⟩
  · obtain ⟨A, d, h, n, g, s, x, rfl, _⟩ := h
    rfl
  · obtain ⟨A, d, h, n, g, sd, x, rfl, ha, hok, fr, hc, q⟩ := h
    refine ⟨_, PSs.nox (pss_cons (ps_expr (pe_mdef M_Hall_need_player (hr.mono (by omega)) pass0 (pv 0) (pa_cons (pv 1) pa_nil)))
        (pss_cons (ps_if (PW.pt (pw_or (pt_not (pt_val (pe_callB call_isiD (by rfl) T.f_isinstance (by decide +kernel) (pa_cons (pv 2) (pa_cons (gT (n := "str") T.f_str) pa_nil))))) (pw_or1 (pt_cmp (pc_dnotin (hu_of hr) (pv 2) (pe_fld (pv 0) rfl))))))
        (pss_one ps_never)
        pss_nil)
        (pss_cons (ps_expr (pe_def G_need_seed (hr.mono (by omega)) pass0 (pa_cons (pv 3) pa_nil)))
        (pss_cons (ps_if (pt_not (pt_val (pe_def G_is_number (hr.mono (by omega)) pass0 (pa_cons (pv 4) (pa_cons pe_int (pa_cons (pe_callB call_len_seq (by rfl) T.f_len (by decide +kernel) (pa_cons (pe_ix ix_tup (pe_dget (hu_of hr) (pe_fld (pv 0) rfl) (pv 2) (fun _ _ => rfl)) pe_int (fun _ _ => rfl)) pa_nil)) pa_nil))))))
        (pss_one ps_never)
        pss_nil)
        (pss_cons (ps_set (i := 5) sc_Hall_tell.nd rfl (by first | exact Or.inl rfl | exact Or.inr rfl) (pe_mdef M_Hall_counting (hr.mono (by omega)) pass0 (pv 0) (pa_cons (pv 1) (pa_cons (pv 2) pa_nil))))
        (pss_cons (ps_if (pt_cmpR (op_neD hr.units) (pe_lc (own := [("k", 6)]) (g := (gName 6)) (tt := _) rfl sc_Hall_tell.nd (pi_list (pv 5)) (blkOk_by (own := [("k", 6)]) (N := ["self", "machine", "task", "seed", "score", "some", "k"]) (sc := defScope s_Hall_tell) (by decide +kernel)) (fun _ _ _ _ _ => pg_name (i := 6) sc_Hall_tell.nd rfl (by first | exact Or.inl rfl | exact Or.inr rfl)) (fun _ _ _ _ _ => pts_one (pt_cmpR op_eq (kpe_fld (K := K) rfl (pe_ix (kix_list (K := K) rfl) (kpe_fld (K := K) rfl (pv 0) rfl) (pv 6) (fun _ _ => rfl)) rfl) (pv 3) (nomark _))) (fun _ _ _ _ _ => (pv 6))) (pe_lst pa_nil) (nomark _))
        (pss_one ps_never)
        pss_nil)
        (pss_cons (ps_if (pt_cmpR op_eq (pe_callB call_len_seq (by rfl) T.f_len (by decide +kernel) (pa_cons (pv 5) pa_nil)) (gC T.c_MOST_RUNS) (nomark _))
        (pss_one ps_never)
        pss_nil)
        (pss_cons (ps_expr (pe_bm PySem.F.plainAttrs_list PySem.F.slot_list_append PySem.F.type_list_append mt_append (pe_fld (pv 0) rfl) (pa_cons (pe_mdmk M_Run_init (hr.mono (by omega)) pass0 (pa_cons (pv 1) (pa_cons (pv 2) (pa_cons (pv 3) (pa_cons (pv 4) pa_nil))))) pa_nil)))
        (pss_cons (ps_expr (pe_bm PySem.F.plainAttrs_list PySem.F.slot_list_append PySem.F.type_list_append mt_append (pe_fld (pv 0) rfl) (pa_cons (pe_tup (pa_cons pe_str (pa_cons (pv 1) (pa_cons (pv 2) (pa_cons (pv 3) (pa_cons (pv 4) pa_nil)))))) pa_nil)))
        (pss_one (ps_ret (pe_op op_sub (pe_callB call_len_seq (by rfl) T.f_len (by decide +kernel) (pa_cons (pe_fld (pv 0) rfl) pa_nil)) pe_int)))))))))))), ?_⟩
    have hc0 := hc
    obtain ⟨⟨mm, hmm⟩, ⟨tt, htt, x0, x1⟩, hs, tk, rm⟩ := hc
    obtain ⟨gk, g1, g2⟩ := ha.g
    obtain ⟨vt, hvt, dvt⟩ := goal_val g2 htt
    refine ⟨_, rfl, A.a, A.dx, _, rfl, ha.i.i, rfl, _, rfl, A, d, h, n, mm, rfl, ha, hmm, ?_⟩
    refine rd_isD rfl (by decide) (.str g) ⟨_, rfl, ifF rfl ?_⟩
    refine ⟨_, rfl, _, rfl, A.a, _, _, _, _, rfl, ha.i.i, T.k_Hall, T.n_Hall_goals, rfl, A.g, _, rfl, DGet.k (k := .inr g) g1, _, rfl, ifF (by rw [hvt]; rfl) ?_⟩
    refine ⟨_, rfl, sd, rfl, hs, ?_⟩
    obtain ⟨ta, w0, w1, rfl, hta, k0, k1⟩ := dvt.tup2
    cases k1
    obtain ⟨tb, xs, rfl, htb, hxs⟩ := k0.tupI
    have hxl : xs.length = tt.rows.length := by rw [hxs.len, List.length_map]
    refine ⟨_, rfl, _, rfl, A.a, _, _, _, _, rfl, ha.i.i, T.k_Hall, T.n_Hall_goals, rfl, _, rfl, A.g, _, rfl, by rw [← hvt]; exact DGet.k (k := .inr g) g1, ta, _, 0, _, rfl, rfl, hta, atI_nat (j := 0) rfl, tb, xs, rfl, .inr htb, ⟨_, .int x, 0, (xs.length : Nat), rfl, .int x, _, rfl, ifF ?_ ?_⟩⟩
    · have : isNum (.int x) 0 ((xs.length : Nat) : Int) = true := by
        rw [hxl]
        show (decide (0 ≤ x) && decide (x ≤ _)) = true
        rw [decide_eq_true x0, decide_eq_true x1]
        rfl
      rw [this]
      rfl
    refine ⟨_, rfl, A.a, A.dx, _, rfl, ha.i.i, rfl, _, rfl, _, rfl, A, d, h.runs, n, g, rfl, ha.i, ha.r, hok.rl, fun H1 c f1 hcn hc1 => ?_⟩
    have ha1 := ha.up f1
    refine ⟨_, rfl, c, rfl, ⟨_, SqL.of hc1⟩, fun D hD => lc_rel (walk_list (xs := (cntL h.runs n g).map natV)) (fun j acc H5 => Fx [] H1 H5 ∧ acc = []) ⟨Fx.new hD, rfl⟩ (fun j acc H5 r => SqL.of (r.1.to hc1 fun m => nomatch m)) (fun j acc y H5 H6 hj hl hDa r yy => ?_) (fun acc H5 hl hDa r => ?_)⟩
    · obtain ⟨f5, rfl⟩ := r
      obtain ⟨rfl, hx⟩ := yy
      rw [List.getElem?_map] at hx
      obtain ⟨k, hk, rfl⟩ := Option.map_eq_some_iff.mp hx
      have hkm := List.mem_of_getElem? hk
      have hklt : k < h.runs.length := cnt_lt hkm
      have ha5 := ha1.up f5
      obtain ⟨r, hr0⟩ : ∃ r, h.runs[k]? = some r := ⟨_, List.getElem?_eq_getElem hklt⟩
      obtain ⟨qa, hqa⟩ : ∃ qa, A.ra[k]? = some qa := ⟨_, List.getElem?_eq_getElem (by rw [ha.r.n]; exact hklt)⟩
      have q1 := (ha5.r.i k qa r hqa hr0).1
      refine ⟨rfl, _, rfl, A.a, _, _, _, _, rfl, ha5.i.i, T.k_Hall, T.n_Hall_runs, rfl, _, rfl, A.r, _, ((k : Nat) : Int), .ref qa.1, rfl, rfl, SqL.of ha5.r.l, atI_nat (by rw [List.getElem?_map, hqa]; rfl), qa.1, _, _, _, _, rfl, q1, T.k_Run, T.n_Run_seed, rfl, _, rfl, rfl, _, rfl, ifF ?_ (Pvl.skip hl hDa ⟨f5, rfl⟩)⟩
      have hne := tk k hkm r hr0
      rw [dec_int]
      simpa using hne
    · obtain ⟨f5, rfl⟩ := r
      refine ⟨by show 0 ≤ sizeLine; decide, fun e he => ne_nilN K (ns := []) (by rw [upd_ne (ne_of_none hDa he)]; exact hDa) upd_same ⟨_, rfl, ifF rfl ?_⟩⟩
      have f6 := (f1.trans f5).trans (Fx.new (M := []) (o := HO.lst []) he)
      have hc6 := (f5.trans (Fx.new (M := []) (o := HO.lst []) he)).to hc1 fun z => nomatch z
      generalize upd H5 e (.lst []) = H6 at f6 hc6
      have ha6 := ha.up f6
      refine ⟨_, rfl, c, _, rfl, .inl (SqL.of hc6), rd_eqI ⟨_, rfl, ifF ?_ ?_⟩⟩
      · rw [List.length_map]
        have : (((cntL h.runs n g).length : Nat) : Int) ≠ 5 := by omega
        simpa using this
      refine ⟨_, rfl, A.a, _, _, _, _, rfl, ha6.i.i, T.k_Hall, T.n_Hall_runs, rfl, .inl ⟨rfl, _, SqL.of ha6.r.l⟩, _, rfl, _, rfl, _, rfl, _, rfl, fun y dx hy hdx ndx => ?_⟩
      refine ⟨y, dx, n, g, sd, x, rfl, upd_same, rfl, ?_⟩
      rw [upd_upd]
      have fa : Fx [] H6 (upd (upd H6 dx (.own y)) y (.ins (He.ga K "Run") dx (runF ⟨n, g, sd, x, true⟩))) := (Fx.new hdx).trans (Fx.new (by rw [upd_ne ndx.symm]; exact hy))
      have ey : upd (upd H6 dx (.own y)) y (.ins (He.ga K "Run") dx (runF ⟨n, g, sd, x, true⟩)) y = some (.ins (He.ga K "Run") dx (runF ⟨n, g, sd, x, true⟩)) := upd_same
      have edx : upd (upd H6 dx (.own y)) y (.ins (He.ga K "Run") dx (runF ⟨n, g, sd, x, true⟩)) dx = some (.own y) := by rw [upd_ne ndx]; exact upd_same
      generalize upd (upd H6 dx (.own y)) y (.ins (He.ga K "Run") dx (runF ⟨n, g, sd, x, true⟩)) = H7 at fa ey edx
      have r7 := fa.to ha6.r.l fun z => nomatch z
      have hral : A.ra.length = h.runs.length := ha6.r.n
      refine ⟨A.r, _, _, rfl, rfl, r7, ltW (m := (A.ra.map fun q => V.ref q.1).length) (by rw [List.length_map, hral]; have := hok.rl; omega), ?_⟩
      have fr8 : Fx [A.r] H7 (upd H7 A.r (.lst ((A.ra.map fun q => V.ref q.1) ++ [.ref y]))) := Fx.set List.mem_cons_self (Chg.lst r7)
      have nyr : y ≠ A.r := fun z => by rw [z] at hy; exact ha6.there _ foot_r hy
      have ndr : dx ≠ A.r := fun z => by rw [z] at hdx; exact ha6.there _ foot_r hdx
      have L1 := ha6.addR (q := y) (dx := dx) (m := ⟨n, g, sd, x, true⟩) ((fa.mono fun _ m => nomatch m).trans fr8) hy hdx ndx.symm (by rw [upd_same, List.map_append]; rfl) (by rw [upd_ne nyr]; exact ey) (by rw [upd_ne ndr]; exact edx)
      generalize upd H7 A.r (.lst ((A.ra.map fun q => V.ref q.1) ++ [.ref y])) = H8 at L1
      replace L1 := L1.pre f6
      have ha8 := L1.at'
      obtain ⟨vs, w1, w2⟩ := ha8.w
      refine ⟨_, rfl, A.a, _, _, _, _, rfl, ha8.i.i, T.k_Hall, T.n_Hall_rows, rfl, .inl ⟨rfl, _, SqL.of w1⟩, _, rfl, _, rfl, _, rfl, _, rfl, by show 5 ≤ sizeLine; decide, fun v hv => ?_⟩
      have f9 : Fx [] H8 (upd H8 v (.tup [.str "tell", .str n, .str g, .int sd, .int x])) := Fx.new hv
      have hv9 : SqT K (upd H8 v (.tup [.str "tell", .str n, .str g, .int sd, .int x])) v [.str "tell", .str n, .str g, .int sd, .int x] := SqT.of upd_same
      have ha9 := ha8.up f9
      have w19 := f9.to w1 fun z => nomatch z
      have w29 := w2.ext f9
      replace L1 := L1.up f9
      generalize upd H8 v (.tup [.str "tell", .str n, .str g, .int sd, .int x]) = H9 at f9 hv9 ha9 w19 w29 L1
      have hvl : vs.length = h.rows.length := by rw [w2.len, List.length_map]
      refine ⟨A.w, _, _, rfl, rfl, w19, ltW (m := vs.length) (by have := hok.wl; omega), ?_⟩
      have f10 : Fx [A.w] H9 (upd H9 A.w (.lst (vs ++ [.ref v]))) := Fx.set List.mem_cons_self (Chg.lst w19)
      have w210 := w29.snoc (d := Deed.d (.tell n g sd x)) (v := .ref v) (.tup hv9 (.cons (.str _) (.cons (.str _) (.cons (.str _) (.cons (.int _) (.cons (.int _) .nil))))))
      have L4 := ha9.setW f10 (ws := h.rows ++ [.tell n g sd x]) ⟨_, upd_same, by
        rw [List.map_append]
        have nn := deeds_nol (h.rows ++ [Deed.tell n g sd x])
        rw [List.map_append] at nn
        exact w210.mv f10 nn⟩
      have L5 := L1.trans L4
      generalize upd H9 A.w (.lst (vs ++ [.ref v])) = H10 at L5
      refine ⟨_, rfl, A.a, _, _, _, _, rfl, L5.at'.i.i, T.k_Hall, T.n_Hall_runs, rfl, A.r, _, rfl, .inl (SqL.of L5.at'.r.l), _, _, rfl, rfl, ?_⟩
      have e : ((((A.ra ++ [(y, dx)]).map fun q => V.ref q.1).length : Nat) : Int) - 1 = (h.runs.length : Nat) := by
        rw [List.length_map, List.length_append, hral]
        simp
      show Q (V.int (((((A.ra ++ [(y, dx)]).map fun q => V.ref q.1).length : Nat) : Int) - 1)) H10
      rw [e]
      exact q H10 _ L5
end Mh
/-! MhHi -/
namespace Mh
open PySem PySem.Spec PyProof.Rows L2
theorem sc_Hall_init : FnScope ["self"] ["self"] (defScope s_Hall_init) := ⟨rfl, rfl, rfl, by decide +kernel, rfl, by decide +kernel, by decide +kernel⟩
def spHallInit (K : PySem.W.Frag) : Sp := fun vs H Q _ => ∃ (x dx : Addr), vs = [.ref x] ∧ H x = some (.ins (He.ga K "Hall") dx []) ∧ H dx = some (.own x) ∧
  ∀ H' A, A.a = x → A.dx = dx → HallAt K H' A 0 hall0 → Fx [x] H H' → (∀ z ∈ A.foot, z = x ∨ z = dx ∨ H z = none) → Q .non H'
theorem ok_Hall_init {P : Program} {w : World} {K : PySem.W.Frag} {mg : Str → Option Value} {base : Heap} (T : Tx K mg) : MkDef P w K mg base CX0 1 "Hall" "__init__" ["self"] (spHallInit K) := by
  obtain ⟨fd, F⟩ := T.d_Hall_init
  refine ⟨_, fd, F.ok sc_Hall_init (fun vs H Q E h => ?_) (fun cdv A outer s H vs Q E hr h => ?_), F.bindsN fun _ _ _ _ _ _ us hl => match us, hl with | [_], _ => rfl, T.k_Hall, T.mk_Hall, T.g_Hall⟩
  · obtain ⟨x, dx, rfl, _⟩ := h
    rfl
  · obtain ⟨x, dx, rfl, hx, hdx, q⟩ := h
    refine ⟨_, PSs.nox (pss_cons (ps_fld (pv 0) pe_dnewK rfl)
        (pss_cons (ps_fld (pv 0) pe_dnewK rfl)
        (pss_cons (ps_fld (pv 0) (pe_lst pa_nil) rfl)
        (pss_cons (ps_fld (pv 0) (pe_lst pa_nil) rfl)
        (pss_cons (ps_fld (pv 0) (pe_lst pa_nil) rfl)
        (pss_one (ps_fld (pv 0) pe_int rfl))))))), ?_⟩
    have st : ∀ {H1 : Hp} {fs : List (Str × V)} {f : Str} {v : V}, H1 x = some (.ins (He.ga K "Hall") dx fs) → Fx [x] H1 (upd H1 x (.ins (He.ga K "Hall") dx (putF f v fs))) := fun h1 => Fx.set List.mem_cons_self (Chg.ins h1)
    have nx : ∀ {a : Addr} {H1 : Hp}, H1 a = none → (∃ o, H1 x = some o) → a ≠ x := fun h1 ⟨o, h2⟩ z => by rw [z, h2] at h1; cases h1
    intro g hg
    have g1 : Fx [] H (upd H g (.dK [])) := Fx.new hg
    have x1 := g1.to hx fun z => nomatch z
    refine ⟨_, rfl, x, _, dx, [], rfl, x1, T.k_Hall, T.n_Hall_goals, by decide, ?_⟩
    have F1 : Fx [x] H (upd (upd H g (.dK [])) x (.ins (He.ga K "Hall") dx (putF "goals" (.ref g) []))) := (g1.mono fun _ m => nomatch m).trans (st x1)
    have G1 : upd (upd H g (.dK [])) x (.ins (He.ga K "Hall") dx (putF "goals" (.ref g) [])) g = some (.dK []) := by rw [upd_ne (nx hg ⟨_, hx⟩)]; exact upd_same
    have X1 : upd (upd H g (.dK [])) x (.ins (He.ga K "Hall") dx (putF "goals" (.ref g) [])) x = some (.ins (He.ga K "Hall") dx [("goals", .ref g)]) := upd_same
    generalize upd (upd H g (.dK [])) x (.ins (He.ga K "Hall") dx (putF "goals" (.ref g) [])) = H1 at F1 G1 X1
    intro p hp
    have pH : H p = none := F1.free hp
    have g2 : Fx [] H1 (upd H1 p (.dK [])) := Fx.new hp
    have x2 := g2.to X1 fun z => nomatch z
    have G2 := g2.to G1 fun z => nomatch z
    refine ⟨_, rfl, x, _, dx, _, rfl, x2, T.k_Hall, T.n_Hall_players, Nat.le_of_ble_eq_true rfl, ?_⟩
    have npx := nx hp ⟨_, X1⟩
    have ngx := nx hg ⟨_, hx⟩
    have F2 : Fx [x] H (upd (upd H1 p (.dK [])) x (.ins (He.ga K "Hall") dx (putF "players" (.ref p) [("goals", .ref g)]))) := (F1.trans (g2.mono fun _ m => nomatch m)).trans (st x2)
    have G2' : upd (upd H1 p (.dK [])) x (.ins (He.ga K "Hall") dx (putF "players" (.ref p) [("goals", .ref g)])) g = some (.dK []) := by rw [upd_ne ngx]; exact G2
    have P2 : upd (upd H1 p (.dK [])) x (.ins (He.ga K "Hall") dx (putF "players" (.ref p) [("goals", .ref g)])) p = some (.dK []) := by rw [upd_ne npx]; exact upd_same
    have X2 : upd (upd H1 p (.dK [])) x (.ins (He.ga K "Hall") dx (putF "players" (.ref p) [("goals", .ref g)])) x = some (.ins (He.ga K "Hall") dx [("goals", .ref g), ("players", .ref p)]) := upd_same
    have ngp : g ≠ p := fun z => by rw [← z, G1] at hp; cases hp
    generalize upd (upd H1 p (.dK [])) x (.ins (He.ga K "Hall") dx (putF "players" (.ref p) [("goals", .ref g)])) = H2 at F2 G2' P2 X2
    clear G1 X1 g1 g2 x1 x2 G2 F1
    refine ⟨by show 0 ≤ sizeLine; decide, fun r hr => ?_⟩
    have rH : H r = none := F2.free hr
    have g3 : Fx [] H2 (upd H2 r (.lst [])) := Fx.new hr
    have x3 := g3.to X2 fun z => nomatch z
    refine ⟨_, rfl, x, _, dx, _, rfl, x3, T.k_Hall, T.n_Hall_runs, Nat.le_of_ble_eq_true rfl, ?_⟩
    have nrx := nx hr ⟨_, X2⟩
    have F3 : Fx [x] H (upd (upd H2 r (.lst [])) x (.ins (He.ga K "Hall") dx (putF "runs" (.ref r) [("goals", .ref g), ("players", .ref p)]))) := (F2.trans (g3.mono fun _ m => nomatch m)).trans (st x3)
    have G3 : upd (upd H2 r (.lst [])) x (.ins (He.ga K "Hall") dx (putF "runs" (.ref r) [("goals", .ref g), ("players", .ref p)])) g = some (.dK []) := by rw [upd_ne ngx]; exact g3.to G2' fun z => nomatch z
    have P3 : upd (upd H2 r (.lst [])) x (.ins (He.ga K "Hall") dx (putF "runs" (.ref r) [("goals", .ref g), ("players", .ref p)])) p = some (.dK []) := by rw [upd_ne npx]; exact g3.to P2 fun z => nomatch z
    have R3 : upd (upd H2 r (.lst [])) x (.ins (He.ga K "Hall") dx (putF "runs" (.ref r) [("goals", .ref g), ("players", .ref p)])) r = some (.lst []) := by rw [upd_ne nrx]; exact upd_same
    have X3 : upd (upd H2 r (.lst [])) x (.ins (He.ga K "Hall") dx (putF "runs" (.ref r) [("goals", .ref g), ("players", .ref p)])) x = some (.ins (He.ga K "Hall") dx [("goals", .ref g), ("players", .ref p), ("runs", .ref r)]) := upd_same
    have ngr : g ≠ r := fun z => by rw [← z, G2'] at hr; cases hr
    have npr : p ≠ r := fun z => by rw [← z, P2] at hr; cases hr
    generalize upd (upd H2 r (.lst [])) x (.ins (He.ga K "Hall") dx (putF "runs" (.ref r) [("goals", .ref g), ("players", .ref p)])) = H3 at F3 G3 P3 R3 X3
    clear G2' P2 X2 g3 x3 F2
    refine ⟨by show 0 ≤ sizeLine; decide, fun s hs => ?_⟩
    have sH : H s = none := F3.free hs
    have g4 : Fx [] H3 (upd H3 s (.lst [])) := Fx.new hs
    have x4 := g4.to X3 fun z => nomatch z
    refine ⟨_, rfl, x, _, dx, _, rfl, x4, T.k_Hall, T.n_Hall_sheets, Nat.le_of_ble_eq_true rfl, ?_⟩
    have nsx := nx hs ⟨_, X3⟩
    have F4 : Fx [x] H (upd (upd H3 s (.lst [])) x (.ins (He.ga K "Hall") dx (putF "sheets" (.ref s) [("goals", .ref g), ("players", .ref p), ("runs", .ref r)]))) := (F3.trans (g4.mono fun _ m => nomatch m)).trans (st x4)
    have G4 : upd (upd H3 s (.lst [])) x (.ins (He.ga K "Hall") dx (putF "sheets" (.ref s) [("goals", .ref g), ("players", .ref p), ("runs", .ref r)])) g = some (.dK []) := by rw [upd_ne ngx]; exact g4.to G3 fun z => nomatch z
    have P4 : upd (upd H3 s (.lst [])) x (.ins (He.ga K "Hall") dx (putF "sheets" (.ref s) [("goals", .ref g), ("players", .ref p), ("runs", .ref r)])) p = some (.dK []) := by rw [upd_ne npx]; exact g4.to P3 fun z => nomatch z
    have R4 : upd (upd H3 s (.lst [])) x (.ins (He.ga K "Hall") dx (putF "sheets" (.ref s) [("goals", .ref g), ("players", .ref p), ("runs", .ref r)])) r = some (.lst []) := by rw [upd_ne nrx]; exact g4.to R3 fun z => nomatch z
    have S4 : upd (upd H3 s (.lst [])) x (.ins (He.ga K "Hall") dx (putF "sheets" (.ref s) [("goals", .ref g), ("players", .ref p), ("runs", .ref r)])) s = some (.lst []) := by rw [upd_ne nsx]; exact upd_same
    have X4 : upd (upd H3 s (.lst [])) x (.ins (He.ga K "Hall") dx (putF "sheets" (.ref s) [("goals", .ref g), ("players", .ref p), ("runs", .ref r)])) x = some (.ins (He.ga K "Hall") dx [("goals", .ref g), ("players", .ref p), ("runs", .ref r), ("sheets", .ref s)]) := upd_same
    have ngs : g ≠ s := fun z => by rw [← z, G3] at hs; cases hs
    have nps : p ≠ s := fun z => by rw [← z, P3] at hs; cases hs
    have nrs : r ≠ s := fun z => by rw [← z, R3] at hs; cases hs
    generalize upd (upd H3 s (.lst [])) x (.ins (He.ga K "Hall") dx (putF "sheets" (.ref s) [("goals", .ref g), ("players", .ref p), ("runs", .ref r)])) = H4 at F4 G4 P4 R4 S4 X4
    clear G3 P3 R3 X3 g4 x4 F3
    refine ⟨by show 0 ≤ sizeLine; decide, fun w hw => ?_⟩
    have wH : H w = none := F4.free hw
    have g5 : Fx [] H4 (upd H4 w (.lst [])) := Fx.new hw
    have x5 := g5.to X4 fun z => nomatch z
    refine ⟨_, rfl, x, _, dx, _, rfl, x5, T.k_Hall, T.n_Hall_rows, Nat.le_of_ble_eq_true rfl, ?_⟩
    have nwx := nx hw ⟨_, X4⟩
    refine ⟨_, rfl, x, _, dx, _, rfl, upd_same, T.k_Hall, T.n_Hall_dealing, Nat.le_of_ble_eq_true rfl, ?_⟩
    rw [upd_upd]
    have e0 : (HO.ins (He.ga K "Hall") dx (putF "dealing" (.int 0) (putF "rows" (.ref w) [("goals", .ref g), ("players", .ref p), ("runs", .ref r), ("sheets", .ref s)]))) = .ins (He.ga K "Hall") dx (hallF ⟨x, dx, g, p, r, s, w, [], []⟩ 0) := rfl
    rw [e0]
    have F5 : Fx [x] H (upd (upd H4 w (.lst [])) x (.ins (He.ga K "Hall") dx (hallF ⟨x, dx, g, p, r, s, w, [], []⟩ 0))) := (F4.trans (g5.mono fun _ m => nomatch m)).trans (Fx.set List.mem_cons_self (Chg.ins x5))
    have G5 : upd (upd H4 w (.lst [])) x (.ins (He.ga K "Hall") dx (hallF ⟨x, dx, g, p, r, s, w, [], []⟩ 0)) g = some (.dK []) := by rw [upd_ne ngx]; exact g5.to G4 fun z => nomatch z
    have P5 : upd (upd H4 w (.lst [])) x (.ins (He.ga K "Hall") dx (hallF ⟨x, dx, g, p, r, s, w, [], []⟩ 0)) p = some (.dK []) := by rw [upd_ne npx]; exact g5.to P4 fun z => nomatch z
    have R5 : upd (upd H4 w (.lst [])) x (.ins (He.ga K "Hall") dx (hallF ⟨x, dx, g, p, r, s, w, [], []⟩ 0)) r = some (.lst []) := by rw [upd_ne nrx]; exact g5.to R4 fun z => nomatch z
    have S5 : upd (upd H4 w (.lst [])) x (.ins (He.ga K "Hall") dx (hallF ⟨x, dx, g, p, r, s, w, [], []⟩ 0)) s = some (.lst []) := by rw [upd_ne nsx]; exact g5.to S4 fun z => nomatch z
    have W5 : upd (upd H4 w (.lst [])) x (.ins (He.ga K "Hall") dx (hallF ⟨x, dx, g, p, r, s, w, [], []⟩ 0)) w = some (.lst []) := by rw [upd_ne nwx]; exact upd_same
    have X5 : upd (upd H4 w (.lst [])) x (.ins (He.ga K "Hall") dx (hallF ⟨x, dx, g, p, r, s, w, [], []⟩ 0)) x = some (.ins (He.ga K "Hall") dx (hallF ⟨x, dx, g, p, r, s, w, [], []⟩ 0)) := upd_same
    have ngw : g ≠ w := fun z => by rw [← z, G4] at hw; cases hw
    have npw : p ≠ w := fun z => by rw [← z, P4] at hw; cases hw
    have nrw : r ≠ w := fun z => by rw [← z, R4] at hw; cases hw
    have nsw : s ≠ w := fun z => by rw [← z, S4] at hw; cases hw
    generalize upd (upd H4 w (.lst [])) x (.ins (He.ga K "Hall") dx (hallF ⟨x, dx, g, p, r, s, w, [], []⟩ 0)) = H5 at F5 G5 P5 R5 S5 W5 X5
    have nxd : x ≠ dx := fun z => by rw [z, hdx] at hx; cases hx
    have D5 := F5.to hdx (n1 nxd.symm)
    have nd : ∀ {a : Addr}, H a = none → a ≠ dx := fun h1 z => by rw [z, hdx] at h1; cases h1
    refine q H5 ⟨x, dx, g, p, r, s, w, [], []⟩ rfl rfl ⟨⟨X5, D5⟩, ⟨R5, rfl, fun k q m h1 => by simp at h1⟩, ⟨[], G5, .nil⟩, ⟨[], P5, .nil⟩, ⟨S5, rfl, fun k q m h1 => by simp at h1⟩, ⟨[], W5, .nil⟩, HA.nd_iff.mpr ?_⟩ F5 ?_
    · exact ⟨⟨nxd, ngx.symm, npx.symm, nrx.symm, nsx.symm, nwx.symm, (fun m => nomatch m)⟩, ⟨(nd hg).symm, (nd pH).symm, (nd rH).symm, (nd sH).symm, (nd wH).symm, (fun m => nomatch m)⟩, ⟨ngp, ngr, ngs, ngw, (fun m => nomatch m)⟩, ⟨npr, nps, npw, (fun m => nomatch m)⟩, ⟨nrs, nrw, (fun m => nomatch m)⟩, ⟨nsw, (fun m => nomatch m)⟩, (fun m => nomatch m), List.nodup_nil⟩
    · intro z m
      unfold HA.foot at m
      simp only [List.map_nil, List.nil_append, List.mem_cons, List.mem_nil_iff, or_false] at m
      rcases m with rfl | rfl | rfl | rfl | rfl | rfl | rfl
      · exact .inl rfl
      · exact .inr (.inl rfl)
      · exact .inr (.inr hg)
      · exact .inr (.inr pH)
      · exact .inr (.inr rH)
      · exact .inr (.inr sH)
      · exact .inr (.inr wH)
end Mh
/-! MhHoD -/
namespace Mh
open PySem PySem.Spec PyProof.Rows L2
theorem sc_Hall_deeds : FnScope ["self"] ["self"] (defScope s_Hall_deeds) := ⟨rfl, rfl, rfl, by decide +kernel, rfl, by decide +kernel, by decide +kernel⟩
def spDeeds (K : PySem.W.Frag) : Sp := fun vs H Q _ => ∃ (A : HA) (d : Int) (h : HallM), vs = [.ref A.a] ∧ HallAt K H A d h ∧
  ∀ H' p, Fx [] H H' → NewL K H H' p (h.rows.map Deed.d) → Q (.ref p) H'
theorem ok_Hall_deeds {P : Program} {w : World} {K : PySem.W.Frag} {mg : Str → Option Value} {base : Heap} (T : Tx K mg) : MDef P w K mg base CX0 1 "Hall" "deeds" ["self"] (spDeeds K) := by
  obtain ⟨fd, F⟩ := T.d_Hall_deeds
  refine ⟨_, fd, F.ok sc_Hall_deeds (fun vs H Q E h => ?_) (fun cdv A outer s H vs Q E hr h => ?_), F.bindsN fun _ _ _ _ _ _ us hl => match us, hl with | [_], _ => rfl, T.k_Hall, T.m_Hall_deeds⟩
  · obtain ⟨A, d, h, rfl, _⟩ := h
    rfl
  · obtain ⟨A, d, h, rfl, ha, q⟩ := h
    refine ⟨_, PSs.nox (pss_one (ps_ret (pe_callTy call_list_of (by rfl) T.f_list (by decide +kernel) (pa_cons (pe_fld (pv 0) rfl) pa_nil)))), ?_⟩
    obtain ⟨vs, w1, w2⟩ := ha.w
    refine ⟨_, rfl, A.a, _, _, _, _, rfl, ha.i.i, T.k_Hall, T.n_Hall_rows, rfl, A.w, vs, rfl, .inl (SqL.of w1), fun l hl => ?_⟩
    have f : Fx [] H (upd H l (.lst vs)) := Fx.new hl
    exact q _ l f ⟨hl, vs, upd_same, w2.mv f (deeds_nol _)⟩
end Mh
/-! MhAns -/
namespace Mh
open PySem PySem.Spec PyProof.Rows L2
theorem sc_answered : FnScope ["machine", "question", "seed"] ["machine", "question", "seed"] (defScope s_answered) := ⟨rfl, rfl, rfl, by decide +kernel, rfl, by decide +kernel, by decide +kernel⟩
def spAnswered (K : PySem.W.Frag) : Sp := fun vs H Q _ => ∃ v m q s, vs = [v, .int q, .int s] ∧ Dp K H v (machD m) ∧ m.ok ∧ (0 ≤ q ∧ q ≤ 9999) ∧ (0 ≤ s ∧ s ≤ 999) ∧ ∀ H', Fx [] H H' → Q (oV (askedM m q s)) H'
theorem ok_answered {P : Program} {w : World} {K : PySem.W.Frag} {mg : Str → Option Value} {base : Heap} (T : Tx K mg) : DefN P w K mg base CX0 5 "answered" ["machine", "question", "seed"] 2 ["seed"] (spAnswered K) := by
  obtain ⟨fd, F⟩ := T.d_answered
  have G_need_machine := ok_need_machine (P := P) (w := w) (base := base) T
  have G_need_seed := ok_need_seed (P := P) (w := w) (base := base) T
  have G_asked := ok_asked (P := P) (w := w) (base := base) T
  have G_is_number := ok_is_number (P := P) (w := w) (base := base) T
  obtain ⟨mv, BN⟩ := F.kbinds0 (ps := ["machine", "question", "seed"]) 2 ["seed"] [] (fun vs _ zs => vs ++ zs) (List.cons_ne_nil _ _) (fun q h => nomatch h) (fun r1 _ r3 => r1.append r3) (fun D doc pm an cdv ct us mv ws l1 l2 l3 => match us, mv, ws, l1, l2, l3 with | [_, _], [], [_], _, _, _ => rfl)
  obtain ⟨ds, hds, BD⟩ := F.binds0 (ps := ["machine", "question", "seed"]) 2 (List.cons_ne_nil _ _) rfl (fun D doc pm an cdv ct us ks l1 l2 => match us, ks, l1, l2 with | [_, _], [_], _, _ => ⟨_, _, _, _, _, _, rfl, rfl, rfl⟩)
  refine ⟨_, fd, _, ds, F.ok sc_answered (fun vs H Q E h => ?_) (fun cdv A outer s H vs Q E hr h => ?_), BN, hds, BD, T.g_answered, F.kp⟩
  · obtain ⟨v, m, q, s, rfl, _⟩ := h
    rfl
  · obtain ⟨v, m, qu, sd, rfl, hd, hm, hq, hs, q⟩ := h
    refine ⟨_, PSs.nox (pss_cons (ps_expr (pe_def G_need_machine (hr.mono (by omega)) pass0 (pa_cons (pv 0) pa_nil)))
        (pss_cons (ps_if (pt_not (pt_val (pe_def G_is_number (hr.mono (by omega)) pass0 (pa_cons (pv 1) (pa_cons pe_int (pa_cons (gC T.c_GREAT) pa_nil))))))
        (pss_one ps_never)
        pss_nil)
        (pss_cons (ps_expr (pe_def G_need_seed (hr.mono (by omega)) pass0 (pa_cons (pv 2) pa_nil)))
        (pss_one (ps_ret (pe_def G_asked (hr.mono (by omega)) pass0 (pa_cons (pv 0) (pa_cons (pv 1) (pa_cons (pv 2) pa_nil))))))))), ?_⟩
    refine rd_needM rfl hm hd fun H1 f1 => ?_
    refine ⟨_, rfl, ⟨_, _, _, _, rfl, .int qu, _, rfl, ifF ?_ ?_⟩⟩
    · show (!isNum (.int qu) 0 9999) = false
      simp [isNum, hq.1, hq.2]
    refine ⟨_, rfl, ⟨sd, rfl, hs, ?_⟩⟩
    exact ⟨_, rfl, _, rfl, _, rfl, ⟨v, m, qu, sd, rfl, hd.ext f1, hm.rows, q H1 f1⟩⟩
end Mh
/-! MhSuite -/
namespace Mh
open PySem PySem.Spec PyProof.Rows L2
/-! ### within an except suite -/
/-- the caught one's class and own dict -/
structure Cau (K : PySem.W.Frag) (cls : Value) (d : Option Addr) (D : Addr) (H : Hp) : Prop where
  e : cls = .ref D
  c : ExcC K D
  h : d = none ∨ ∃ dd fs, d = some dd ∧ H dd = some (.xd fs)
theorem Cau.fx {K : PySem.W.Frag} {cls : Value} {d : Option Addr} {D : Addr} {H H' : Hp} (x : Cau K cls d D H) (f : Fx [] H H') : Cau K cls d D H' :=
  ⟨x.e, x.c, x.h.imp id fun ⟨dd, fs, a, b⟩ => ⟨dd, fs, a, f.to b fun z => nomatch z⟩⟩
def rIsX (K : PySem.W.Frag) (cls : Value) (d : Option Addr) (a : Addr) : List V → Hp → VK → Prop := fun xs H Q => ∃ D, Cau K cls d D H ∧ ∃ (c : V) (cv : Value) (b : Bool), xs = [.ref a, c] ∧ (∀ u, RelV c u → u = cv) ∧ PySem.W.kitOne K (.ref D) cv = some b ∧ Q (.bl b) H
theorem inst_of {X : Cx} {a : Addr} {oe : Obj} {cls : Value} {d : Option Addr} {pn pins : List (Addr × Obj)} {σ : L2.St} {H : Hp} {s : Shared} {D : Addr} (I : Inv (X.suite a ((a, oe) :: pn)) pins σ H s) (hz : Zc cls d oe) (hf : ∃ vs, oe.data = .fields vs) (C : Cau X.K cls d D H) : ∃ od, PySem.W.InstAt s.heap a oe D od := by
  obtain ⟨hget, _⟩ := I.pin (a, oe) (List.mem_append.mpr (.inl List.mem_cons_self))
  obtain ⟨vs, hv⟩ := hf
  have hcls : oe.cls = .ref D := hz.1.trans C.e
  have hnot : PySem.W.notCls oe = true := by unfold PySem.W.notCls; rw [hv] <;> rfl
  rcases C.h with h | ⟨dd, fs, h, hd⟩
  · exact ⟨none, hget, hcls, hnot, by rw [hz.2, h]; trivial⟩
  · obtain ⟨mA, ⟨od, es, ep, ho, _⟩, _⟩ := (show ObjOk X.prog X.w H s.heap dd (.xd fs) from I.hok dd _ hd)
    exact ⟨some od, hget, hcls, hnot, by rw [hz.2, h]; exact ho⟩
/-- isinstance(e, C), e caught -/
theorem call_isX {X : Cx} {a : Addr} {oe : Obj} {cls : Value} {d : Option Addr} {pn : List (Addr × Obj)} (hz : Zc cls d oe) (hf : ∃ vs, oe.data = .fields vs) : CallR (X.suite a ((a, oe) :: pn)) (.builtin "isinstance") (rIsX X.K cls d a) := by
  intro pins s σ H xs us Q I r h
  obtain ⟨D, C, c, cv, b, rfl, hcv, e, q⟩ := h
  obtain ⟨u1, u2, rfl, r1, r2⟩ := vals2 r
  obtain rfl : u1 = Value.ref a := r1
  have ec := hcv _ r2
  subst ec
  obtain ⟨od, J⟩ := inst_of I hz hf C
  have hfo : PySem.W.findObj X.K D od "__class__" = some (.bind (.builtin "getset_descriptor.__get__") (.builtin "object.__class__")) := PySem.W.findObj_dataE (by obtain ⟨cd, hc, _⟩ := PySem.W.any_some C.c.hd; rw [hc]; rfl) C.c.ha C.c.hn C.c.ht
  have hcl : ∃ (dd : Option Addr) (cd : ClassData) (sl : Array (Option Value)) (c0 : Value), X.K.lookup D = some ⟨c0, dd, .cls cd, sl⟩ := by
    obtain ⟨cdD, hcD, _⟩ := PySem.W.any_some C.c.hd
    unfold PySem.W.clsIn at hcD
    split at hcD
    · rename_i ho
      exact ⟨_, _, _, _, ho⟩
    · cases hcD
  obtain ⟨c1, c2, c3, c4, ho⟩ := hcl
  have zit : ∀ (M : Model) (h : Heap), X.K.In h → PySem.W.InstAt h a oe D od → PySem.W.Looks M h (isType (.ref D)) true := fun _ _ k _ A' Q' E' s' kk q => by
    unfold isType loadHead
    exact wpAny_bind (wpAny_loadPart (kk _ _ (k _ _ ho)) (wpAny_pure q))
  have zne : ∀ (h : Heap) (tp : Addr) (dd : Option Addr) (its : List Value) (n : Nat) (sl : Array (Option Value)), X.K.In h → h.get? tp = some ⟨.type "tuple", dd, .seq its.toArray n, sl⟩ → (Value.ref D == .ref tp) = false := fun h tp dd its n sl k htp => by
    refine Bool.eq_false_iff.mpr fun q => ?_
    have e : D = tp := Value.ref.inj (beq_iff_eq.mp q)
    subst e
    have z := (k _ _ ho).symm.trans htp
    cases z
  have Z : PySem.W.KitX X.K (.ref a) (.ref D) (fun h => PySem.W.InstAt h a oe D od) := ⟨fun _ _ _ I => I.type, zit, zne, fun k I q => PySem.W.kx_classE k I C.c.hg C.c.hk C.c.hs hfo C.c.hm q⟩
  exact PySem.W.kia_one Z I.kIn J e (fun z => nomatch z) fun tk => ⟨.bl b, H, I.kept (t' := tk) fun _ _ z => z, rfl, q⟩
/-- e.f, e caught -/
def tXf2 (K : PySem.W.Frag) (a : Addr) (cls : Value) (d : Option Addr) (f : Str) (te : TE) : TE := fun σ H Q => te σ H fun x H1 => x = .ref a ∧ ∃ (D dd : Addr) (fs : List (Str × V)) (v : V), cls = .ref D ∧ ExcC K D ∧ PySem.W.findIn K (.ref D) f = some none ∧ d = some dd ∧ H1 dd = some (.xd fs) ∧ fs.lookup f = some v ∧ Q v H1
theorem pe_xf2 {X : Cx} {a : Addr} {oe : Obj} {cls : Value} {d : Option Addr} {pn : List (Addr × Obj)} {e : Expr} {te : TE} {pos : Pos} {n : Str} (hz : Zc cls d oe) (hf : ∃ vs, oe.data = .fields vs) (he : PE (X.suite a ((a, oe) :: pn)) e te) (hb : attributeBase e n X.env (eval e X.env) = eval e X.env := by rfl) :
    PE (X.suite a ((a, oe) :: pn)) (.Attribute e n pos) (tXf2 X.K a cls d n te) := by
  refine ⟨fun pins s σ H Q I h => attr_of hb (thn (he.run pins s σ H _ I h) fun u s1 hh => ?_)⟩
  obtain ⟨x, H1, I1, rx, ex, D, dd, fs, v, ec, hC, hno, ed, ea, l, q⟩ := hh
  subst ex
  obtain rfl : u = Value.ref a := rx
  obtain ⟨mA, hns, hr⟩ := (show ObjOk X.prog X.w H1 s1.heap dd (.xd fs) from I1.hok dd _ ea)
  obtain ⟨od, ho, hl⟩ := lookIn_ns hns
  obtain ⟨u, hu, ru⟩ := RelO.some_of (v := v) (o := mA n) (by rw [← l]; exact hr n)
  obtain ⟨ha, _⟩ := I1.pin (a, oe) (List.mem_append_left _ List.mem_cons_self)
  obtain ⟨vs, hv⟩ := hf
  have J : PySem.W.InstAt s1.heap a oe D (some od) := ⟨ha, hz.1.trans ec, by unfold PySem.W.notCls; rw [hv] <;> rfl, by rw [hz.2, ed]; exact ho⟩
  exact HandSPX.exc_get I1.kIn J hC.hg hC.hk hC.hs (PySem.W.findObj_own hC.hd hno rfl (by rw [hl, hu])) (handed_of ru) ⟨v, H1, I1.tok _, ru, q⟩
/-! ### list.count, flat items -/
def cntV (y : V) (ys : List V) : Nat := ys.countP fun z => eqV z y
def rCntF (K : PySem.W.Frag) : V → List V → Hp → VK → Prop := fun x xs H Q => ∃ (a : Addr) (ys : List V) (y : V), x = V.ref a ∧ xs = [y] ∧ SqL K H a ys ∧ flatV y = true ∧ ys.all flatV = true ∧ Q (.int (cntV y ys : Nat)) H
theorem cnt_of {y : V} : ∀ {ys : List V} {us : List Value}, Vals ys us → ys.all flatV = true → us.countP (eqU y) = cntV y ys
  | _, _, .nil, _ => rfl
  | z :: ys, u :: us, .cons r t, f => by
    rw [List.all_cons, Bool.and_eq_true] at f
    unfold cntV
    rw [List.countP_cons, List.countP_cons, eqU_of r f.1]
    have := cnt_of (y := y) t f.2
    unfold cntV at this
    rw [this]
theorem mt_countF {X : Cx} : MtR X "list.count" (rCntF X.K) := by
  intro pins s σ H x xs v us Q I rx rxs h
  obtain ⟨a, ys, y, rfl, rfl, hs, fy, fys, q⟩ := h
  cases rx
  obtain ⟨uy, rfl, ry⟩ := vals1 rxs
  obtain ⟨its, rv, ⟨⟨cls, dd, data, sl⟩, n, ho, hc, hdn, hd⟩, hlen⟩ := I.list hs
  simp only at hc hd
  subst hc hd
  refine call_meets PySem.F.slot_list_count ⟨_, ho, rfl⟩ PySem.F.entry_list_count (PySem.F.args_list_count_2 _ _) (SeqAt.list_countAt a its.toArray n dd sl uy (eqU y)) ⟨ho, fun u' hu' => mem_eqAt ry fy rv fys u' (by simpa using hu'), ?_⟩
  have ec : its.toArray.toList.countP (eqU y) = cntV y ys := cnt_of rv fys
  refine ⟨.int (cntV y ys : Nat), H, I.tok _, ⟨s.toks, ?_⟩, q⟩
  show Value.int ((its.toArray.toList.countP (eqU y) : Nat) : Int) s.toks = Value.int ((cntV y ys : Nat) : Int) s.toks
  rw [ec]
/-! ### rules whose readings name no context -/
section
variable {X : Cx} {K : PySem.W.Frag}
theorem xcall_isX {a : Addr} {oe : Obj} {cls : Value} {d : Option Addr} {pn : List (Addr × Obj)} (h : X.K = K) (hz : Zc cls d oe) (hf : ∃ vs, oe.data = .fields vs) : CallR (X.suite a ((a, oe) :: pn)) (.builtin "isinstance") (rIsX K cls d a) := by
  subst h
  exact call_isX hz hf
theorem xpe_xf2 {a : Addr} {oe : Obj} {cls : Value} {d : Option Addr} {pn : List (Addr × Obj)} {e : Expr} {te : TE} {pos : Pos} {n : Str} (h : X.K = K) (hz : Zc cls d oe) (hf : ∃ vs, oe.data = .fields vs) (he : PE (X.suite a ((a, oe) :: pn)) e te) (hb : attributeBase e n X.env (eval e X.env) = eval e X.env := by rfl) :
    PE (X.suite a ((a, oe) :: pn)) (.Attribute e n pos) (tXf2 K a cls d n te) := by
  subst h
  exact pe_xf2 hz hf he hb
theorem xmt_countF (h : X.K = K) : MtR X "list.count" (rCntF K) := by
  subst h
  exact mt_countF
theorem xmt_index (h : X.K = K) : MtR X "list.index" (rIndex K) := by
  subst h
  exact mt_index
theorem xpe_bm {o e : Expr} {es : List Expr} {to : TE} {t : TA} {name : Str} {apos cpos : Pos} {T id : String} {r : V → List V → Hp → VK → Prop} (h : X.K = K) (pa : PlainAttrs T) (slot : Slot T name id) (hty : typeOf (.builtin id) = pure (.type "method_descriptor")) (hm : MtR X id r) (ho : PE X o to) (ha : PA X (e :: es) t)
    (hbase : attributeBase o name X.env (eval o X.env) = eval o X.env := by rfl)
    (hfew : ((backTo cpos (starEach (e :: es) X.env)).all (fun x => !x.1) && (backToKw cpos (keywordEach [] X.env)).all (fun x => x.1.isSome)
      && decide ((e :: es).length + ([] : List Keyword).length + (if ([] : List Keyword).isEmpty then 0 else 1) < 30)) = true := by rfl)
    (hline : (apos.endLine == cpos.line) = true := by rfl) (hs : starEach (e :: es) X.env = (false, eval e X.env) :: starEach es X.env := by rfl) (hplain : (backTo cpos (starEach es X.env)).any (·.1) = false := by rfl) :
    PE X (.Call (.Attribute o name apos) (e :: es) [] cpos) (tBM K T r to t) := by
  subst h
  exact pe_bm pa slot hty hm ho ha hbase hfew hline hs hplain
end
end Mh
/-! MhLam -/
namespace Mh
open PySem PySem.Spec PyProof.Rows L2 LamX
/-! ### a lambda, with or without a default -/
abbrev lfd (qual : Str) (params : Arguments) (body : Expr) (scope : Scope) (cl : List (Str × Addr)) (dV pm cdv ct : Value) : FuncData :=
  { name := "<lambda>", qualname := qual, params := params, body := .expr body, scope := scope, globals := mainGlobals, closure := cl, defaults := dV, kwdefaults := .none, doc := .none, pyModule := pm, annotations := none, code := cdv, closureTuple := ct, builtins := builtinsNs }
abbrev lfo (qual : Str) (params : Arguments) (body : Expr) (scope : Scope) (cl : List (Str × Addr)) (dV pm cdv ct : Value) : Obj := { cls := .type "function", data := .func (lfd qual params body scope cl dV pm cdv ct) }
def tailOf (qual : Str) (params : Arguments) (body : Expr) (scope : Scope) (env : Env) (dV : Value) (pos : Pos) (fl : Nat) (cl : List (Str × Addr)) (ct : Value) : Sem Value := do
  let code ← functionCode env pos fl "<lambda>" qual params scope (.expr body)
  let bi ← builtinsFor env.globals env.builtins
  let nm ← nsGet env.globals "__name__"
  let doc ← (pure .none : Sem Value)
  newObj (.type "function") (.func { name := "<lambda>", qualname := qual, params := params, body := .expr body, scope := scope, globals := env.globals, closure := cl, closureTuple := ct, code := code, builtins := bi, defaults := dV, kwdefaults := .none, annotations := none, pyModule := nm.getD .none, doc := doc })
theorem makeTail_lam (qual : Str) (params : Arguments) (body : Expr) (scope : Scope) (env : Env) (dV : Value) (pos : Pos) (fl : Nat) : makeTail "<lambda>" qual params (.expr body) scope env dV .none none pos fl = (do
    let cl ← closureFor scope env
    let ct ← if cl.isEmpty then pure .none else newTextTuple ((cl.mergeSort fun a b => a.1.cps.toList ≤ b.1.cps.toList).map (.ref ·.2))
    tailOf qual params body scope env dV pos fl cl ct) := rfl
section
variable {M : Model} {A : Around} {E : Value → Shared → Prop} {s : Shared} {qual : Str} {params : Arguments} {body : Expr} {scope : Scope} {env : Env} {c P : Addr} {ps : Array Value} {pos : Pos} {fl : Nat} {mg : Str → Option Value} {cl : List (Str × Addr)} {dV : Value} {Q : Value → Shared → Prop}
/-- the code object is found, or laid down in the table -/
theorem tailOf_wp {ct : Value} (hge : env.globals = mainGlobals) (hg : s.heap.Ns mainGlobals mg) (hcode : env.code = .ref c) (C : PySem.W.CodeHd s.heap c P) (hP : s.heap.get? P = some { cls := .none, data := .fields ps }) (ht : TriplesOk ps.toList) (hgP : mainGlobals ≠ P) (hb : s.heap.BuiltinsAt mg P)
    (hit : ∀ cv, codeAmong pos ps.toList = some cv → Q (.ref s.heap.objs.size) { s with heap := s.heap.push (lfo qual params body scope cl dV ((mg "__name__").getD .none) cv ct) })
    (miss : codeAmong pos ps.toList = none → ∀ (c' : Addr) (h' : Heap) (tk : Tok), Heap.ExtBut P s.heap h' → s.heap.objs.size ≤ c' → c' < h'.objs.size → h'.CodeRec (.ref c') qual → h'.get? P = some { cls := .none, data := .fields (ps ++ #[rawInt pos.line, rawInt pos.col, .ref c']) } →
      Q (.ref h'.objs.size) { s with heap := h'.push (lfo qual params body scope cl dV ((mg "__name__").getD .none) (.ref c') ct), toks := tk }) :
    wpAny M A (tailOf qual params body scope env dV pos fl cl ct) Q E s := by
  obtain ⟨bm, ob, hbm, hne0, _, hneP, hbo, hcls, hdict, hdata⟩ := hb
  unfold tailOf
  rw [hge]
  cases hc : codeAmong pos ps.toList with
  | some cv =>
    refine wpAny_bind (wpAny_functionCode_hit hcode (C.code hP ht) hc (wpAny_bind (wpAny_builtinsFor hg hbm hne0 hbo hcls hdict hdata (wpAny_bind (wpAny_nsGet hg ?_)))))
    exact wpAny_bind (wpAny_pure (wpAny_newObj_type (hit cv hc) (by size_fits)))
  | none =>
    refine wpAny_bind (wpAny_functionCodeX hcode (C.code hP ht) (C.tab hP) hc fun c' h' tk hx hge' hlt _ hrec htb _ => ?_)
    have hg' := hg.extBut hx hgP
    refine wpAny_bind (wpAny_builtinsFor hg' hbm hne0 (hx _ _ hneP hbo) hcls hdict hdata (wpAny_bind (wpAny_nsGet hg' ?_)))
    exact wpAny_bind (wpAny_pure (wpAny_newObj_type (miss hc c' h' tk hx hge' hlt hrec htb.2) (by size_fits)))
/-- .. the cells that it captures told first -/
theorem lam_tail (hcl : closureFor scope env = pure cl) (hge : env.globals = mainGlobals) (hg : s.heap.Ns mainGlobals mg) (hcode : env.code = .ref c) (C : PySem.W.CodeHd s.heap c P) (hP : s.heap.get? P = some { cls := .none, data := .fields ps }) (ht : TriplesOk ps.toList) (hgP : mainGlobals ≠ P) (hb : s.heap.BuiltinsAt mg P)
    (hit : ∀ cv, codeAmong pos ps.toList = some cv → ∀ (ct : Value) (h' : Heap), (∀ b o, s.heap.get? b = some o → h'.get? b = some o) → s.heap.objs.size ≤ h'.objs.size → Q (.ref h'.objs.size) { s with heap := h'.push (lfo qual params body scope cl dV ((mg "__name__").getD .none) cv ct) })
    (miss : codeAmong pos ps.toList = none → ∀ (c' : Addr) (ct : Value) (h' : Heap) (tk : Tok), Heap.ExtBut P s.heap h' → s.heap.objs.size ≤ c' → c' < h'.objs.size → h'.CodeRec (.ref c') qual → h'.get? P = some { cls := .none, data := .fields (ps ++ #[rawInt pos.line, rawInt pos.col, .ref c']) } →
      Q (.ref h'.objs.size) { s with heap := h'.push (lfo qual params body scope cl dV ((mg "__name__").getD .none) (.ref c') ct), toks := tk }) :
    wpAny M A (makeTail "<lambda>" qual params (.expr body) scope env dV .none none pos fl) Q E s := by
  rw [makeTail_lam, hcl]
  refine wpAny_bind (wpAny_pure ?_)
  by_cases he : cl.isEmpty = true
  · rw [if_pos he]
    exact wpAny_bind (wpAny_pure (tailOf_wp hge hg hcode C hP ht hgP hb (fun cv h => hit cv h _ _ (fun _ _ e => e) (Nat.le_refl _)) (fun h c' h' tk hx h1 h2 h3 h4 => miss h c' _ h' tk hx h1 h2 h3 h4)))
  · rw [if_neg he]
    have kp : ∀ (oT : Obj) b o, s.heap.get? b = some o → (s.heap.push oT).get? b = some o := fun oT b o e => Heap.get?_push_of_some _ e
    have sz : ∀ oT : Obj, s.heap.objs.size ≤ (s.heap.push oT).objs.size := fun oT => by rw [Heap.size_push]; omega
    refine wpAny_bind (wpAny_newTextTuple ?_)
    refine tailOf_wp (s := { s with heap := s.heap.push _ }) hge (hg.keeps (kp _)) hcode (C.keeps (kp _)) (kp _ _ _ hP) ht hgP (hb.keeps (kp _)) (fun cv h => hit cv h _ _ (kp _) (sz _)) (fun h c' h' tk hx h1 h2 h3 h4 => miss h c' _ h' tk (fun b o nb e => hx b o nb (kp _ b o e)) (Nat.le_trans (sz _) h1) h2 h3 h4)
/-- a lambda is made, its one default (if any) evaluated first -/
theorem lam_eval0 (hdef : defaultsOf params env = ([], [])) (h : wpAny M A (makeTail "<lambda>" (env.qual ++ "<lambda>") params (.expr body) scope env .none .none none pos pos.line) Q E s) : wpAny M A (eval (.Lambda params body scope pos) env) Q E s := by
  rw [arm_eval_Lambda, hdef]
  show wpAny M A (do let dv ← evalAll []; let kdv ← holding dv (evalAllOpt []); makeFunction "<lambda>" (env.qual ++ "<lambda>") params (.expr body) scope env dv kdv [] pos pos.line) Q E s
  refine wpAny_bind (wpAny_pure (wpAny_bind (wpAny_holding (wpAny_pure ?_))))
  rw [makeFunction_eq]
  simp only [List.zip_nil_right, List.filterMap_nil, List.isEmpty_nil, if_true, pure_bind]
  exact h
theorem lam_eval1 {t : Sem Value} (hdef : defaultsOf params env = ([t], [])) (h : wpAny M A t (fun v s1 => wpAny M A (makeTail "<lambda>" (env.qual ++ "<lambda>") params (.expr body) scope env (.ref s1.heap.objs.size) .none none pos pos.line) Q E { s1 with heap := s1.heap.push { cls := .type "tuple", data := .seq [v].toArray } }) E s) : wpAny M A (eval (.Lambda params body scope pos) env) Q E s := by
  rw [arm_eval_Lambda, hdef]
  show wpAny M A (do let dv ← evalAll [t]; let kdv ← holding dv (evalAllOpt []); makeFunction "<lambda>" (env.qual ++ "<lambda>") params (.expr body) scope env dv kdv [] pos pos.line) Q E s
  refine wpAny_bind ?_
  show wpAny M A (do let v ← t; let r ← holding [v] (evalAll []); pure (v :: r)) _ E s
  refine wpAny_bind (wpAny_mono h (fun v s1 h1 => ?_) fun _ _ e => e)
  refine wpAny_bind (wpAny_holding (wpAny_pure ?_))
  refine wpAny_pure ?_
  refine wpAny_bind (wpAny_holding (wpAny_pure ?_))
  rw [makeFunction_eq]
  simp only [List.zip_nil_right, List.filterMap_nil, List.isEmpty_nil, if_true, pure_bind]
  rw [if_neg (by simp)]
  exact wpAny_bind (wpAny_newTextTuple h1)
end
end Mh
/-! MhHeld -/
namespace Mh
open PySem PySem.Spec PyProof.Rows L2 LamX NdefX
theorem Chg.tbl {H : Hp} {p : Addr} {qs : Array Value} (h : H p = some (.tbl qs)) : Chg H p := ⟨fun xs e => (by rw [h] at e; cases e), fun o u e => (by rw [h] at e; cases e)⟩
theorem Tabs.fx {T : List (Addr × Str)} {H H' : Hp} (t : Tabs T H) (f : Fx [] H H') : Tabs T H' := t.ext fun b o e => f.to e fun z => nomatch z
/-- tables stand while others than they change -/
theorem Tabs.mv {T : List (Addr × Str)} {M : List Addr} {H H' : Hp} (t : Tabs T H) (f : Fx M H H') (n : ∀ p ∈ T, p.1 ∉ M) (nc : ∀ c q, H c = some (CodeO c q) → c ∉ M) : Tabs T H' := fun p hp => by
  obtain ⟨qs, h1, h2, h3⟩ := t p hp
  refine ⟨qs, f.to h1 (n p hp), h2, fun pos cv hc => ?_⟩
  obtain ⟨c, e1, e2⟩ := h3 pos cv hc
  exact ⟨c, e1, f.to e2 (nc _ _ e2)⟩
section
variable {X : Cx} {pins : List (Addr × Obj)} {σ : L2.St} {H : Hp} {s : Shared}
theorem lam_mk {T : List (Addr × Str)} {c P : Addr} {params : Arguments} {body : Expr} {scope : Scope} {pos : Pos} {dV : Value} {A : Around} {E : Value → Shared → Prop} {Q : Value → Shared → Prop} (I : Inv X pins σ H s) (TB : TabB X.base X.mg c P) (hcode : X.env.code = .ref c)
    (hm : (P, X.env.qual ++ "<lambda>") ∈ T) (hu : ∀ p ∈ T, p.1 = P → p.2 = X.env.qual ++ "<lambda>") (hT : Tabs T H) (hfree : ∀ y ∈ scope.names, y.2 = .free → ∃ c, X.env.cells.lookup y.1 = some c)
    (h : ∀ (f c' : Addr) (pm ctv : Value) (H1 : Hp) (s' : Shared), Inv X pins σ H1 s' → Fx [P] H H1 → Tabs T H1 → H f = none →
      H1 f = some (pinO (lfo (X.env.qual ++ "<lambda>") params body scope (cloFrom X.env.cells scope.names []) dV pm (.ref c') ctv)) → H1 c' = some (CodeO c' (X.env.qual ++ "<lambda>")) → Q (.ref f) s') :
    wpAny (model X.prog X.w) A (makeTail "<lambda>" (X.env.qual ++ "<lambda>") params (.expr body) scope X.env dV .none none pos pos.line) Q E s := by
  obtain ⟨qs, hP, ht, ha⟩ := (show TabS H P (X.env.qual ++ "<lambda>") from hT _ hm)
  have bP : s.heap.BuiltinsAt X.mg P := TB.bm.keeps I.bk
  have hP' : s.heap.get? P = some { cls := .none, data := .fields qs } := I.hok P _ hP
  refine lam_tail (closure_ok hfree) I.ok.glob (I.mod.glob.keeps I.bk) hcode (TB.code.keeps I.bk) hP' ht TB.gP bP (fun cv hc ct h' hx hsz => ?_) (fun hc c' ct h' tk hx hge hlt hrec htb => ?_)
  · obtain ⟨c', e, hco⟩ := ha pos cv hc
    subst e
    have hget : (h'.push (lfo (X.env.qual ++ "<lambda>") params body scope (cloFrom X.env.cells scope.names []) dV ((X.mg "__name__").getD .none) (.ref c') ct)).get? h'.objs.size = some (lfo (X.env.qual ++ "<lambda>") params body scope (cloFrom X.env.cells scope.names []) dV ((X.mg "__name__").getD .none) (.ref c') ct) := Heap.get?_push_size _ rfl
    have kk : ∀ b o, s.heap.get? b = some o → (h'.push (lfo (X.env.qual ++ "<lambda>") params body scope (cloFrom X.env.cells scope.names []) dV ((X.mg "__name__").getD .none) (.ref c') ct)).get? b = some o := fun b o e => Heap.get?_push_of_some _ (hx b o e)
    have nF : H h'.objs.size = none := I.hok.fresh hsz
    have I1 := I.laid (t' := s.toks) (a := h'.objs.size) (o := pinO (lfo (X.env.qual ++ "<lambda>") params body scope (cloFrom X.env.cells scope.names []) dV ((X.mg "__name__").getD .none) (.ref c') ct)) kk hsz (pin_ok hget)
    have f1 : Fx [] H (upd H h'.objs.size (pinO (lfo (X.env.qual ++ "<lambda>") params body scope (cloFrom X.env.cells scope.names []) dV ((X.mg "__name__").getD .none) (.ref c') ct))) := Fx.new nF
    exact h h'.objs.size c' _ ct _ _ I1 f1.nil (Tabs.fx hT f1) nF upd_same (f1.to hco fun z => nomatch z)
  · obtain ⟨c2, oc, vs, t, e2, hoc, hd, hv⟩ := hrec
    cases e2
    have nC : H c' = none := I.hok.fresh hge
    have I1 := inv_table (t' := tk) (more := #[rawInt pos.line, rawInt pos.col, .ref c']) (h' := h') I hP (fun b o hb e => hx b o hb e) htb hge ⟨oc, vs, t, hoc, hd, hv⟩
    have f0 : Fx [P] H (upd H P (.tbl (qs ++ #[rawInt pos.line, rawInt pos.col, .ref c']))) := Fx.set List.mem_cons_self (Chg.tbl hP)
    have nPc : P ≠ c' := ne_of_none hP nC
    have f01 : Fx [P] H (upd (upd H P (.tbl (qs ++ #[rawInt pos.line, rawInt pos.col, .ref c']))) c' (CodeO c' (X.env.qual ++ "<lambda>"))) := f0.trans (Fx.new (by rw [upd_ne nPc.symm]; exact nC))
    have hE : ∀ b o, H b = some o → (∀ z, o ≠ .tbl z) → upd (upd H P (.tbl (qs ++ #[rawInt pos.line, rawInt pos.col, .ref c']))) c' (CodeO c' (X.env.qual ++ "<lambda>")) b = some o := fun b o e n => by
      rw [upd_ne (ne_of_none e nC), upd_ne (fun z => n qs (Option.some.inj (e.symm.trans (by rw [z]; exact hP))))]
      exact e
    have eL : (qs ++ #[rawInt pos.line, rawInt pos.col, .ref c']).toList = qs.toList ++ [rawInt pos.line, rawInt pos.col, .ref c'] := by simp
    have T1 : Tabs T (upd (upd H P (.tbl (qs ++ #[rawInt pos.line, rawInt pos.col, .ref c']))) c' (CodeO c' (X.env.qual ++ "<lambda>"))) := fun p hp => by
      by_cases hb : p.1 = P
      · rw [hu p hp hb, hb]
        refine ⟨_, by rw [upd_ne nPc, upd_same], by rw [eL]; exact PySem.TriplesOk_snoc _ _ _ _ ht, fun p' cv hcv => ?_⟩
        rw [eL] at hcv
        rcases among_app _ ht hcv with z | z
        · obtain ⟨c0, e1, e2⟩ := ha p' cv z
          exact ⟨c0, e1, hE _ _ e2 codeO_ne⟩
        · exact ⟨c', z, upd_same⟩
      · obtain ⟨qs', a1, a2, a3⟩ := hT p hp
        refine ⟨qs', by rw [upd_ne (ne_of_none a1 nC), upd_ne hb]; exact a1, a2, fun p' cv hcv => ?_⟩
        obtain ⟨c0, e1, e2⟩ := a3 p' cv hcv
        exact ⟨c0, e1, hE _ _ e2 codeO_ne⟩
    have hc1 : upd (upd H P (.tbl (qs ++ #[rawInt pos.line, rawInt pos.col, .ref c']))) c' (CodeO c' (X.env.qual ++ "<lambda>")) c' = some (CodeO c' (X.env.qual ++ "<lambda>")) := upd_same
    generalize upd (upd H P (.tbl (qs ++ #[rawInt pos.line, rawInt pos.col, .ref c']))) c' (CodeO c' (X.env.qual ++ "<lambda>")) = Hm at I1 f01 T1 hc1
    have nF : Hm h'.objs.size = none := I1.hok.fresh (Nat.le_refl _)
    have hget : (h'.push (lfo (X.env.qual ++ "<lambda>") params body scope (cloFrom X.env.cells scope.names []) dV ((X.mg "__name__").getD .none) (.ref c') ct)).get? h'.objs.size = some (lfo (X.env.qual ++ "<lambda>") params body scope (cloFrom X.env.cells scope.names []) dV ((X.mg "__name__").getD .none) (.ref c') ct) := Heap.get?_push_size _ rfl
    have I2 := I1.laid (t' := tk) (a := h'.objs.size) (o := pinO (lfo (X.env.qual ++ "<lambda>") params body scope (cloFrom X.env.cells scope.names []) dV ((X.mg "__name__").getD .none) (.ref c') ct)) (h' := h'.push (lfo (X.env.qual ++ "<lambda>") params body scope (cloFrom X.env.cells scope.names []) dV ((X.mg "__name__").getD .none) (.ref c') ct)) (fun b o e => Heap.get?_push_of_some _ e) (Nat.le_refl _) (pin_ok hget)
    have f2 : Fx [] Hm (upd Hm h'.objs.size (pinO (lfo (X.env.qual ++ "<lambda>") params body scope (cloFrom X.env.cells scope.names []) dV ((X.mg "__name__").getD .none) (.ref c') ct))) := Fx.new nF
    exact h h'.objs.size c' _ ct _ _ I2 (f01.trans f2.nil) (Tabs.fx T1 f2) (f01.free nF) upd_same (f2.to hc1 fun z => nomatch z)
end
/-! ### what a lambda's call does -/
/-- called without arguments, f keeps sp -/
structure LHeld (P : Program) (w : World) (K : PySem.W.Frag) (mg : Str → Option Value) (base : Heap) (k : Nat) (f : Addr) (sp : Hp → VK → XK → Prop) : Prop where
  run : ∀ (A : Around) (outer : List Env) (s : Shared) (H : Hp) (Q : VK) (E : XK), Room k A → Env0 P w K mg base A outer s H → sp H Q E → codeAny (model P w) A (.call (.ref f) ⟨[], []⟩) (CR (L2.CX P w) outer P w H s Q E) s
  fn : ∀ H Q E, sp H Q E → ∃ fd : FuncData, H f = some (pinO { cls := .type "function", data := .func fd })
theorem LHeld.imp {P : Program} {w : World} {K : PySem.W.Frag} {mg : Str → Option Value} {base : Heap} {k : Nat} {f : Addr} {sp sp' : Hp → VK → XK → Prop} (L : LHeld P w K mg base k f sp) (h : ∀ H Q E, sp' H Q E → sp H Q E) : LHeld P w K mg base k f sp' :=
  ⟨fun A outer s H Q E r e q => L.run A outer s H Q E r e (h _ _ _ q), fun H Q E q => L.fn H Q E (h _ _ _ q)⟩
theorem LHeld.mono {P : Program} {w : World} {K : PySem.W.Frag} {mg : Str → Option Value} {base : Heap} {j k : Nat} {f : Addr} {sp : Hp → VK → XK → Prop} (L : LHeld P w K mg base j f sp) (h : j ≤ k) : LHeld P w K mg base k f sp :=
  ⟨fun A outer s H Q E r e q => L.run A outer s H Q E (r.mono h) e q, L.fn⟩
/-- captured cells: val tells what they hold, ps the pins -/
structure CapP (cells : List (Str × Addr)) (val : List (Str × V)) (ps : Pins) : Prop where
  h : ∀ y v, val.lookup y = some v → ∃ (c : Addr) (o : Obj) (u : Value), cells.lookup y = some c ∧ ps.lookup c = some o ∧ o.data = .cell (some u) ∧ RelV v u
/-- the defaults' tuple -/
def DefAt (H : Hp) (dV : Value) (ds : List V) : Prop := (ds = [] ∧ dV = .none) ∨ ds ≠ [] ∧ ∃ T, dV = .ref T ∧ H T = some (.tup ds)
theorem DefAt.fx {M : List Addr} {H H' : Hp} {dV : Value} {ds : List V} (d : DefAt H dV ds) (f : Fx M H H') : DefAt H' dV ds := d.imp id fun ⟨n, T, e, h⟩ => ⟨n, T, e, f.t _ _ h⟩
/-- how a lambda's parameters are bound -/
structure LBind (ps : List Str) (ds : List V) (params : Arguments) (body : Expr) (scope : Scope) : Prop where
  len : ds.length = ps.length
  b0 : ds = [] → ∀ (q : Str) (cl : List (Str × Addr)) (pm cv ct : Value), bindArgs (lfd q params body scope cl .none pm cv ct) ⟨[], []⟩ = pure []
  b1 : ds ≠ [] → ∀ (T : Addr) (q : Str) (cl : List (Str × Addr)) (pm cv ct : Value) (us : List Value), us.length = ds.length → ∃ k, bindArgs (lfd q params body scope cl (.ref T) pm cv ct) ⟨[], []⟩ = seqItems? (.ref T) >>= k ∧ k (some us.toArray) = pure (ps.zip us)
abbrev lnf (q : Str) (params : Arguments) (scope : Scope) (cl : List (Str × Addr)) (c' : Addr) : NF := ⟨"<lambda>", q, params, [], scope, cl, c'⟩
/-- the context of the lambda's body -/
abbrev lcx (P : Program) (w : World) (K : PySem.W.Frag) (mg : Str → Option Value) (base : Heap) (N : List Str) (q : Str) (params : Arguments) (scope : Scope) (cl : List (Str × Addr)) (c' f : Addr) (A : Around) (outer : List Env) (s : Shared) (H : Hp) (E : XK) : Cx :=
  ncx (L2.CX P w) P w K mg base N (lnf q params scope cl c') f A outer s H E
def lspec (q : Str) (params : Arguments) (body : Expr) (scope : Scope) (cl : List (Str × Addr)) (dV pm ctv : Value) (f c' : Addr) (ps fr : List Str) (ds : List V) (val : List (Str × V)) (pn : Pins) (t : XK → TE) : Hp → VK → XK → Prop := fun H Q E =>
  Lie H pn ∧ H f = some (pinO (lfo q params body scope cl dV pm (.ref c') ctv)) ∧ H c' = some (CodeO c' q) ∧ DefAt H dV ds ∧
    t (fun c d H' => Free H' pn → E c d (addP pn H')) (ds.map some ++ fr.map fun y => val.lookup y) (delP pn H) (fun v H' => Free H' pn → Q v (addP pn H'))
section
variable {P : Program} {w : World} {K : PySem.W.Frag} {mg : Str → Option Value} {base : Heap}
theorem lam_held {q : Str} {params : Arguments} {body : Expr} {scope : Scope} {cells : List (Str × Addr)} {dV pm ctv : Value} {f c' : Addr} {ps fr : List Str} {ds : List V} {val : List (Str × V)} {pn : Pins} {t : XK → TE} {k : Nat}
    (hinj : ∀ x y c, cells.lookup x = some c → cells.lookup y = some c → x = y) (hfree : ∀ y ∈ scope.names, y.2 = .free → ∃ c, cells.lookup y.1 = some c) (S : NScope (ps ++ fr) ps fr scope) (hval : fr.all (fun y => (val.lookup y).isSome) = true) (C : CapP cells val pn) (B : LBind ps ds params body scope)
    (hbody : ∀ (A : Around) (outer : List Env) (s : Shared) (H : Hp) (E : XK), Room k (A.deeper (envF (lnf q params scope (cloFrom cells scope.names []) c') f s.heap.objs.size)) → PE (lcx P w K mg base (ps ++ fr) q params scope (cloFrom cells scope.names []) c' f A outer s H E) body (t E)) :
    LHeld P w K mg base (k + 1) f (lspec q params body scope (cloFrom cells scope.names []) dV pm ctv f c' ps fr ds val pn t) := by
  refine ⟨fun A outer s H Q E hr e0 hsp => ?_, fun H Q E hsp => ⟨_, hsp.2.1⟩⟩
  obtain ⟨l, hf, hc, hD, ht⟩ := hsp
  have e1 := Env0.delP e0 l
  have nfr : ∀ a o, pn.lookup a = some o → a ∉ frs outer := fun a o e m => by
    have := e0.frf a m
    rw [l a o e] at this
    cases this
  have hg : ∀ a o, pn.lookup a = some o → s.heap.get? a = some o := fun a o e => pin_at e0.hok (l a o e)
  have ho : s.heap.get? f = some (lfo q params body scope (cloFrom cells scope.names []) dV pm (.ref c') ctv) := pin_at e0.hok hf
  have hcd := codeO_at e0.hok hc
  have lim : s.heap.NoLimit := e0.mod.nolimit.keeps fun b o e => (e0.bs b o e).1
  -- the cells
  have CA : CellsAt (cloFrom cells scope.names []) fr (fr.map fun y => val.lookup y) s.heap (delP pn H) := by
    have get : ∀ y ∈ fr, ∃ (v : V) (c : Addr) (o : Obj) (u : Value), val.lookup y = some v ∧ cells.lookup y = some c ∧ pn.lookup c = some o ∧ o.data = .cell (some u) ∧ RelV v u := fun y hy => by
      obtain ⟨v, hv⟩ := Option.isSome_iff_exists.mp (List.all_eq_true.mp hval y hy)
      obtain ⟨c, o, u, a1, a2, a3, a4⟩ := C.h y v hv
      exact ⟨v, c, o, u, hv, a1, a2, a3, a4⟩
    refine ⟨by rw [List.length_map], fun y c e => ?_, fun x y c e1 e2 => hinj x y c (clo_cm hfree e1) (clo_cm hfree e2), fun i y e => ?_⟩
    · have ec := clo_cm hfree e
      rcases cloFrom_mem (PySem.mem_of_lookup e) with hm | ⟨h1, _⟩
      · cases hm
      · obtain ⟨v, c2, o, u, _, a1, a2, a3, _⟩ := get y (S.free _ h1 rfl)
        rw [ec] at a1
        cases a1
        exact ⟨delP_in a2, _, o, hg _ _ a2, a3⟩
    · have hy := List.mem_of_getElem? e
      obtain ⟨v, c, o, u, hv, a1, a2, a3, a4⟩ := get y hy
      refine ⟨c, clo_has hfree (PySem.mem_of_lookup (S.frk y hy)) a1, fun v' e' => ?_⟩
      rw [List.getElem?_map, e] at e'
      have e2 : val.lookup y = some v' := Option.some.inj e'
      rw [hv] at e2
      cases e2
      exact ⟨u, a4, o, hg _ _ a2, a3⟩
  -- the call
  have go : ∀ us : List Value, Vals ds us → BindsTo s (lfd q params body scope (cloFrom cells scope.names []) dV pm (.ref c') ctv) ⟨[], []⟩ (ps.zip us) → codeAny (model P w) A (.call (.ref f) ⟨[], []⟩) (CR (L2.CX P w) outer P w (delP pn H) s (fun v H' => Free H' pn → Q v (addP pn H')) (fun c d H' => Free H' pn → E c d (addP pn H'))) s := fun us ru hb => by
    refine PySem.W.kla_callFunE hr.depth ho rfl S.co S.gen rfl hcd (hb _ _ _ _ ?_)
    refine wpAny_newFunctionEnv S.nocell (fun ⟨n, _⟩ hy => S.par n (List.of_mem_zip hy).1) (fun h₁ hns hsb => ⟨lim.fresh _ hsb, ?_⟩) S.kind
    show codeAny _ _ (.expr body (envF (lnf q params scope (cloFrom cells scope.names []) c') f s.heap.objs.size)) _ _
    have kp : ∀ b o, s.heap.get? b = some o → h₁.get? b = some o := fun b o e => hsb.extBut b o (Nat.ne_of_lt (Heap.lt_size e)) (Heap.get?_push_of_some _ e)
    have J := inv_startN (CX := L2.CX P w) (f := f) (tk := s.toks + (ps.zip us).length) (F := lnf q params scope (cloFrom cells scope.names []) c') (E := fun c d H' => Free H' pn → E c d (addP pn H')) S hr.hd e1 B.len ru CA hns kp
    have est : startF (ps ++ fr) ds (fr.map fun y => val.lookup y) = ds.map some ++ fr.map fun y => val.lookup y := by
      unfold startF
      rw [List.length_append, List.length_map, B.len, show ps.length + fr.length - ps.length - fr.length = 0 by omega, List.replicate_zero, List.append_nil]
    rw [est] at J
    refine PySem.W.kla_codeExpr (wpAny_mono ((hbody A outer s (delP pn H) _ (hr.deeper _)).run [] _ _ _ (fun v H' => Free H' pn → Q v (addP pn H')) J ht) (fun v s' hq => ?_) fun e s' hq => hq)
    obtain ⟨w', H', J', rv, q'⟩ := hq
    exact ⟨w', H', J'.os, J'.bare, J'.base, J'.hok, rv, q'⟩
  have all : codeAny (model P w) A (.call (.ref f) ⟨[], []⟩) (CR (L2.CX P w) outer P w (delP pn H) s (fun v H' => Free H' pn → Q v (addP pn H')) (fun c d H' => Free H' pn → E c d (addP pn H'))) s := by
    rcases hD with ⟨e, rfl⟩ | ⟨hne, T, rfl, hT⟩
    · subst e
      refine go [] .nil ?_
      have : ps.zip ([] : List Value) = [] := List.zip_nil_right
      rw [this]
      exact .of_eq (B.b0 rfl q _ pm _ ctv)
    · obtain ⟨_, its, ri, o, hto, hcls, n, hdat⟩ := e0.hok T _ hT
      refine go its ri ?_
      obtain ⟨kk, k1, k2⟩ := B.b1 hne T q (cloFrom cells scope.names []) pm (.ref c') ctv its ri.length.symm
      intro M A' E' Q' hq
      rw [k1]
      refine wpAny_bind (wpAny_seqItems hto hdat ?_)
      rw [k2]
      exact wpAny_pure hq
  refine codeAny_mono all fun r s' hq => ?_
  cases r with
  | error e => exact cx_on l e0.hok nfr hq
  | ok fl =>
    cases fl with
    | ret u => exact ce_on l e0.hok nfr hq
    | next => exact False.elim hq
    | brk => exact False.elim hq
    | cont => exact False.elim hq
end
end Mh
/-! MhCallP -/
namespace Mh
open PySem PySem.Spec PyProof.Rows L2 LamX NdefX
/-! ### lambdas as values -/
/-- at f lies a lambda whose body reads t, which captures fr -/
structure LamP (P : Program) (w : World) (K : PySem.W.Frag) (mg : Str → Option Value) (base : Heap) (k : Nat) (cells : List (Str × Addr)) (fr : List Str) (ds : List V) (t : XK → TE) (f : Addr) (H1 : Hp) : Prop where
  ex : ∃ lie : Hp → Prop, lie H1 ∧ (∀ M H H', lie H → Fx M H H' → (∀ b ∈ M, ∀ p, H b ≠ some (.ext p)) → lie H') ∧ ∀ (val : List (Str × V)) (pn : Pins), fr.all (fun y => (val.lookup y).isSome) = true → CapP cells val pn →
    LHeld P w K mg base k f (fun H Q E => lie H ∧ Lie H pn ∧ t (fun c d H' => Free H' pn → E c d (addP pn H')) (ds.map some ++ fr.map fun y => val.lookup y) (delP pn H) (fun v H' => Free H' pn → Q v (addP pn H')))
theorem LamP.up {P : Program} {w : World} {K : PySem.W.Frag} {mg : Str → Option Value} {base : Heap} {k : Nat} {cells : List (Str × Addr)} {fr : List Str} {ds : List V} {t : XK → TE} {f : Addr} {H1 H2 : Hp} (x : LamP P w K mg base k cells fr ds t f H1) (g : Fx [] H1 H2) : LamP P w K mg base k cells fr ds t f H2 :=
  let ⟨lie, a, b, c⟩ := x.ex; ⟨lie, b _ _ _ a g (fun _ m => nomatch m), b, c⟩
/-- .. while a table is written -/
theorem LamP.upT {P : Program} {w : World} {K : PySem.W.Frag} {mg : Str → Option Value} {base : Heap} {k : Nat} {cells : List (Str × Addr)} {fr : List Str} {ds : List V} {t : XK → TE} {f : Addr} {H1 H2 : Hp} {T : List (Addr × Str)} {Pt : Addr} {q : Str} (x : LamP P w K mg base k cells fr ds t f H1) (hT : Tabs T H1) (m : (Pt, q) ∈ T) (g : Fx [Pt] H1 H2) : LamP P w K mg base k cells fr ds t f H2 :=
  let ⟨lie, a, b, c⟩ := x.ex; ⟨lie, b _ _ _ a g (fun _ m2 p e => by rw [List.mem_singleton.mp m2] at e; obtain ⟨qs, h, _⟩ := hT _ m; have h : H1 Pt = some (.tbl qs) := h; rw [h] at e; cases e), b, c⟩
/-- the reading: the lambda's object is new -/
def tLamR (P : Program) (w : World) (K : PySem.W.Frag) (mg : Str → Option Value) (base : Heap) (T : List (Addr × Str)) (Pt : Addr) (k : Nat) (cells : List (Str × Addr)) (fr : List Str) (ds : List V) (t : XK → TE) : TE := fun _ H Q =>
  Tabs T H ∧ ∀ (f : Addr) (H1 : Hp), Fx [Pt] H H1 → Tabs T H1 → H f = none → H1 f ≠ none → LamP P w K mg base k cells fr ds t f H1 → Q (.ref f) H1
section
variable {X : Cx}
theorem lam_end {k : Nat} {ps fr : List Str} {ds : List V} {t : XK → TE} {q : Str} {params : Arguments} {body : Expr} {scope : Scope} {dV pm ctv : Value} {f c' : Addr} {H1 : Hp} (hcl : X.Ok) (hfree : ∀ y ∈ scope.names, y.2 = .free → ∃ c, X.env.cells.lookup y.1 = some c)
    (S : NScope (ps ++ fr) ps fr scope) (B : LBind ps ds params body scope)
    (hbody : ∀ (cl : List (Str × Addr)) (f c' : Addr) (A : Around) (outer : List Env) (s : Shared) (H : Hp) (E : XK), Room k (A.deeper (envF (lnf q params scope cl c') f s.heap.objs.size)) → PE (lcx X.prog X.w X.K X.mg X.base (ps ++ fr) q params scope cl c' f A outer s H E) body (t E))
    (hf : H1 f = some (pinO (lfo q params body scope (cloFrom X.env.cells scope.names []) dV pm (.ref c') ctv))) (hc : H1 c' = some (CodeO c' q)) (hD : DefAt H1 dV ds) : LamP X.prog X.w X.K X.mg X.base (k + 1) X.env.cells fr ds t f H1 := by
  refine ⟨fun H => H f = some (pinO (lfo q params body scope (cloFrom X.env.cells scope.names []) dV pm (.ref c') ctv)) ∧ H c' = some (CodeO c' q) ∧ DefAt H dV ds, ⟨hf, hc, hD⟩, fun M H H' ⟨a, b, d⟩ g m => ⟨g.z _ _ _ a, g.to b (fun z => m _ z _ b), d.fx g⟩, fun val pn hv C => ?_⟩
  exact (lam_held hcl.inj hfree S hv C B (fun A outer s H E hr => hbody _ f c' A outer s H E hr)).imp fun H Q E ⟨⟨a, b, d⟩, l, z⟩ => ⟨l, a, b, d, z⟩
/-- lambda: body -/
theorem pe_lam0 {T : List (Addr × Str)} {c Pt : Addr} {k : Nat} {fr : List Str} {t : XK → TE} {params : Arguments} {body : Expr} {scope : Scope} {pos : Pos} (TB : TabB X.base X.mg c Pt) (hcode : X.env.code = .ref c) (hm : (Pt, X.env.qual ++ "<lambda>") ∈ T) (hu : ∀ p ∈ T, p.1 = Pt → p.2 = X.env.qual ++ "<lambda>")
    (hB : ndefB X.env.scope scope fr = true) (S : NScope ([] ++ fr) [] fr scope) (B : LBind [] [] params body scope) (hdef : defaultsOf params X.env = ([], []))
    (hbody : ∀ (cl : List (Str × Addr)) (f c' : Addr) (A : Around) (outer : List Env) (s : Shared) (H : Hp) (E : XK), Room k (A.deeper (envF (lnf (X.env.qual ++ "<lambda>") params scope cl c') f s.heap.objs.size)) → PE (lcx X.prog X.w X.K X.mg X.base ([] ++ fr) (X.env.qual ++ "<lambda>") params scope cl c' f A outer s H E) body (t E)) :
    PE X (.Lambda params body scope pos) (tLamR X.prog X.w X.K X.mg X.base T Pt (k + 1) X.env.cells fr [] t) := by
  refine ⟨fun pins s σ H Q I h => ?_⟩
  obtain ⟨hT, h⟩ := h
  have hfree : ∀ y ∈ scope.names, y.2 = .free → ∃ c, X.env.cells.lookup y.1 = some c := fun y hy e => (ndef_free hB y hy e).elim (fun z => I.ok.has _ (.inl z)) fun z => I.ok.has _ (.inr z)
  refine lam_eval0 hdef (lam_mk I TB hcode hm hu hT hfree fun f c' pm ctv H1 s' I1 g T1 n e1 e2 => ?_)
  exact ⟨.ref f, H1, I1, rfl, h f H1 g T1 n (by rw [e1]; exact fun z => nomatch z) (lam_end I.ok hfree S B hbody e1 e2 (.inl ⟨rfl, rfl⟩))⟩
/-- lambda x=e: body -/
theorem pe_lam1 {T : List (Addr × Str)} {c Pt : Addr} {k : Nat} {x : Str} {fr : List Str} {e : Expr} {v : V} {t : XK → TE} {params : Arguments} {body : Expr} {scope : Scope} {pos : Pos} (TB : TabB X.base X.mg c Pt) (hcode : X.env.code = .ref c) (hm : (Pt, X.env.qual ++ "<lambda>") ∈ T) (hu : ∀ p ∈ T, p.1 = Pt → p.2 = X.env.qual ++ "<lambda>")
    (hB : ndefB X.env.scope scope fr = true) (S : NScope ([x] ++ fr) [x] fr scope) (B : LBind [x] [v] params body scope) (hdef : defaultsOf params X.env = ([eval e X.env], [])) (he : PE X e (tC v))
    (hbody : ∀ (cl : List (Str × Addr)) (f c' : Addr) (A : Around) (outer : List Env) (s : Shared) (H : Hp) (E : XK), Room k (A.deeper (envF (lnf (X.env.qual ++ "<lambda>") params scope cl c') f s.heap.objs.size)) → PE (lcx X.prog X.w X.K X.mg X.base ([x] ++ fr) (X.env.qual ++ "<lambda>") params scope cl c' f A outer s H E) body (t E)) :
    PE X (.Lambda params body scope pos) (tLamR X.prog X.w X.K X.mg X.base T Pt (k + 1) X.env.cells fr [v] t) := by
  refine ⟨fun pins s σ H Q I h => ?_⟩
  obtain ⟨hT, h⟩ := h
  refine lam_eval1 hdef (thn (he.run pins s σ H (fun v' H' => v' = v ∧ H' = H) I ⟨rfl, rfl⟩) fun u s1 hu1 => ?_)
  obtain ⟨v', H', I1, ru, ev, eH⟩ := hu1
  subst ev
  rw [eH] at I1
  have kp : ∀ b o, s1.heap.get? b = some o → (s1.heap.push { cls := .type "tuple", data := .seq [u].toArray }).get? b = some o := fun b o e => Heap.get?_push_of_some _ e
  have hget : (s1.heap.push { cls := .type "tuple", data := .seq [u].toArray }).get? s1.heap.objs.size = some { cls := .type "tuple", data := .seq [u].toArray } := Heap.get?_push_size _ rfl
  have nT : H s1.heap.objs.size = none := I1.hok.fresh (Nat.le_refl _)
  have I2 := I1.laid (t' := s1.toks) (a := s1.heap.objs.size) (o := .tup [v']) kp (Nat.le_refl _) ⟨by show 1 ≤ sizeLine; decide, [u], .cons ru .nil, _, hget, rfl, _, rfl⟩
  have g0 : Fx [] H (upd H s1.heap.objs.size (.tup [v'])) := Fx.new nT
  have ht : upd H s1.heap.objs.size (.tup [v']) s1.heap.objs.size = some (.tup [v']) := upd_same
  have hfree : ∀ y ∈ scope.names, y.2 = .free → ∃ c, X.env.cells.lookup y.1 = some c := fun y hy e => (ndef_free hB y hy e).elim (fun z => I.ok.has _ (.inl z)) fun z => I.ok.has _ (.inr z)
  refine lam_mk I2 TB hcode hm hu (Tabs.fx hT g0) hfree fun f c' pm ctv H1 s' I3 g T1 n e1 e2 => ?_
  exact ⟨.ref f, H1, I3, rfl, h f H1 (g0.nil.trans g) T1 (g0.free n) (by rw [e1]; exact fun z => nomatch z) (lam_end I.ok hfree S B hbody e1 e2 (.inr ⟨List.cons_ne_nil _ _, _, rfl, g.t _ _ ht⟩))⟩
end
/-! ### a def called while the caller's cells are pinned -/
/-- the reading: caps, the names and slots of the cells -/
def tCallP (cells : List (Str × Addr)) (caps : List (Str × Nat)) (sp : Sp) (E : XK) (t : TA) : TE := fun σ H Q => t σ H fun vs H1 => ∃ ws : List V, caps.map (fun q => σ[q.2]?) = ws.map (fun v => some (some v)) ∧
  ∀ pn : Pins, CapP cells ((caps.map (·.1)).zip ws) pn → Free H1 pn → sp vs (addP pn H1) (fun v H' => Q v (delP pn H')) (fun c d H' => E c d (delP pn H'))
def capsB (N : List Str) (sc : Scope) (caps : List (Str × Nat)) : Bool := caps.all fun q => decide (N[q.2]? = some q.1) && decide (sc.names.lookup q.1 = some .cell)
section
variable {X : Cx} {pins : List (Addr × Obj)} {σ : L2.St} {H : Hp} {s : Shared} {caps : List (Str × Nat)} {ws : List V}
theorem lookup_mapSelf {β : Type} (g : Addr → β) : ∀ (l : List Addr) (a : Addr), (l.map fun a => (a, g a)).lookup a = if a ∈ l then some (g a) else none
  | [], a => rfl
  | b :: l, a => by
    rw [List.map_cons, List.lookup_cons]
    by_cases e : a = b
    · subst e
      rw [beq_self_eq_true, if_pos List.mem_cons_self]
    · have e1 : (a == b) = false := by simpa using e
      rw [e1, lookup_mapSelf g l a]
      by_cases h : a ∈ l
      · rw [if_pos h, if_pos (List.mem_cons_of_mem _ h)]
      · rw [if_neg h, if_neg fun z => (List.mem_cons.mp z).elim e h]
theorem lookup_zip {α β : Type} [BEq α] [LawfulBEq α] : ∀ {ks : List α} {vs : List β} {y : α} {v : β}, (ks.zip vs).lookup y = some v → ∃ i : Nat, ks[i]? = some y ∧ vs[i]? = some v
  | [], _, _, _, h => by simp at h
  | _ :: _, [], _, _, h => by simp at h
  | k :: ks, w :: vs, y, v, h => by
    rw [List.zip_cons_cons, List.lookup_cons] at h
    cases e : (y == k) with
    | true =>
      rw [e] at h
      have := eq_of_beq e
      subst this
      exact ⟨0, rfl, h⟩
    | false =>
      rw [e] at h
      obtain ⟨i, h1, h2⟩ := lookup_zip h
      exact ⟨i + 1, h1, h2⟩
/-- the caller's cells, pinned -/
theorem pins_of (I : Inv X pins σ H s) (hfn : ∀ x, X.fn x = true) (hc : capsB X.N X.env.scope caps = true) (hw : caps.map (fun q => σ[q.2]?) = ws.map (fun v => some (some v))) :
    ∃ pn : Pins, CapP X.env.cells ((caps.map (·.1)).zip ws) pn ∧ Free H pn ∧ PinsAt X.base X.stack s.heap pn ∧ ∀ a o, pn.lookup a = some o → ∃ x, X.env.cells.lookup x = some a := by
  have cell : ∀ (i : Nat) (q : Str × Nat) (v : V), caps[i]? = some q → ws[i]? = some v → ∃ (c : Addr) (o : Obj) (u : Value), X.env.cells.lookup q.1 = some c ∧ s.heap.get? c = some o ∧ o.data = .cell (some u) ∧ RelV v u := fun i q v h1 h2 => by
    obtain ⟨a1, a2⟩ := Bool.and_eq_true_iff.mp (List.all_eq_true.mp hc q (List.mem_of_getElem? h1))
    have a1 := of_decide_eq_true a1
    have a2 := of_decide_eq_true a2
    have e : σ[q.2]? = some (some v) := by
      have := congrArg (·[i]?) hw
      simp only [List.getElem?_map, h1, h2, Option.map_some] at this
      exact Option.some.inj this
    obtain ⟨m, hn, hl⟩ := I.loc
    obtain ⟨u, ru, l⟩ := hl q.2 q.1 v a1 e (.inr (.inl a2))
    rcases l with ⟨z, _⟩ | ⟨_, c, e1, o, e2, e3⟩
    · have z' : X.env.scope.names.lookup q.1 = some .local := z
      rw [a2] at z'
      cases z'
    · exact ⟨c, o, u, e1, e2, e3, ru⟩
  let as : List Addr := caps.filterMap fun q => X.env.cells.lookup q.1
  have hlk : ∀ a o, (as.map fun a => (a, (s.heap.get? a).getD default)).lookup a = some o → ∃ q ∈ caps, X.env.cells.lookup q.1 = some a ∧ o = (s.heap.get? a).getD default := fun a o e => by
    rw [lookup_mapSelf] at e
    split at e
    · rename_i hm
      obtain ⟨q, hq, e1⟩ := List.mem_filterMap.mp hm
      exact ⟨q, hq, e1, (Option.some.inj e).symm⟩
    · cases e
  have hat : ∀ a o, (as.map fun a => (a, (s.heap.get? a).getD default)).lookup a = some o → s.heap.get? a = some o ∧ ∃ x, X.env.cells.lookup x = some a := fun a o e => by
    obtain ⟨q, _, e1, e2⟩ := hlk a o e
    obtain ⟨v, o', e3, _⟩ := I.cell _ _ e1
    rw [e3] at e2
    exact ⟨by rw [e2]; exact e3, q.1, e1⟩
  refine ⟨as.map fun a => (a, (s.heap.get? a).getD default), ⟨fun y v e => ?_⟩, fun a o e => ?_, ⟨fun a o e => (hat a o e).1, fun a o e m => ?_, fun a o e => ?_⟩, fun a o e => (hat a o e).2⟩
  · obtain ⟨i, h1, h2⟩ := lookup_zip e
    rw [List.getElem?_map] at h1
    obtain ⟨q, hq, rfl⟩ := Option.map_eq_some_iff.mp h1
    obtain ⟨c, o, u, e1, e2, e3, e4⟩ := cell i q v hq h2
    refine ⟨c, o, u, e1, ?_, e3, e4⟩
    rw [lookup_mapSelf, if_pos (List.mem_filterMap.mpr ⟨q, List.mem_of_getElem? hq, e1⟩), e2]
    rfl
  · obtain ⟨_, x, e1⟩ := hat a o e
    exact I.freeC x a e1
  · obtain ⟨_, x, e1⟩ := hat a o e
    have lo : a ∈ frs X.outer → False := fun hb => by
      obtain ⟨_, o2, e2, _⟩ := I.ok.funs.mem hb
      exact absurd (Nat.lt_of_lt_of_le (Heap.lt_size e2) (I.ok.cab x a (hfn x) e1)) (Nat.lt_irrefl _)
    rcases I.ok.stk with h | ⟨h, hf⟩
    · rw [h] at m; exact lo m
    · rw [h] at m
      obtain ⟨env, he, e3⟩ := List.mem_filterMap.mp m
      rcases List.mem_cons.mp he with rfl | he
      · rw [hf] at e3
        exact I.cne x a e1 (Option.some.inj e3).symm
      · exact lo (List.mem_filterMap.mpr ⟨env, he, e3⟩)
  · obtain ⟨_, x, e1⟩ := hat a o e
    have := I.ok.cab x a (hfn x) e1
    exact Heap.get?_none_of_le (Nat.le_trans I.ok.bsz this)
theorem pe_defP {k : Nat} {ps : List Str} {sp : Sp} {x : Str} {p pos : Pos} {e : Expr} {es : List Expr} {t : TA} (F : Def X.prog X.w X.K X.mg X.base CX0 k x ps sp) (hr : Room k X.A) (hfn : ∀ x, X.fn x = true) (hc : capsB X.N X.env.scope caps = true) (ha : PA X (e :: es) t) (hg : Gl X x := by rfl) (hdb : (x == ("__debug__" : Str)) = false := by decide)
    (he : starEach (e :: es) X.env = (false, eval e X.env) :: starEach es X.env := by rfl) (hpl : (backTo pos (starEach es X.env)).any (·.1) = false := by rfl) :
    PE X (.Call (.Name x p) (e :: es) [] pos) (tCallP X.env.cells caps sp E0 t) := by
  obtain ⟨f, fd, F1, hb, g, kp⟩ := F.ex
  refine ⟨fun pins s σ H Q I h => ?_⟩
  refine wpAny_Call_Name_kw (ld_glob I hg g ?_ hdb)
  refine PySem.W.callWith_K (h₀ := X.base) I.ok.mod.kin kp (thn (ha.run pos pins s σ H _ I h) fun us s1 ⟨vs, H1, I1, r, ws, hw, q⟩ => ⟨I1.kIn, ?_⟩) he hpl
  obtain ⟨pn, C, n, pa, _⟩ := pins_of I1 hfn hc hw
  have hsp := q pn C n
  have hl : us.length = ps.length := by rw [← r.length]; exact F1.len _ _ _ _ hsp
  have b := hb s1 us I1.kIn (by rw [List.append_nil]; exact hl)
  rw [List.append_nil] at b
  refine wpAny_call (codeAny_mono (F1.run X.A X.stack s1 (addP pn H1) ⟨us, []⟩ us vs _ _ hr (Env0.addP I1.env0 n pa) b r hsp) fun r s' hq => ?_)
  cases r with
  | error e => exact False.elim hq
  | ok fl =>
    cases fl with
    | ret u => exact I1.after (ce_off n (fun a o e => ⟨pa.g a o e, pa.f a o e⟩) hq)
    | next => exact False.elim hq
    | brk => exact False.elim hq
    | cont => exact False.elim hq
end
/-! ### a local name called that holds such a lambda -/
def tCallH (P : Program) (w : World) (K : PySem.W.Frag) (mg : Str → Option Value) (base : Heap) (k i : Nat) (E : L2.St → XK) : TE := fun σ H Q => ∃ (f : Addr) (sp : Hp → VK → XK → Prop), σ[i]? = some (some (.ref f)) ∧ LHeld P w K mg base k f sp ∧ sp H Q (E σ)
theorem pe_callH {X : Cx} {k i : Nat} {x : Str} {p pos : Pos} {W : WX} (hr : Room k X.A) (hN : X.N[i]? = some x) (hv : Vis X.env.scope x) (tk : Takes X W) (hd : (x == ("__debug__" : Str)) = false := by decide) (hcd : (x == ("__classdict__" : Str)) = false := by decide) :
    PE X (.Call (.Name x p) [] [] pos) (tCallH X.prog X.w X.K X.mg X.base k i (WE W)) := by
  refine ⟨fun pins s σ H Q I h => ?_⟩
  obtain ⟨f, sp, hs, L, hsp⟩ := h
  refine wpAny_Call_Name_kw (thn ((pe_var (pos := p) hN hv hd hcd).run pins s σ H (fun v H1 => v = .ref f ∧ H1 = H) I ⟨.ref f, hs, rfl, rfl⟩) fun u s1 ⟨v, H1, I1, r1, ev, eH⟩ => ?_)
  subst ev
  rw [eH] at I1
  obtain rfl : u = Value.ref f := r1
  obtain ⟨fd, hf⟩ := L.fn _ _ _ hsp
  refine PySem.W.callWith_F0 (first := []) ⟨_, _, _, _, pin_at I1.hok hf⟩ ?_
  show wpAny _ _ (call (.ref f) []) _ _ _
  refine wpAny_call (codeAny_mono (L.run X.A X.stack s1 H Q (WE W σ) hr I1.env0 hsp) fun r s' hq => ?_)
  cases r with
  | error e => exact passAt tk σ pins H s1 e s' I1 hq
  | ok fl =>
    cases fl with
    | ret u => exact I1.after hq
    | next => exact False.elim hq
    | brk => exact False.elim hq
    | cont => exact False.elim hq
theorem xpe_callH {X : Cx} {P : Program} {w : World} {K : PySem.W.Frag} {mg : Str → Option Value} {base : Heap} {k i : Nat} {x : Str} {p pos : Pos} {W : WX} (e1 : X.prog = P) (e2 : X.w = w) (e3 : X.K = K) (e4 : X.mg = mg) (e5 : X.base = base) (hr : Room k X.A) (hN : X.N[i]? = some x) (hv : Vis X.env.scope x) (tk : Takes X W) (hd : (x == ("__debug__" : Str)) = false := by decide) (hcd : (x == ("__classdict__" : Str)) = false := by decide) :
    PE X (.Call (.Name x p) [] [] pos) (tCallH P w K mg base k i (WE W)) := by
  subst e1 e2 e3 e4 e5
  exact pe_callH hr hN hv tk hd hcd
theorem pssNever {X : Cx} {sts : List Stmt} : PSs X sts (fun _ _ _ => False) := ⟨fun _ _ _ _ _ _ h => h.elim⟩
end Mh
/-! MhWord -/
namespace Mh
open PySem PySem.Spec PyProof.Rows L2
/-! ### the word of what is refused -/
def WDS : List Str := ["question", "seed", "name", "many", "taken", "nomachine", "notask", "score", "norun", "notranked", "share", "notahead", "nopage", "machine", "text", "task", "deed"]
def wd (x : Str) : Str := WDS.getD (EXS.idxOf x) ""
def kindsX (x : Str) : List V := EXS.map fun y => V.bl (decide (x = y))
theorem kinds_cnt : ∀ x ∈ EXS, cntV (.bl true) (kindsX x) = 1 := by decide +kernel
theorem kinds_at : ∀ x ∈ EXS, (kindsX x)[EXS.idxOf x]? = some (.bl true) := by decide +kernel
theorem kinds_no : ∀ x ∈ EXS, ((kindsX x).take (EXS.idxOf x)).all (fun z => !eqV z (.bl true)) = true := by decide +kernel
theorem kinds_flat (x : Str) : (kindsX x).all flatV = true := rfl
theorem idx_lt : ∀ x ∈ EXS, EXS.idxOf x < 17 := by decide +kernel
theorem wds_at : ∀ x ∈ EXS, (WDS.map V.str)[EXS.idxOf x]? = some (.str (wd x)) := by decide +kernel
/-- the field in which the number is kept -/
def xfd (x : Str) : Option Str := if x = "BadMachine" ∨ x = "BadText" then some "row" else if x = "BadTask" ∨ x = "BadDeed" then some "number" else none
theorem wd_in1 : ∀ x ∈ EXS, inV (.str (wd x)) [.str "machine", .str "text"] = decide (xfd x = some "row") := by decide +kernel
theorem wd_in2 : ∀ x ∈ EXS, inV (.str (wd x)) [.str "task", .str "deed"] = decide (xfd x = some "number") := by decide +kernel
theorem xfd_none : ∀ x ∈ EXS, decide (xfd x = some "row") = false → decide (xfd x = some "number") = false → xfd x = none := by decide +kernel
structure Refd (K : PySem.W.Frag) (mg : Str → Option Value) (x : Str) (r : Int) (cls : Value) (d : Option Addr) (H : Hp) : Prop where
  m : x ∈ EXS
  k : ExK K mg x
  c : cls = xC K x
  f : match xfd x with
    | none => d = none ∧ r = 0
    | some f => PySem.W.findIn K (xC K x) f = some none ∧ ∃ dd, d = some dd ∧ H dd = some (.xd [(f, .int r)])
theorem Refd.cau {K : PySem.W.Frag} {mg : Str → Option Value} {x : Str} {r : Int} {cls : Value} {d : Option Addr} {H : Hp} (R : Refd K mg x r cls d H) : Cau K cls d (He.ga K x) H := by
  refine ⟨R.c, R.k.c, ?_⟩
  have := R.f
  split at this
  · exact .inl this.1
  · obtain ⟨_, dd, e, h⟩ := this
    exact .inr ⟨dd, _, e, h⟩
def spWordOf (P : Program) (w : World) (K : PySem.W.Frag) (mg : Str → Option Value) (base : Heap) : Sp := fun vs H Q _ => ∃ (f : Addr) (sp : Hp → VK → XK → Prop), vs = [.ref f] ∧ LHeld P w K mg base 15 f sp ∧
  ∀ (Q' : VK) (E' : XK), (∀ v H', Q .non H' → Q' v H') → (∀ cls d H', (∃ x r, Refd K mg x r cls d H' ∧ ∀ H'' p, Fx [] H' H'' → H' p = none → H'' p = some (.tup [.str (wd x), .int r]) → Q (.ref p) H'') → E' cls d H') → sp H Q' E'
theorem sc_l_word_of : FnScope ["_law_work", "_law_kinds", "_law_names", "_law_name", "_law_e"] ["_law_work"] (defScope s_l_word_of) := ⟨rfl, rfl, rfl, by decide +kernel, rfl, by decide +kernel, by decide +kernel⟩
theorem ok_l_word_of {P : Program} {w : World} {K : PySem.W.Frag} {mg : Str → Option Value} {base : Heap} (T : Tx K mg) : Def P w K mg base CX0 17 "_law_word_of" ["_law_work"] (spWordOf P w K mg base) := by
  obtain ⟨fd, F⟩ := T.d_l_word_of
  refine ⟨_, fd, F.ok sc_l_word_of (fun vs H Q E h => ?_) (fun cdv A outer s H vs Q E hr h => ?_), F.bindsN fun _ _ _ _ _ _ us hl => match us, hl with | [_], _ => rfl, T.g_l_word_of, F.kp⟩
  · obtain ⟨f, sp, rfl, _⟩ := h
    rfl
  · obtain ⟨f, sp, rfl, L, h⟩ := h
    refine ⟨_, PSs.nox (pss_cons (ps_try_as (i := 4) rfl rfl sc_l_word_of.nd rfl rfl ⟨rfl, by decide, .inl T.g_HallError⟩ L2.takes0 (fun W pn xe tk _ => (pss_one (ps_expr (xpe_callH (P := P) (w := w) (K := K) (mg := mg) (base := base) (k := 15) (i := 0) rfl rfl rfl rfl rfl (hr.mono (by omega)) rfl (by first | exact Or.inl rfl | exact Or.inr (Or.inl rfl)) tk))))
        (fun a oe cls d pn hz hf => (pss_cons (ps_if (pt_not (pt_val (pe_callB (xcall_isX (K := K) rfl hz hf) (by rfl) T.f_isinstance (by decide +kernel) (pa_cons (pv 4) (pa_cons (gT (n := "ValueError") T.f_ValueError) pa_nil)))))
        (pss_one (ps_ret (pe_tup (pa_cons pe_str (pa_cons pe_int pa_nil)))))
        pss_nil)
        (pss_cons (ps_set (i := 1) sc_l_word_of.nd rfl (by first | exact Or.inl rfl | exact Or.inr rfl) (pe_lst (pa_cons (pe_callB (xcall_isX (K := K) rfl hz hf) (by rfl) T.f_isinstance (by decide +kernel) (pa_cons (pv 4) (pa_cons (pe_glob (v := V.ref (He.ga K "BadQuestion")) (by rfl) T.g_BadQuestion rfl) pa_nil))) (pa_cons (pe_callB (xcall_isX (K := K) rfl hz hf) (by rfl) T.f_isinstance (by decide +kernel) (pa_cons (pv 4) (pa_cons (pe_glob (v := V.ref (He.ga K "BadSeed")) (by rfl) T.g_BadSeed rfl) pa_nil))) (pa_cons (pe_callB (xcall_isX (K := K) rfl hz hf) (by rfl) T.f_isinstance (by decide +kernel) (pa_cons (pv 4) (pa_cons (pe_glob (v := V.ref (He.ga K "BadName")) (by rfl) T.g_BadName rfl) pa_nil))) (pa_cons (pe_callB (xcall_isX (K := K) rfl hz hf) (by rfl) T.f_isinstance (by decide +kernel) (pa_cons (pv 4) (pa_cons (pe_glob (v := V.ref (He.ga K "TooMany")) (by rfl) T.g_TooMany rfl) pa_nil))) pa_nil))))))
        (pss_cons (ps_set (i := 1) sc_l_word_of.nd rfl (by first | exact Or.inl rfl | exact Or.inr rfl) (pe_op op_cat (pv 1) (pe_lst (pa_cons (pe_callB (xcall_isX (K := K) rfl hz hf) (by rfl) T.f_isinstance (by decide +kernel) (pa_cons (pv 4) (pa_cons (pe_glob (v := V.ref (He.ga K "Taken")) (by rfl) T.g_Taken rfl) pa_nil))) (pa_cons (pe_callB (xcall_isX (K := K) rfl hz hf) (by rfl) T.f_isinstance (by decide +kernel) (pa_cons (pv 4) (pa_cons (pe_glob (v := V.ref (He.ga K "NoMachine")) (by rfl) T.g_NoMachine rfl) pa_nil))) (pa_cons (pe_callB (xcall_isX (K := K) rfl hz hf) (by rfl) T.f_isinstance (by decide +kernel) (pa_cons (pv 4) (pa_cons (pe_glob (v := V.ref (He.ga K "NoTask")) (by rfl) T.g_NoTask rfl) pa_nil))) pa_nil))))))
        (pss_cons (ps_set (i := 1) sc_l_word_of.nd rfl (by first | exact Or.inl rfl | exact Or.inr rfl) (pe_op op_cat (pv 1) (pe_lst (pa_cons (pe_callB (xcall_isX (K := K) rfl hz hf) (by rfl) T.f_isinstance (by decide +kernel) (pa_cons (pv 4) (pa_cons (pe_glob (v := V.ref (He.ga K "BadScore")) (by rfl) T.g_BadScore rfl) pa_nil))) (pa_cons (pe_callB (xcall_isX (K := K) rfl hz hf) (by rfl) T.f_isinstance (by decide +kernel) (pa_cons (pv 4) (pa_cons (pe_glob (v := V.ref (He.ga K "NoRun")) (by rfl) T.g_NoRun rfl) pa_nil))) (pa_cons (pe_callB (xcall_isX (K := K) rfl hz hf) (by rfl) T.f_isinstance (by decide +kernel) (pa_cons (pv 4) (pa_cons (pe_glob (v := V.ref (He.ga K "NotRanked")) (by rfl) T.g_NotRanked rfl) pa_nil))) pa_nil))))))
        (pss_cons (ps_set (i := 1) sc_l_word_of.nd rfl (by first | exact Or.inl rfl | exact Or.inr rfl) (pe_op op_cat (pv 1) (pe_lst (pa_cons (pe_callB (xcall_isX (K := K) rfl hz hf) (by rfl) T.f_isinstance (by decide +kernel) (pa_cons (pv 4) (pa_cons (pe_glob (v := V.ref (He.ga K "BadShare")) (by rfl) T.g_BadShare rfl) pa_nil))) (pa_cons (pe_callB (xcall_isX (K := K) rfl hz hf) (by rfl) T.f_isinstance (by decide +kernel) (pa_cons (pv 4) (pa_cons (pe_glob (v := V.ref (He.ga K "NotAhead")) (by rfl) T.g_NotAhead rfl) pa_nil))) (pa_cons (pe_callB (xcall_isX (K := K) rfl hz hf) (by rfl) T.f_isinstance (by decide +kernel) (pa_cons (pv 4) (pa_cons (pe_glob (v := V.ref (He.ga K "NoPage")) (by rfl) T.g_NoPage rfl) pa_nil))) pa_nil))))))
        (pss_cons (ps_set (i := 1) sc_l_word_of.nd rfl (by first | exact Or.inl rfl | exact Or.inr rfl) (pe_op op_cat (pv 1) (pe_lst (pa_cons (pe_callB (xcall_isX (K := K) rfl hz hf) (by rfl) T.f_isinstance (by decide +kernel) (pa_cons (pv 4) (pa_cons (pe_glob (v := V.ref (He.ga K "BadMachine")) (by rfl) T.g_BadMachine rfl) pa_nil))) (pa_cons (pe_callB (xcall_isX (K := K) rfl hz hf) (by rfl) T.f_isinstance (by decide +kernel) (pa_cons (pv 4) (pa_cons (pe_glob (v := V.ref (He.ga K "BadText")) (by rfl) T.g_BadText rfl) pa_nil))) (pa_cons (pe_callB (xcall_isX (K := K) rfl hz hf) (by rfl) T.f_isinstance (by decide +kernel) (pa_cons (pv 4) (pa_cons (pe_glob (v := V.ref (He.ga K "BadTask")) (by rfl) T.g_BadTask rfl) pa_nil))) pa_nil))))))
        (pss_cons (ps_expr (xpe_bm (K := K) rfl PySem.F.plainAttrs_list PySem.F.slot_list_append PySem.F.type_list_append mt_append (pv 1) (pa_cons (pe_callB (xcall_isX (K := K) rfl hz hf) (by rfl) T.f_isinstance (by decide +kernel) (pa_cons (pv 4) (pa_cons (pe_glob (v := V.ref (He.ga K "BadDeed")) (by rfl) T.g_BadDeed rfl) pa_nil))) pa_nil)))
        (pss_cons (ps_if (pt_cmpR op_ne (xpe_bm (K := K) rfl PySem.F.plainAttrs_list PySem.F.slot_list_count PySem.F.type_list_count (xmt_countF (K := K) rfl) (pv 1) (pa_cons pe_bl pa_nil)) pe_int (nomark _))
        (pss_one (ps_ret (pe_tup (pa_cons pe_str (pa_cons pe_int pa_nil)))))
        pss_nil)
        (pss_cons (ps_set (i := 2) sc_l_word_of.nd rfl (by first | exact Or.inl rfl | exact Or.inr rfl) (pe_lst (pa_cons pe_str (pa_cons pe_str (pa_cons pe_str (pa_cons pe_str (pa_cons pe_str (pa_cons pe_str (pa_cons pe_str (pa_cons pe_str (pa_cons pe_str (pa_cons pe_str pa_nil))))))))))))
        (pss_cons (ps_set (i := 3) sc_l_word_of.nd rfl (by first | exact Or.inl rfl | exact Or.inr rfl) (pe_ix (kix_list (K := K) rfl) (pe_op op_cat (pv 2) (pe_lst (pa_cons pe_str (pa_cons pe_str (pa_cons pe_str (pa_cons pe_str (pa_cons pe_str (pa_cons pe_str (pa_cons pe_str pa_nil))))))))) (xpe_bm (K := K) rfl PySem.F.plainAttrs_list PySem.F.slot_list_index PySem.F.type_list_index (xmt_index (K := K) rfl) (pv 1) (pa_cons pe_bl pa_nil)) (fun _ _ => rfl)))
        (pss_cons (ps_if (pt_cmpR (kop_in (K := K) rfl) (pv 3) (pe_tup (pa_cons pe_str (pa_cons pe_str pa_nil))) (by rfl))
        (pss_one (ps_ret (pe_tup (pa_cons (pv 3) (pa_cons (xpe_xf2 (K := K) rfl hz hf (pv 4)) pa_nil)))))
        pss_nil)
        (pss_one (ps_ret (pe_tup (pa_cons (pv 3) (pa_cons (pe_ifExp (pt_cmpR (kop_in (K := K) rfl) (pv 3) (pe_tup (pa_cons pe_str (pa_cons pe_str pa_nil))) (by rfl)) (xpe_xf2 (K := K) rfl hz hf (pv 4)) pe_int) pa_nil))))))))))))))))))
        (pss_one (ps_ret pe_non))), ?_⟩
    refine ⟨f, sp, rfl, L, h _ _ (fun v H' q => q) (fun cls d H1 ⟨x, r, R, q⟩ => ⟨true, by rw [R.c]; exact R.k.he, fun _ a ha => ?_, fun z => nomatch z⟩)⟩
    have C := R.cau
    have is : ∀ (y : Str) (Q : VK) (σ : L2.St) (H : Hp), Cau K cls d (He.ga K x) H → σ[4]? = some (some (.ref a)) → y ∈ EXS → Q (.bl (decide (x = y))) H → tCB (rIsX K cls d a) (tCons (tVar 4) (tCons (tC (.ref (He.ga K y))) tNil)) σ H Q := fun y Q σ H C hs hy q =>
      ⟨_, hs, He.ga K x, C, _, _, _, rfl, fun _ e => e, R.k.ki y hy, q⟩
    have st : ∀ (y1 y2 y3 : Str) (Q : VK) (σ : L2.St) (H : Hp) (p : Addr) (xs : List V), Cau K cls d (He.ga K x) H → σ[4]? = some (some (.ref a)) → σ[1]? = some (some (.ref p)) → y1 ∈ EXS → y2 ∈ EXS → y3 ∈ EXS → H p = some (.lst xs) → xs.length ≤ 100 →
        (∀ H' q, Fx [] H H' → H q = none → H' q = some (.lst (xs ++ [.bl (decide (x = y1)), .bl (decide (x = y2)), .bl (decide (x = y3))])) → Q (.ref q) H') →
        tOp rCat (tVar 1) (tLst (tCons (tCB (rIsX K cls d a) (tCons (tVar 4) (tCons (tC (.ref (He.ga K y1))) tNil))) (tCons (tCB (rIsX K cls d a) (tCons (tVar 4) (tCons (tC (.ref (He.ga K y2))) tNil))) (tCons (tCB (rIsX K cls d a) (tCons (tVar 4) (tCons (tC (.ref (He.ga K y3))) tNil))) tNil)))) σ H Q := fun y1 y2 y3 Q σ H p xs C h4 h1 m1 m2 m3 hp hl q => by
      refine ⟨_, h1, is _ _ _ _ C h4 m1 (is _ _ _ _ C h4 m2 (is _ _ _ _ C h4 m3 ⟨by show 3 ≤ sizeLine; decide, fun b nb => ?_⟩))⟩
      have f1 : Fx [] H (upd H b (.lst [.bl (decide (x = y1)), .bl (decide (x = y2)), .bl (decide (x = y3))])) := Fx.new nb
      refine ⟨_, _, _, _, rfl, rfl, f1.to hp (fun z => nomatch z), upd_same, Nat.le_trans (m := 1000) (by simp only [List.length_cons, List.length_nil]; omega) (by decide), fun c nc => q _ c (f1.trans (Fx.new nc)) (f1.free nc) upd_same⟩
    refine ⟨_, rfl, He.ga K x, C, _, .type "ValueError", true, rfl, fun _ e => e, R.k.ve, _, rfl, ifF rfl ?_⟩
    refine is _ _ _ _ C rfl (by decide +kernel) (is _ _ _ _ C rfl (by decide +kernel) (is _ _ _ _ C rfl (by decide +kernel) (is _ _ _ _ C rfl (by decide +kernel) ⟨by show 4 ≤ sizeLine; decide, fun p1 n1 => ?_⟩)))
    have f1 : Fx [] H1 (upd H1 p1 (.lst [.bl (decide (x = "BadQuestion")), .bl (decide (x = "BadSeed")), .bl (decide (x = "BadName")), .bl (decide (x = "TooMany"))])) := Fx.new n1
    have g1 : upd H1 p1 (.lst [.bl (decide (x = "BadQuestion")), .bl (decide (x = "BadSeed")), .bl (decide (x = "BadName")), .bl (decide (x = "TooMany"))]) p1 = some (.lst [.bl (decide (x = "BadQuestion")), .bl (decide (x = "BadSeed")), .bl (decide (x = "BadName")), .bl (decide (x = "TooMany"))]) := upd_same
    generalize upd H1 p1 (.lst [.bl (decide (x = "BadQuestion")), .bl (decide (x = "BadSeed")), .bl (decide (x = "BadName")), .bl (decide (x = "TooMany"))]) = H2 at f1 g1
    refine st _ _ _ _ _ _ p1 _ (C.fx f1) rfl rfl (by decide +kernel) (by decide +kernel) (by decide +kernel) g1 (by simp) fun H3 p2 f2 n2 g2 => ?_
    have f12 := f1.trans f2
    refine st _ _ _ _ _ _ p2 _ (C.fx f12) rfl rfl (by decide +kernel) (by decide +kernel) (by decide +kernel) g2 (by simp) fun H4 p3 f3 n3 g3 => ?_
    have f13 := f12.trans f3
    refine st _ _ _ _ _ _ p3 _ (C.fx f13) rfl rfl (by decide +kernel) (by decide +kernel) (by decide +kernel) g3 (by simp) fun H5 p4 f4 n4 g4 => ?_
    have f14 := f13.trans f4
    refine st _ _ _ _ _ _ p4 _ (C.fx f14) rfl rfl (by decide +kernel) (by decide +kernel) (by decide +kernel) g4 (by simp) fun H6 p5 f5 n5 g5 => ?_
    have f15 := f14.trans f5
    have m5 := f14.free n5
    refine ⟨_, rfl, .inl ⟨rfl, _, SqL.of g5⟩, is _ _ _ _ (C.fx f15) rfl (by decide +kernel) ⟨p5, _, _, rfl, rfl, g5, by show 16 < sizeLine; decide, ?_⟩⟩
    have f16 := f15.loc (o := .lst (kindsX x)) m5 (Chg.lst g5)
    have g6 : upd H6 p5 (.lst (kindsX x)) p5 = some (.lst (kindsX x)) := upd_same
    refine (show ∀ Hx : Hp, Hx = upd H6 p5 (.lst (kindsX x)) → _ from fun Hx eH => ?_) _ rfl
    rw [← eH] at f16 g6
    clear eH
    refine ⟨_, rfl, .inl ⟨rfl, _, SqL.of g6⟩, p5, _, _, rfl, rfl, SqL.of g6, rfl, kinds_flat x, ?_⟩
    rw [kinds_cnt x R.m]
    refine ⟨rfl, _, rfl, ifF rfl ?_⟩
    refine ⟨by show 10 ≤ sizeLine; decide, fun pn nn => ?_⟩
    have f17 := f16.trans (Fx.new (M := []) (o := .lst ((WDS.take 10).map V.str)) nn)
    have g7 : upd Hx pn (.lst ((WDS.take 10).map V.str)) pn = some (.lst ((WDS.take 10).map V.str)) := upd_same
    have g8 : upd Hx pn (.lst ((WDS.take 10).map V.str)) p5 = some (.lst (kindsX x)) := (Fx.new (M := []) nn).to g6 fun z => nomatch z
    refine (show ∀ Hy : Hp, Hy = upd Hx pn (.lst ((WDS.take 10).map V.str)) → _ from fun Hy eH => ?_) _ rfl
    rw [← eH] at f17 g7 g8
    clear eH
    refine ⟨_, rfl, by show 7 ≤ sizeLine; decide, fun qn nq => ?_⟩
    have h1 : Fx [] Hy (upd Hy qn (.lst ((WDS.drop 10).map V.str))) := Fx.new nq
    refine ⟨_, _, _, _, rfl, rfl, h1.to g7 (fun z => nomatch z), upd_same, by show 17 ≤ sizeLine; decide, fun rn nr => ?_⟩
    have h2 : Fx [] Hy (upd (upd Hy qn (.lst ((WDS.drop 10).map V.str))) rn (.lst (WDS.map V.str))) := h1.trans (Fx.new nr)
    have g9 := h2.to g8 fun z => nomatch z
    have g10 : upd (upd Hy qn (.lst ((WDS.drop 10).map V.str))) rn (.lst (WDS.map V.str)) rn = some (.lst (WDS.map V.str)) := upd_same
    refine (show ∀ Hz : Hp, Hz = upd (upd Hy qn (.lst ((WDS.drop 10).map V.str))) rn (.lst (WDS.map V.str)) → _ from fun Hz eH => ?_) _ rfl
    rw [← eH] at h2 g9 g10
    clear eH
    have f18 := f17.trans h2
    refine ⟨_, rfl, .inl ⟨rfl, _, SqL.of g9⟩, p5, kindsX x, .bl true, EXS.idxOf x, _, rfl, rfl, SqL.of g9, rfl, kinds_flat x, kinds_at x R.m, rfl, fun m z' hm hz => ?_, ?_⟩
    · have h3 := List.all_eq_true.mp (kinds_no x R.m) z' (List.mem_of_getElem? (i := m) (by rw [List.getElem?_take_of_lt hm]; exact hz))
      cases h4 : eqV z' (.bl true) with
      | false => rfl
      | true => rw [h4] at h3; cases h3
    refine ⟨rn, _, ((EXS.idxOf x : Nat) : Int), .str (wd x), rfl, rfl, SqL.of g10, atI_nat (wds_at x R.m), ?_⟩
    refine ⟨_, rfl, by show 2 ≤ sizeLine; decide, fun t1 nt1 => ⟨t1, _, rfl, .inr (SqT.of upd_same), rfl, rfl, _, rfl, ?_⟩⟩
    rw [if_neg (by decide)]
    have f19 := f18.trans (Fx.new (M := []) (o := .tup [.str "machine", .str "text"]) nt1)
    refine (show ∀ Hw : Hp, Hw = upd Hz t1 (.tup [.str "machine", .str "text"]) → _ from fun Hw eH => ?_) _ rfl
    rw [← eH] at f19
    clear eH
    rw [wd_in1 x R.m]
    have hf := R.f
    refine ifB (fun c => ?_) (fun c => ?_)
    · rw [of_decide_eq_true c] at hf
      obtain ⟨hno, dd, ed, hd⟩ := hf
      refine ⟨_, rfl, _, rfl, rfl, He.ga K x, dd, _, .int r, R.c, R.k.c, hno, ed, f19.to hd (fun z => nomatch z), rfl, ?_⟩
      exact ⟨by show 2 ≤ sizeLine; decide, fun p np => q _ p (f19.trans (Fx.new np)) (f19.free np) upd_same⟩
    · refine ⟨_, rfl, _, rfl, by show 2 ≤ sizeLine; decide, fun t2 nt2 => ⟨t2, _, rfl, .inr (SqT.of upd_same), rfl, rfl, _, rfl, ?_⟩⟩
      rw [if_neg (by decide)]
      have f20 := f19.trans (Fx.new (M := []) (o := .tup [.str "task", .str "deed"]) nt2)
      refine (show ∀ Hv : Hp, Hv = upd Hw t2 (.tup [.str "task", .str "deed"]) → _ from fun Hv eH => ?_) _ rfl
      rw [← eH] at f20
      clear eH
      rw [wd_in2 x R.m]
      refine ifB (fun c2 => ?_) (fun c2 => ?_)
      · rw [of_decide_eq_true c2] at hf
        obtain ⟨hno, dd, ed, hd⟩ := hf
        refine ⟨_, rfl, rfl, He.ga K x, dd, _, .int r, R.c, R.k.c, hno, ed, f20.to hd (fun z => nomatch z), rfl, ?_⟩
        exact ⟨by show 2 ≤ sizeLine; decide, fun p np => q _ p (f20.trans (Fx.new np)) (f20.free np) upd_same⟩
      · rw [xfd_none x R.m c c2] at hf
        obtain ⟨_, rfl⟩ := hf
        exact ⟨by show 2 ≤ sizeLine; decide, fun p np => q _ p (f20.trans (Fx.new np)) (f20.free np) upd_same⟩
end Mh
/-! MhRefW -/
namespace Mh
open PySem PySem.Spec PyProof.Rows L2
/-- f, called, refuses by x with the number r, and changes nothing -/
structure RefW (P : Program) (w : World) (K : PySem.W.Frag) (mg : Str → Option Value) (base : Heap) (x : Str) (r : Int) (f : Addr) (H : Hp) : Prop where
  ex : ∃ sp : Hp → VK → XK → Prop, LHeld P w K mg base 15 f sp ∧ ∀ (H1 : Hp) (Q' : VK) (E' : XK), Fx [] H H1 → (∀ cls d H', Fx [] H1 H' → Refd K mg x r cls d H' → E' cls d H') → sp H1 Q' E'
theorem RefW.up {P : Program} {w : World} {K : PySem.W.Frag} {mg : Str → Option Value} {base : Heap} {x : Str} {r : Int} {f : Addr} {H H' : Hp} (a : RefW P w K mg base x r f H) (g : Fx [] H H') : RefW P w K mg base x r f H' :=
  let ⟨sp, L, h⟩ := a.ex; ⟨sp, L, fun H1 Q' E' g1 k => h H1 Q' E' (g.trans g1) k⟩
/-- its word is asked -/
theorem RefW.word {P : Program} {w : World} {K : PySem.W.Frag} {mg : Str → Option Value} {base : Heap} {x : Str} {r : Int} {f : Addr} {H : Hp} (a : RefW P w K mg base x r f H) {Q : VK} {E : XK} (q : ∀ H' p, Fx [] H H' → H p = none → H' p = some (.tup [.str (wd x), .int r]) → Q (.ref p) H') : spWordOf P w K mg base [.ref f] H Q E := by
  obtain ⟨sp, L, h⟩ := a.ex
  exact ⟨f, sp, rfl, L, fun Q' E' _ k => h H Q' E' .refl fun cls d H' g R => k cls d H' ⟨x, r, R, fun H'' p g2 n e => q H'' p (g.trans g2) (g.free n) e⟩⟩
def spAre (P : Program) (w : World) (K : PySem.W.Frag) (mg : Str → Option Value) (base : Heap) : Sp := fun vs H Q _ => ∃ (l : Addr) (fs : List Addr) (x : Str), vs = [.ref l, .str (wd x)] ∧ x ∈ EXS ∧ SqL K H l (fs.map V.ref) ∧ fs.length ≤ 100 ∧ (∀ f ∈ fs, RefW P w K mg base x 0 f H) ∧ ∀ H', Fx [] H H' → Q (.bl true) H'
theorem wd_lay : ∀ x ∈ EXS, (PyData.str (wd x)).canLay0 = true := by decide +kernel
theorem wd_shaped {x : Str} (hx : x ∈ EXS) (r : Int) : SeqAt.shaped (.tuple [.str (wd x), .int r]) = true := by
  unfold SeqAt.shaped
  have h := wd_lay x hx
  simp only [PyData.canLay0, PyData.canLayAll0, PyData.depth, PyData.depthAll, Bool.and_true, Bool.and_eq_true, decide_eq_true_eq] at h ⊢
  exact ⟨h, by simp⟩
theorem nil_eqv : PyData.eqv (.list []) (.list []) = true := by decide +kernel
end Mh
/-! MhAre -/
namespace Mh
open PySem PySem.Spec PyProof.Rows L2
theorem sc_l_are : FnScope ["_law_works", "_law_name", "_law_work"] ["_law_works", "_law_name"] (defScope s_l_are) := ⟨rfl, rfl, rfl, by decide +kernel, rfl, by decide +kernel, by decide +kernel⟩
theorem ok_l_are {P : Program} {w : World} {K : PySem.W.Frag} {mg : Str → Option Value} {base : Heap} (T : Tx K mg) : Def P w K mg base CX0 18 "_law_are" ["_law_works", "_law_name"] (spAre P w K mg base) := by
  obtain ⟨fd, F⟩ := T.d_l_are
  have G__law_word_of := ok_l_word_of (P := P) (w := w) (base := base) T
  refine ⟨_, fd, F.ok sc_l_are (fun vs H Q E h => ?_) (fun cdv A outer s H vs Q E hr h => ?_), F.bindsN fun _ _ _ _ _ _ us hl => match us, hl with | [_, _], _ => rfl, T.g_l_are, F.kp⟩
  · obtain ⟨l, fs, x, rfl, _⟩ := h
    rfl
  · obtain ⟨l, fs, x, rfl, hx0, hl, hn, hw, q⟩ := h
    refine ⟨_, PSs.nox (pss_one (ps_ret (pe_cmpR (op_eqD hr.units) (pe_lc (own := [("_law_work", 2)]) (g := (gName 2)) (tt := _) rfl sc_l_are.nd (pi_list (pv 0)) (blkOk_by (own := [("_law_work", 2)]) (N := ["_law_works", "_law_name", "_law_work"]) (sc := defScope s_l_are) (by decide +kernel)) (fun _ _ _ _ _ => pg_name (i := 2) sc_l_are.nd rfl (by first | exact Or.inl rfl | exact Or.inr rfl)) (fun _ _ _ _ _ => pts_one (pt_cmpR (kop_neD (K := K) rfl hr.units) (pe_def G__law_word_of (hr.mono (by omega)) pass0 (pa_cons (pv 2) pa_nil)) (pe_tup (pa_cons (pv 1) (pa_cons pe_int pa_nil))) (nomark _))) (fun _ _ _ _ _ => (pv 2))) (pe_lst pa_nil) (nomark _)))), ?_⟩
    refine ⟨_, rfl, l, rfl, ⟨_, hl⟩, fun D hD => lc_rel (walk_list (xs := fs.map V.ref)) (fun i acc H3 => Fx [] H H3 ∧ acc = []) ⟨Fx.new hD, rfl⟩ (fun i acc H3 r => r.1.sqL hl fun m => nomatch m) (fun i acc y H3 H4 hi hl3 hDa r yy => ?_) (fun acc H3 hl3 hDa r => ?_)⟩
    · obtain ⟨f, rfl⟩ := r
      obtain ⟨rfl, hx⟩ := yy
      rw [List.getElem?_map] at hx
      obtain ⟨g, hg, rfl⟩ := Option.map_eq_some_iff.mp hx
      refine ⟨rfl, ?_⟩
      obtain ⟨sp, L, hh⟩ := ((hw g (List.mem_of_getElem? hg)).up f).ex
      refine ⟨_, rfl, g, sp, rfl, L, fun Q' E' _ k => hh _ Q' E' .refl fun cls d H6 g6 R => k cls d H6 ⟨x, 0, R, fun H5 p g56 np hp => ?_⟩⟩
      have g5 := g6.trans g56
      refine ⟨_, rfl, by show 2 ≤ sizeLine; decide, fun t nt => ?_⟩
      have h1 : Fx [] H5 (upd H5 t (.tup [.str (wd x), .int 0])) := Fx.new nt
      refine ⟨.tuple [.str (wd x), .int 0], .tuple [.str (wd x), .int 0], .tup (SqT.of (h1.t _ _ hp)) (.cons (.str _) (.cons (.int _) .nil)), .tup (SqT.of upd_same) (.cons (.str _) (.cons (.int _) .nil)), wd_shaped hx0 0, wd_shaped hx0 0, ?_⟩
      rw [show PyData.eqv (.tuple [.str (wd x), .int 0]) (.tuple [.str (wd x), .int 0]) = true from SeqAt.eqv_refl _ (SeqAt.canLay_of_shaped (wd_shaped hx0 0))]
      refine ⟨_, rfl, ifF rfl ?_⟩
      exact Pvl.skip hl3 ((g5.trans h1).to hDa fun z => nomatch z) ⟨f.trans (g5.trans h1), rfl⟩
    · obtain ⟨f, rfl⟩ := r
      refine ⟨by show 0 ≤ sizeLine; decide, fun b hb => ?_⟩
      have h1 : Fx [] H3 (upd H3 b (.lst [])) := Fx.new hb
      refine ⟨.list [], .list [], .lst (SqL.of (h1.to hDa fun z => nomatch z)) .nil, .lst (SqL.of upd_same) .nil, by decide +kernel, by decide +kernel, ?_⟩
      rw [nil_eqv]
      exact q _ (f.trans h1)
end Mh
/-! MhRight -/
namespace Mh
open PySem PySem.Spec PyProof.Rows L2
theorem sc_right : FnScope ["machine", "task", "seed"] ["machine", "task", "seed"] (defScope s_right) := ⟨rfl, rfl, rfl, by decide +kernel, rfl, by decide +kernel, by decide +kernel⟩
def spRight (K : PySem.W.Frag) : Sp := fun vs H Q _ => ∃ (v u : V) (m : Mch) (t : Tsk) (s : Int), vs = [v, u, .int s] ∧ Dp K H v (machD m) ∧ Dp K H u (taskD t) ∧ m.ok ∧ t.ok ∧ (0 ≤ s ∧ s ≤ 999) ∧
  ∀ (H' : Hp) (w : V), Fx [] H H' → Dp K H' w (.tuple ((rightL m t s).map .int)) → Q w H'
theorem rd_needT {K : PySem.W.Frag} {σ : L2.St} {H : Hp} {Q : VK} {i : Nat} {v : V} {t : Tsk} (hv : σ[i]? = some (some v)) (h : t.ok) (hd : Dp K H v (taskD t)) (q : ∀ H', Fx [] H H' → Q .non H') : tCall (spNeedTask K) [] E0 (tCons (tVar i) tNil) σ H Q := ⟨v, hv, ⟨v, t, rfl, hd, h, q⟩⟩
theorem ok_right {P : Program} {w : World} {K : PySem.W.Frag} {mg : Str → Option Value} {base : Heap} (T : Tx K mg) : DefN P w K mg base CX0 5 "right" ["machine", "task", "seed"] 2 ["seed"] (spRight K) := by
  obtain ⟨fd, F⟩ := T.d_right
  have G_need_machine := ok_need_machine (P := P) (w := w) (base := base) T
  have G_need_task := ok_need_task (P := P) (w := w) (base := base) T
  have G_need_seed := ok_need_seed (P := P) (w := w) (base := base) T
  have G_right_of := ok_right_of (P := P) (w := w) (base := base) T
  obtain ⟨mv, BN⟩ := F.kbinds0 (ps := ["machine", "task", "seed"]) 2 ["seed"] [] (fun vs _ zs => vs ++ zs) (List.cons_ne_nil _ _) (fun q h => nomatch h) (fun r1 _ r3 => r1.append r3) (fun D doc pm an cdv ct us mv ws l1 l2 l3 => match us, mv, ws, l1, l2, l3 with | [_, _], [], [_], _, _, _ => rfl)
  obtain ⟨ds, hds, BD⟩ := F.binds0 (ps := ["machine", "task", "seed"]) 2 (List.cons_ne_nil _ _) rfl (fun D doc pm an cdv ct us ks l1 l2 => match us, ks, l1, l2 with | [_, _], [_], _, _ => ⟨_, _, _, _, _, _, rfl, rfl, rfl⟩)
  refine ⟨_, fd, _, ds, F.ok sc_right (fun vs H Q E h => ?_) (fun cdv A outer s H vs Q E hr h => ?_), BN, hds, BD, T.g_right, F.kp⟩
  · obtain ⟨v, u, m, t, s, rfl, _⟩ := h
    rfl
  · obtain ⟨v, u, m, t, sd, rfl, hm, hd, hmo, ht, hs, q⟩ := h
    refine ⟨_, PSs.nox (pss_cons (ps_expr (pe_def G_need_machine (hr.mono (by omega)) pass0 (pa_cons (pv 0) pa_nil)))
        (pss_cons (ps_expr (pe_def G_need_task (hr.mono (by omega)) pass0 (pa_cons (pv 1) pa_nil)))
        (pss_cons (ps_expr (pe_def G_need_seed (hr.mono (by omega)) pass0 (pa_cons (pv 2) pa_nil)))
        (pss_one (ps_ret (pe_callTy call_tuple_of (by rfl) T.f_tuple (by decide +kernel) (pa_cons (pe_def G_right_of (hr.mono (by omega)) pass0 (pa_cons (pv 0) (pa_cons (pv 1) (pa_cons (pv 2) pa_nil)))) pa_nil))))))), ?_⟩
    refine rd_needM rfl hmo hm fun H1 f1 => ?_
    refine rd_needT rfl ht (hd.ext f1) fun H2 f2 => ?_
    refine ⟨_, rfl, ⟨sd, rfl, hs, ?_⟩⟩
    have f := f1.trans f2
    refine ⟨v, rfl, u, rfl, _, rfl, ⟨v, u, m, t, sd, rfl, hm.ext f, hd.ext f, hmo, ht, fun H3 p f3 hp hp3 => ?_⟩⟩
    exact ⟨p, _, rfl, .inl ⟨SqL.of hp3, fun l hl => q _ _ ((f.trans f3).trans (Fx.new hl)) (.tup (SqT.of upd_same) (Dp.ints _))⟩⟩
end Mh
/-! MhBin -/
namespace Mh
open PySem PySem.Spec PyProof.Rows L2
/-! ### in how many ways -/
def bin : Nat → Nat → Nat
  | _, 0 => 1
  | 0, _ + 1 => 0
  | n + 1, k + 1 => bin n k + bin n (k + 1)
theorem bin_zero (n : Nat) : bin n 0 = 1 := by cases n <;> rfl
theorem bin_gt : ∀ {n k : Nat}, n < k → bin n k = 0
  | 0, _ + 1, _ => rfl
  | n + 1, k + 1, h => by
    show bin n k + bin n (k + 1) = 0
    rw [bin_gt (n := n) (k := k) (by omega), bin_gt (n := n) (k := k + 1) (by omega)]
theorem bin_mul : ∀ (n k : Nat), bin n (k + 1) * (k + 1) = bin n k * (n - k)
  | 0, 0 => rfl
  | 0, k + 1 => by
    show 0 * (k + 1 + 1) = 0 * (0 - (k + 1))
    omega
  | n + 1, 0 => by
    have h := bin_mul n 0
    show (bin n 0 + bin n 1) * (0 + 1) = bin (n + 1) 0 * (n + 1 - 0)
    rw [bin_zero] at h ⊢
    simp at h ⊢
    rw [bin_zero]
    omega
  | n + 1, k + 1 => by
    have h1 := bin_mul n k
    have h2 := bin_mul n (k + 1)
    show (bin n (k + 1) + bin n (k + 2)) * (k + 1 + 1) = (bin n k + bin n (k + 1)) * (n + 1 - (k + 1))
    rw [Nat.add_mul, h2, show n + 1 - (k + 1) = n - k by omega, Nat.add_mul (bin n k), ← h1, Nat.mul_add (bin n (k + 1)) (k + 1) 1, Nat.mul_one, Nat.add_assoc]
    congr 1
    by_cases c : k + 1 ≤ n
    · rw [show n - k = n - (k + 1) + 1 by omega, Nat.mul_add, Nat.mul_one, Nat.add_comm]
    · rw [bin_gt (n := n) (k := k + 1) (by omega)]
      simp
theorem bin_le : ∀ (n k : Nat), bin n k ≤ 2 ^ n
  | 0, 0 => Nat.le_refl _
  | 0, k + 1 => Nat.zero_le _
  | n + 1, 0 => Nat.one_le_two_pow
  | n + 1, k + 1 => by
    show bin n k + bin n (k + 1) ≤ 2 ^ (n + 1)
    have h1 := bin_le n k
    have h2 := bin_le n (k + 1)
    rw [Nat.pow_succ]
    omega
theorem bin_small {n k : Nat} (h : n ≤ 40) : bin n k < 2 ^ 64 :=
  Nat.lt_of_le_of_lt (Nat.le_trans (bin_le n k) (Nat.pow_le_pow_right (by decide) h)) (by decide)
def chooseI (n k : Int) : Int := if k < 0 then 0 else if n < k then 0 else (bin n.toNat k.toNat : Nat)
theorem bin_step {n : Int} {i : Nat} (hi : (i : Int) < n) : ((bin n.toNat i : Nat) : Int) * (n - (0 + (i : Int))) / (0 + (i : Int) + 1) = ((bin n.toNat (i + 1) : Nat) : Int) := by
  have h := bin_mul n.toNat i
  have e : n - (0 + (i : Int)) = ((n.toNat - i : Nat) : Int) := by omega
  have e2 : (0 : Int) + (i : Int) + 1 = ((i + 1 : Nat) : Int) := by omega
  rw [e, e2, ← Int.natCast_mul, ← h, Int.natCast_mul]
  exact Int.mul_ediv_cancel _ (by omega)
theorem sc_choose : FnScope ["many", "some", "found", "k"] ["many", "some"] (defScope s_choose) := ⟨rfl, rfl, rfl, by decide +kernel, rfl, by decide +kernel, by decide +kernel⟩
def spChoose (_K : PySem.W.Frag) : Sp := fun vs H Q _ => ∃ (n k : Int), vs = [.int n, .int k] ∧ (0 ≤ n ∧ n ≤ 40) ∧ Q (.int (chooseI n k)) H
theorem ok_choose {P : Program} {w : World} {K : PySem.W.Frag} {mg : Str → Option Value} {base : Heap} (T : Tx K mg) : Def P w K mg base CX0 1 "choose" ["many", "some"] (spChoose K) := by
  obtain ⟨fd, F⟩ := T.d_choose
  refine ⟨_, fd, F.ok sc_choose (fun vs H Q E h => ?_) (fun cdv A outer s H vs Q E hr h => ?_), F.bindsN fun _ _ _ _ _ _ us hl => match us, hl with | [_, _], _ => rfl, T.g_choose, F.kp⟩
  · obtain ⟨n, k, rfl, _⟩ := h
    rfl
  · obtain ⟨n, k, rfl, hn, q⟩ := h
    refine ⟨_, PSs.nox (pss_cons (ps_if (PW.pt (pw_or (pt_cmpR op_lt (pv 1) pe_int (nomark _)) (pw_or1 (pt_cmpR op_gt (pv 1) (pv 0) (nomark _)))))
        (pss_one (ps_ret pe_int))
        pss_nil)
        (pss_cons (ps_set (i := 2) sc_choose.nd rfl (by first | exact Or.inl rfl | exact Or.inr rfl) pe_int)
        (pss_cons (ps_for PassesOwn.never rfl (pi_range1 rfl T.f_range (pa_cons (pv 1) pa_nil)) (pg_name (i := 3) sc_choose.nd rfl (by first | exact Or.inl rfl | exact Or.inr rfl))
        (pss_one (ps_set (i := 2) sc_choose.nd rfl (by first | exact Or.inl rfl | exact Or.inr rfl) (pe_op op_fdiv (pe_op op_mul (pv 2) (pe_op op_sub (pv 0) (pv 3))) (pe_op op_add (pv 3) pe_int)))))
        (pss_one (ps_ret (pv 2)))))), ?_⟩
    refine ⟨_, rfl, _, _, rfl, rfl, _, rfl, ifB (fun c => ifT rfl ?_) (fun c => ⟨_, rfl, _, rfl, _, _, rfl, rfl, _, rfl, ifB (fun c2 => ?_) (fun c2 => ?_)⟩)⟩
    · have c1 : k < 0 := of_decide_eq_true c
      have e : chooseI n k = 0 := if_pos c1
      rw [e] at q
      exact q
    · have c1 : ¬ k < 0 := of_decide_eq_false c
      have c3 : n < k := of_decide_eq_true c2
      have e : chooseI n k = 0 := by
        unfold chooseI
        rw [if_neg c1, if_pos c3]
      rw [e] at q
      exact q
    · have c1 : ¬ k < 0 := of_decide_eq_false c
      have c3 : ¬ n < k := of_decide_eq_false c2
      refine ⟨_, rfl, _, rfl, by omega, by omega, for_it walk_range (fun i σ' H' => ∃ y3, σ' = [some (.int n), some (.int k), some (.int (bin n.toNat i : Nat)), y3] ∧ H' = H) ⟨none, by rw [bin_zero]; rfl, rfl⟩ (fun _ _ _ _ _ => trivial) (fun i x σ' H2 H3 hi hP y => ?_) (fun σ' H' hP => ?_)⟩
      · obtain ⟨y3, rfl, rfl⟩ := hP
        obtain ⟨rfl, rfl⟩ := y
        have hb := bin_small (n := n.toNat) (k := i) (by omega)
        refine ⟨_, rfl, _, rfl, _, rfl, _, _, rfl, rfl, _, _, rfl, rfl, .inl ⟨by omega, by omega⟩, _, rfl, _, _, rfl, rfl, _, _, rfl, rfl, ⟨by omega, by omega⟩, ?_⟩
        have e := bin_step (n := n) (i := i) (by omega)
        exact ⟨some (.int (0 + (i : Int))), by dsimp only; rw [e]; rfl, rfl⟩
      · obtain ⟨y3, rfl, rfl⟩ := hP
        have e : chooseI n k = ((bin n.toNat k.toNat : Nat) : Int) := by
          unfold chooseI
          rw [if_neg c1, if_neg c3]
        rw [e] at q
        exact ⟨_, rfl, q⟩
end Mh
/-! MhHeart -/
namespace Mh
open PySem PySem.Spec PyProof.Rows L2
/-! ### what was learnt by heart -/
def hasTw (t : Tsk) (k : Nat) : Bool := match t.rows[k]? with
  | some r => r.twin.isSome
  | none => false
def twP (t : Tsk) (k : Nat) : Int × Int := match t.rows[k]? with
  | some r => r.twin.getD (0, 0)
  | none => (0, 0)
def twR (m : Mch) (t : Tsk) (s : Int) (k : Nat) : Bool := askedM m (twP t k).1 s == some (twP t k).2
def ixN' (t : Tsk) (i : Nat) : List Nat := (List.range i).filter (hasTw t)
def ixT (t : Tsk) : List Nat := ixN' t t.rows.length
theorem ixN_succ (t : Tsk) (i : Nat) : ixN' t (i + 1) = ixN' t i ++ (if hasTw t i then [i] else []) := by
  unfold ixN'
  rw [List.range_succ, List.filter_append]
  congr 1
  cases h : hasTw t i <;> simp [List.filter, h]
theorem ixN_len (t : Tsk) (i : Nat) : (ixN' t i).length ≤ i := Nat.le_trans (List.length_filter_le _ _) (by rw [List.length_range]; exact Nat.le_refl _)
theorem ixT_get {t : Tsk} {i k : Nat} (h : (ixT t)[i]? = some k) : ∃ r p, t.rows[k]? = some r ∧ r.twin = some p ∧ twP t k = p ∧ k < t.rows.length := by
  obtain ⟨h1, h2⟩ := List.mem_filter.mp (List.mem_of_getElem? h)
  have h3 := List.mem_range.mp h1
  unfold hasTw at h2
  cases hr : t.rows[k]? with
  | none => rw [hr] at h2; cases h2
  | some r =>
    rw [hr] at h2
    cases hp : r.twin with
    | none => simp [hp] at h2
    | some p => exact ⟨r, p, rfl, hp, by unfold twP; rw [hr]; simp [hp], h3⟩
theorem filt_succ {α : Type} (p : α → Bool) {l : List α} {i : Nat} {x : α} (h : l[i]? = some x) : (l.take (i + 1)).filter p = (l.take i).filter p ++ (if p x then [x] else []) := by
  rw [List.take_add_one, h, List.filter_append]
  congr 1
  cases hx : p x <;> simp [List.filter, hx]
structure Hrt where
  many : Nat
  here : Nat
  there : Nat
def hrt (m : Mch) (t : Tsk) (s : Int) : Hrt := ⟨(ixT t).length, ((ixT t).filter (rightB m t s)).length, ((ixT t).filter (twR m t s)).length⟩
theorem hrt_le (m : Mch) (t : Tsk) (s : Int) : (hrt m t s).here ≤ (hrt m t s).many ∧ (hrt m t s).there ≤ (hrt m t s).many ∧ (hrt m t s).many ≤ t.rows.length :=
  ⟨List.length_filter_le _ _, List.length_filter_le _ _, ixN_len _ _⟩
def Hrt.term (h : Hrt) (i : Nat) : Int := chooseI h.many (h.here + (i : Nat)) * chooseI h.many ((h.here : Int) + h.there - (h.here + (i : Nat)))
def sumTo (f : Nat → Int) : Nat → Int
  | 0 => 0
  | n + 1 => sumTo f n + f n
theorem sum_range (f : Nat → Int) : ∀ n, ((List.range n).map f).sum = sumTo f n
  | 0 => rfl
  | n + 1 => by
    rw [List.range_succ, List.map_append, List.sum_append, sum_range f n]
    simp [sumTo]
def Hrt.ways (h : Hrt) : Int := sumTo h.term (h.many + 1 - h.here)
def Hrt.d (h : Hrt) : PyData := .tuple [.int h.many, .int h.here, .int h.there, .int h.ways, .int (chooseI (2 * (h.many : Int)) ((h.here : Int) + h.there))]
theorem chooseI_small {n k : Int} (hn : 0 ≤ n ∧ n ≤ 40) : 0 ≤ chooseI n k ∧ chooseI n k < 2 ^ 64 := by
  have := bin_small (n := n.toNat) (k := k.toNat) (by omega)
  unfold chooseI
  split
  · omega
  · split <;> omega
theorem in_right {m : Mch} {t : Tsk} {s : Int} {k : Nat} (hk : k < t.rows.length) : inV (.int (k : Nat)) ((rightL m t s).map V.int) = rightB m t s k := by
  rw [Bool.eq_iff_iff]
  unfold inV
  rw [List.any_eq_true]
  constructor
  · rintro ⟨y, hy, e⟩
    obtain ⟨j, hj, rfl⟩ := List.mem_map.mp hy
    obtain ⟨i, hi, rfl⟩ := List.mem_map.mp hj
    have e2 : ((i : Nat) : Int) = ((k : Nat) : Int) := by simpa [eqV] using e
    have e3 : i = k := Int.ofNat.inj e2
    rw [← e3]
    exact (List.mem_filter.mp hi).2
  · intro h
    exact ⟨.int (k : Nat), List.mem_map.mpr ⟨_, List.mem_map.mpr ⟨k, List.mem_filter.mpr ⟨List.mem_range.mpr hk, h⟩, rfl⟩, rfl⟩, by simp [eqV]⟩
theorem natI (a : Int) (i : Nat) : V.int (a + (i : Int)) = V.int (a + (i : Nat)) := rfl
theorem sc_heart : FnScope ["machine", "task", "seed", "good", "some", "here", "twins", "there", "many", "ways", "number", "one", "question", "due", "k"] ["machine", "task", "seed"] (defScope s_heart) := ⟨rfl, rfl, rfl, by decide +kernel, rfl, by decide +kernel, by decide +kernel⟩
def spHeart (K : PySem.W.Frag) : Sp := fun vs H Q _ => ∃ (v u : V) (m : Mch) (t : Tsk) (s : Int), vs = [v, u, .int s] ∧ Dp K H v (machD m) ∧ Dp K H u (taskD t) ∧ m.ok ∧ t.ok ∧ (0 ≤ s ∧ s ≤ 999) ∧
  ∀ (H' : Hp) (w : V), Fx [] H H' → Dp K H' w (hrt m t s).d → Q w H'
theorem ok_heart {P : Program} {w : World} {K : PySem.W.Frag} {mg : Str → Option Value} {base : Heap} (T : Tx K mg) : DefN P w K mg base CX0 6 "heart" ["machine", "task", "seed"] 2 ["seed"] (spHeart K) := by
  obtain ⟨fd, F⟩ := T.d_heart
  have G_right := ok_right (P := P) (w := w) (base := base) T
  have G_choose := ok_choose (P := P) (w := w) (base := base) T
  have G_asked := ok_asked (P := P) (w := w) (base := base) T
  obtain ⟨mv, BN⟩ := F.kbinds0 (ps := ["machine", "task", "seed"]) 2 ["seed"] [] (fun vs _ zs => vs ++ zs) (List.cons_ne_nil _ _) (fun q h => nomatch h) (fun r1 _ r3 => r1.append r3) (fun D doc pm an cdv ct us mv ws l1 l2 l3 => match us, mv, ws, l1, l2, l3 with | [_, _], [], [_], _, _, _ => rfl)
  obtain ⟨ds, hds, BD⟩ := F.binds0 (ps := ["machine", "task", "seed"]) 2 (List.cons_ne_nil _ _) rfl (fun D doc pm an cdv ct us ks l1 l2 => match us, ks, l1, l2 with | [_, _], [_], _, _ => ⟨_, _, _, _, _, _, rfl, rfl, rfl⟩)
  refine ⟨_, fd, _, ds, F.ok sc_heart (fun vs H Q E h => ?_) (fun cdv A outer s H vs Q E hr h => ?_), BN, hds, BD, T.g_heart, F.kp⟩
  · obtain ⟨v, u, m, t, s, rfl, _⟩ := h
    rfl
  · obtain ⟨v, u, m, t, sd, rfl, hm, hd, hmo, ht, hs, q⟩ := h
    refine ⟨_, PSs.nox (pss_cons (ps_set (i := 3) sc_heart.nd rfl (by first | exact Or.inl rfl | exact Or.inr rfl) (pe_defN G_right (hr.mono (by omega)) pass0 (pa_cons (pv 0) (pa_cons (pv 1) pa_nil)) (pk_cons (pv 2) pk_nil)))
        (pss_cons (ps_setLc (i := 4) (own := [("number", 10), ("one", 11)]) (g := (gTup _ 2 (gCons (gName 10) (gCons (gName 11) gNil)))) (tt := _) rfl sc_heart.nd rfl rfl (sw_true rfl rfl rfl (by decide +kernel)) (pi_enumT (by rfl) T.f_enumerate (pa_cons (pe_ix ix_tup (pv 1) pe_int (fun _ _ => rfl)) pa_nil)) (blkOk_by (own := [("number", 10), ("one", 11)]) (N := ["machine", "task", "seed", "good", "some", "here", "twins", "there", "many", "ways", "number", "one", "question", "due", "k"]) (sc := defScope s_heart) (by decide +kernel)) (fun _ _ _ _ _ => pg_tup rfl (pgs_cons (pg_name (i := 10) sc_heart.nd rfl (by first | exact Or.inl rfl | exact Or.inr rfl)) (pgs_cons (pg_name (i := 11) sc_heart.nd rfl (by first | exact Or.inl rfl | exact Or.inr rfl)) pgs_nil))) (fun _ _ _ _ _ => pts_one (pt_cmpR op_notN (pe_ix (kix_tup (K := K) rfl) (pv 11) pe_int (fun _ _ => rfl)) pe_non (nomark _))) (fun _ _ _ _ _ => (pv 10)))
        (pss_cons (ps_set (i := 5) sc_heart.nd rfl (by first | exact Or.inl rfl | exact Or.inr rfl) (pe_callB call_len_seq (by rfl) T.f_len (by decide +kernel) (pa_cons (pe_lc (own := [("number", 10)]) (g := (gName 10)) (tt := _) rfl sc_heart.nd (pi_list (pv 4)) (blkOk_by (own := [("number", 10)]) (N := ["machine", "task", "seed", "good", "some", "here", "twins", "there", "many", "ways", "number", "one", "question", "due", "k"]) (sc := defScope s_heart) (by decide +kernel)) (fun _ _ _ _ _ => pg_name (i := 10) sc_heart.nd rfl (by first | exact Or.inl rfl | exact Or.inr rfl)) (fun _ _ _ _ _ => pts_one (pt_cmpR (kop_in (K := K) rfl) (pv 10) (pv 3) (by rfl))) (fun _ _ _ _ _ => (pv 10))) pa_nil)))
        (pss_cons (ps_setLc (i := 6) (own := [("number", 10)]) (g := (gName 10)) (tt := tYes) rfl sc_heart.nd rfl rfl (sw_true rfl rfl rfl (by decide +kernel)) (pi_list (pv 4)) (blkOk_by (own := [("number", 10)]) (N := ["machine", "task", "seed", "good", "some", "here", "twins", "there", "many", "ways", "number", "one", "question", "due", "k"]) (sc := defScope s_heart) (by decide +kernel)) (fun _ _ _ _ _ => pg_name (i := 10) sc_heart.nd rfl (by first | exact Or.inl rfl | exact Or.inr rfl)) (fun _ _ _ _ _ => pts_nil) (fun _ _ _ _ _ => (pe_ix (kix_tup (K := K) rfl) (pe_ix (kix_tup (K := K) rfl) (pe_ix (kix_tup (K := K) rfl) (pv 1) pe_int (fun _ _ => rfl)) (pv 10) (fun _ _ => rfl)) pe_int (fun _ _ => rfl))))
        (pss_cons (ps_set (i := 7) sc_heart.nd rfl (by first | exact Or.inl rfl | exact Or.inr rfl) (pe_callB call_len_seq (by rfl) T.f_len (by decide +kernel) (pa_cons (pe_lc (own := [("question", 12), ("due", 13)]) (g := (gTup _ 2 (gCons (gName 12) (gCons (gName 13) gNil)))) (tt := _) rfl sc_heart.nd (pi_list (pv 6)) (blkOk_by (own := [("question", 12), ("due", 13)]) (N := ["machine", "task", "seed", "good", "some", "here", "twins", "there", "many", "ways", "number", "one", "question", "due", "k"]) (sc := defScope s_heart) (by decide +kernel)) (fun _ _ _ _ _ => pg_tup rfl (pgs_cons (pg_name (i := 12) sc_heart.nd rfl (by first | exact Or.inl rfl | exact Or.inr rfl)) (pgs_cons (pg_name (i := 13) sc_heart.nd rfl (by first | exact Or.inl rfl | exact Or.inr rfl)) pgs_nil))) (fun _ _ _ _ _ => pts_one (pt_cmpR op_eq (pe_def G_asked (hr.mono (by omega)) pass0 (pa_cons (pv 0) (pa_cons (pv 12) (pa_cons (pv 2) pa_nil)))) (pv 13) (nomark _))) (fun _ _ _ _ _ => (pv 12))) pa_nil)))
        (pss_cons (ps_set (i := 8) sc_heart.nd rfl (by first | exact Or.inl rfl | exact Or.inr rfl) (pe_callB call_len_seq (by rfl) T.f_len (by decide +kernel) (pa_cons (pv 4) pa_nil)))
        (pss_cons (ps_set (i := 9) sc_heart.nd rfl (by first | exact Or.inl rfl | exact Or.inr rfl) (pe_callB (cr_sum rfl) (by rfl) T.f_sum (by decide +kernel) (pa_cons (pe_lc (own := [("k", 14)]) (g := (gName 14)) (tt := tYes) rfl sc_heart.nd (pi_range2 rfl T.f_range (pa_cons (pv 5) (pa_cons (pe_op op_add (pv 8) pe_int) pa_nil))) (blkOk_by (own := [("k", 14)]) (N := ["machine", "task", "seed", "good", "some", "here", "twins", "there", "many", "ways", "number", "one", "question", "due", "k"]) (sc := defScope s_heart) (by decide +kernel)) (fun _ _ _ _ _ => pg_name (i := 14) sc_heart.nd rfl (by first | exact Or.inl rfl | exact Or.inr rfl)) (fun _ _ _ _ _ => pts_nil) (fun _ _ _ _ _ => (pe_op op_mul (pe_def G_choose (hr.mono (by omega)) pass0 (pa_cons (pv 8) (pa_cons (pv 14) pa_nil))) (pe_def G_choose (hr.mono (by omega)) pass0 (pa_cons (pv 8) (pa_cons (pe_op op_sub (pe_op op_add (pv 5) (pv 7)) (pv 14)) pa_nil)))))) pa_nil)))
        (pss_one (ps_ret (pe_tup (pa_cons (pv 8) (pa_cons (pv 5) (pa_cons (pv 7) (pa_cons (pv 9) (pa_cons (pe_def G_choose (hr.mono (by omega)) pass0 (pa_cons (pe_op op_mul pe_int (pv 8)) (pa_cons (pe_op op_add (pv 5) (pv 7)) pa_nil))) pa_nil))))))))))))))), ?_⟩
    have hlen := ht.len
    refine ⟨v, rfl, u, rfl, _, rfl, rfl, rfl, ⟨v, u, m, t, sd, rfl, hm, hd, hmo, ht, hs, fun H1 w f1 hw => ?_⟩⟩
    obtain ⟨gd, gs, rfl, hgs, hgx⟩ := hw.tupI
    obtain rfl := DpAll.intsI hgx
    obtain ⟨a, v0, v1, rfl, hs0, h0, h1⟩ := (hd.ext f1).tup2
    cases h1
    obtain ⟨b, xs, rfl, hb, hx⟩ := h0.tupI
    have hxl : xs.length = t.rows.length := by rw [hx.len, List.length_map]
    -- some
    refine rd_ixT (j := 0) rfl hs0 rfl ⟨b, xs, rfl, hb, fun D hD => lc_rel (walk_enT (xs := xs)) (fun i acc H2 => Fx [] H1 H2 ∧ acc = (ixN' t i).map natV) ⟨Fx.new hD, rfl⟩ (fun i acc H2 r => r.1.sqT hb) (fun i acc x H2 H3 hi hl hDa r y => ?_) (fun acc H2 hl hDa r => ?_)⟩
    · obtain ⟨T', u, w, rfl, hT, hu, hv⟩ := YPair.tup y
      cases hu
      have fy : Fx [] H2 H3 := YPair.fx y
      obtain ⟨f, rfl⟩ := r
      have f3 := f.trans fy
      have hDa3 := fy.to hDa fun z => nomatch z
      obtain ⟨d, g1, g2⟩ := hx.get hv
      rw [List.getElem?_map] at g1
      obtain ⟨r, hrr, rfl⟩ := Option.map_eq_some_iff.mp g1
      have g3 := g2.ext f3
      obtain ⟨c, w0, w1, w2, rfl, hc, k0, k1, k2⟩ := g3.tup3
      refine ⟨T', _, rfl, SqT.of hT, rfl, _, _, rfl, _, _, rfl, rfl, rfl, ?_⟩
      have er : hasTw t i = !decide (w2 = .non) := by
        unfold hasTw
        rw [hrr]
        cases htw : r.twin with
        | none =>
          rw [htw] at k2
          cases k2
          simp [htw]
        | some p =>
          rw [htw] at k2
          obtain ⟨_, _, _, rfl, _⟩ := k2.tup2
          simp [htw]
      refine rd_ixT (j := 2) rfl hc rfl ⟨rfl, _, rfl, ?_⟩
      rw [← er]
      refine ifB (fun c2 => ?_) (fun c2 => ?_)
      · refine ⟨_, rfl, Put.ok hl (by omega) hDa3 ⟨f3.loc hD (Chg.lst hDa3), ?_⟩⟩
        rw [ixN_succ, c2, List.map_append]
        rfl
      · refine Pvl.skip hl hDa3 ⟨f3, ?_⟩
        rw [ixN_succ, c2]
        simp
    · obtain ⟨f2, rfl⟩ := r
      rw [hxl] at hDa
      have hso : H2 D = some (.lst ((ixT t).map natV)) := hDa
      have hgs2 := f2.sqT hgs
      have hil : (ixT t).length ≤ 16 := Nat.le_trans (ixN_len t _) hlen
      -- here
      refine ⟨_, rfl, D, rfl, ⟨_, SqL.of hso⟩, fun D2 hD2 => lc_rel (walk_list (xs := (ixT t).map natV)) (fun i acc H3 => Fx [] H2 H3 ∧ acc = (((ixT t).take i).filter (rightB m t sd)).map natV) ⟨Fx.new hD2, rfl⟩ (fun i acc H3 r => SqL.of (r.1.to hso fun z => nomatch z)) (fun i acc x H3 H4 hi hl hDa r y => ?_) (fun acc H3 hl hDa r => ?_)⟩
      · obtain ⟨rfl, hxg⟩ := y
        rw [List.getElem?_map] at hxg
        obtain ⟨k, hk, rfl⟩ := Option.map_eq_some_iff.mp hxg
        obtain ⟨f, rfl⟩ := r
        obtain ⟨_, _, _, _, _, hkl⟩ := ixT_get hk
        refine ⟨rfl, _, rfl, _, rfl, gd, _, rfl, .inr (f.sqT hgs2), rfl, all_flat _, ?_⟩
        rw [if_neg (by decide), show inV (natV k) ((rightL m t sd).map V.int) = rightB m t sd k from in_right hkl]
        refine ⟨_, rfl, ifB (fun c2 => ?_) (fun c2 => ?_)⟩
        · refine ⟨_, rfl, Put.ok hl (by rw [List.length_map] at hi; omega) hDa ⟨f.loc hD2 (Chg.lst hDa), ?_⟩⟩
          rw [filt_succ _ hk, c2, List.map_append]
          rfl
        · refine Pvl.skip hl hDa ⟨f, ?_⟩
          rw [filt_succ _ hk, c2]
          simp
      · obtain ⟨f3, rfl⟩ := r
        rw [List.length_map, List.take_length] at hDa
        refine ⟨D2, _, rfl, .inl (SqL.of hDa), ?_⟩
        rw [List.length_map]
        have hso3 := f3.to hso fun z => nomatch z
        have f23 := f2.trans f3
        -- twins
        refine ⟨_, rfl, D, rfl, ⟨_, SqL.of hso3⟩, fun D3 hD3 => lc_rel (walk_list (xs := (ixT t).map natV)) (fun i acc H4 => Fx [] H3 H4 ∧ DpAll K H4 acc (((ixT t).take i).map fun k => twinD (some (twP t k)))) ⟨Fx.new hD3, .nil⟩ (fun i acc H4 r => SqL.of (r.1.to hso3 fun z => nomatch z)) (fun i acc x H4 H5 hi hl hDa r y => ?_) (fun acc H4 hl hDa4 r => ?_)⟩
        · obtain ⟨rfl, hxg⟩ := y
          rw [List.getElem?_map] at hxg
          obtain ⟨k, hk, rfl⟩ := Option.map_eq_some_iff.mp hxg
          obtain ⟨f, hacc⟩ := r
          obtain ⟨r, p, hrr, htw, hp, hkl⟩ := ixT_get hk
          obtain ⟨w, g1, g2⟩ := hx.at (i := k) (d := r.d) (by rw [List.getElem?_map, hrr]; rfl)
          have g3 := (g2.ext f23).ext f
          obtain ⟨c, w0, w1, w2, rfl, hc, k0, k1, k2⟩ := g3.tup3
          have fA := f23.trans f
          refine ⟨rfl, rd_yes (rd_ixT (j := 0) rfl (fA.sqT hs0) rfl ⟨_, rfl, b, xs, (k : Nat), _, rfl, rfl, fA.sqT hb, atI_nat g1, c, _, 2, _, rfl, rfl, hc, atI_nat (j := 2) rfl, ?_⟩)⟩
          refine Put.ok hl (by rw [List.length_map] at hi; omega) hDa ⟨f.loc hD3 (Chg.lst hDa), ?_⟩
          have fD : Fx [D3] H5 (upd H5 D3 (.lst (acc ++ [w2]))) := Fx.set List.mem_cons_self (Chg.lst hDa)
          rw [List.take_add_one, hk, List.map_append]
          have nl2 : nolA (((ixT t).take i).map fun k => twinD (some (twP t k))) = true := by
            generalize (ixT t).take i = l
            induction l with
            | nil => rfl
            | cons z l ih =>
              show (nol (twinD _) && nolA _) = true
              rw [twin_nol, ih]
              rfl
          refine (hacc.mv fD nl2).snoc ?_
          rw [htw, ← hp] at k2
          exact k2.mv fD (twin_nol _)
        · obtain ⟨f4, hacc⟩ := r
          rw [List.length_map, List.take_length] at hacc
          have hal : acc.length = (ixT t).length := by rw [hacc.len, List.length_map]
          have f234 := f23.trans f4
          -- there
          refine ⟨_, rfl, D3, rfl, ⟨_, SqL.of hDa4⟩, fun D4 hD4 => lc_rel (walk_list (xs := acc)) (fun i ac2 H5 => Fx [] H4 H5 ∧ ac2.length = (((ixT t).take i).filter (twR m t sd)).length) ⟨Fx.new hD4, rfl⟩ (fun i ac2 H5 r => SqL.of (r.1.to hDa4 fun z => nomatch z)) (fun i ac2 x H5 H6 hi hl hDa r y => ?_) (fun ac2 H5 hl hDa5 r => ?_)⟩
          · obtain ⟨rfl, hxg⟩ := y
            obtain ⟨f, hac⟩ := r
            obtain ⟨d, g1, g2⟩ := hacc.get hxg
            rw [List.getElem?_map] at g1
            obtain ⟨k, hk, rfl⟩ := Option.map_eq_some_iff.mp g1
            obtain ⟨c, w0, w1, rfl, hc, k0, k1⟩ := (g2.ext f).tup2
            cases k0
            cases k1
            have fA := (f1.trans f234).trans f
            refine ⟨c, _, rfl, hc, rfl, _, _, rfl, _, _, rfl, rfl, rfl, ?_⟩
            refine ⟨v, rfl, _, rfl, _, rfl, ⟨v, m, (twP t k).1, sd, rfl, hm.ext fA, hmo.rows, ⟨_, rfl, eq_oV (K := K) ⟨_, rfl, ?_⟩⟩⟩⟩
            refine ifB (fun c2 => ?_) (fun c2 => ?_)
            · refine ⟨_, rfl, Put.ok hl (by omega) hDa ⟨f.loc hD4 (Chg.lst hDa), ?_⟩⟩
              rw [filt_succ _ hk, show twR m t sd k = true from c2, List.length_append, List.length_append, hac]
              rfl
            · refine Pvl.skip hl hDa ⟨f, ?_⟩
              rw [filt_succ _ hk, show twR m t sd k = false from c2]
              simp [hac]
          · obtain ⟨f5, hac⟩ := r
            rw [hal, List.take_length] at hac
            refine ⟨D4, _, rfl, .inl (SqL.of hDa5), ?_⟩
            rw [hac]
            have hso5 := (f4.trans f5).to hso3 fun z => nomatch z
            refine ⟨_, rfl, D, _, rfl, .inl (SqL.of hso5), ?_⟩
            rw [List.length_map]
            have hle := hrt_le m t sd
            have eM : (ixT t).length = (hrt m t sd).many := rfl
            have eH : ((ixT t).filter (rightB m t sd)).length = (hrt m t sd).here := rfl
            have eT : ((ixT t).filter (twR m t sd)).length = (hrt m t sd).there := rfl
            rw [eM] at hil
            rw [eM, eH, eT]
            generalize hrt m t sd = hr at q hle hil
            have hmb : (0 : Int) ≤ (hr.many : Int) ∧ (hr.many : Int) ≤ 40 := ⟨by omega, by omega⟩
            -- ways
            refine ⟨_, rfl, _, rfl, _, _, rfl, rfl, _, _, rfl, ⟨by omega, by omega, by omega, by omega⟩, fun D5 hD5 => lc_map walk_range (fun i => .int (hr.term i)) (by omega) hD5 (fun _ _ => trivial) (fun _ _ _ _ y => YFn.fx y) (fun i x H6 H7 Qe Z hi f y k => ?_) (fun H6 f6 hL => ?_)⟩
            · obtain ⟨rfl, rfl⟩ := y
              refine ⟨rfl, ifT rfl ?_⟩
              have cs := chooseI_small (n := hr.many) (k := hr.here + (i : Nat)) hmb
              refine ⟨_, rfl, _, rfl, ⟨_, _, rfl, hmb, ?_⟩⟩
              refine ⟨_, rfl, _, rfl, _, rfl, _, _, rfl, rfl, _, rfl, _, _, rfl, rfl, ⟨_, _, rfl, hmb, ?_⟩⟩
              exact ⟨_, _, rfl, rfl, .inl ⟨by omega, by omega⟩, k _ .refl⟩
            · have eN : (((hr.many : Int) + 1 - (hr.here : Int)).toNat) = hr.many + 1 - hr.here := by omega
              rw [eN] at hL
              refine ⟨D5, (List.range (hr.many + 1 - hr.here)).map hr.term, rfl, SqL.of (by rw [hL, List.map_map]; rfl), ?_⟩
              rw [sum_range]
              refine ⟨_, rfl, _, rfl, _, rfl, _, rfl, _, rfl, _, _, rfl, rfl, .inl ⟨by decide, by decide⟩, _, rfl, _, rfl, _, _, rfl, rfl, ⟨_, _, rfl, ⟨by omega, by omega⟩, ?_⟩⟩
              refine ⟨by show 5 ≤ sizeLine; decide, fun p hp => ?_⟩
              exact q _ _ ((((f1.trans f234).trans f5).trans f6).trans (Fx.new hp)) (.tup (SqT.of upd_same) (.cons (.int _) (.cons (.int _) (.cons (.int _) (.cons (.int _) (.cons (.int _) .nil))))))
end Mh
/-! MhLcX -/
namespace Mh
open PySem PySem.Spec PyProof.Rows L2
/-! ### a list comprehension whose item may raise -/
section
variable {M : Model} {A : Around} {E : Value → Shared → Prop} {s : Shared} {env : Env}
/-- behind the block: as ever; or the exception, with the frame known -/
def postX (M : Model) (A : Around) (E : Value → Shared → Prop) (use : Option (Value → Sem Unit)) (Q : Value → Shared → Prop) (acc : Value) (C : Addr) (fr : Option Addr) (r : Result) (s' : Shared) : Prop :=
  match r with
  | .ok f => compPost M A E use Q acc C (.ok f) s'
  | .error x => ∃ m, s'.heap.Ns C m ∧ ∀ h' m', h'.Ns C m' → Heap.SameBut C s'.heap h' → ∀ ce : Env, ce.frame = fr → wpAny M A (passOn "comprehension.variables-let-go" x ce : Sem Value) (fun _ _ => False) E { s' with heap := h' }
theorem comp_freeX {e : Expr} {scope : Scope} {pos : Pos} {newAcc first : Sem Value} {g : Comprehension} {gs : List Comprehension} {cl : List (Str × Addr)} {use : Option (Value → Sem Unit)} {Q : Value → Shared → Prop}
    (c1 : clausesOf e = g :: gs) (c2 : ∀ x, foldedSetIterable g.iter env x = pure x) (c3 : closureFor scope env = pure cl) (c4 : scope.kind = .function) (c5 : ∀ x ∈ scope.names, x.2 = .local → scope.names.lookup x.1 = some .local)
    (h : wpAny M A first (fun x s₁ => wpAny M A (pyIter x) (fun it s₂ => wpAny M A newAcc (fun acc s₃ => wpAny M A (newFunctionEnv scope env.globals cl [] env.qual none .none (some env)) (fun cv s₄ => codeAny M A (.compStart e 0 it acc { cv with scope := relabel scope env }) (postX M A E use Q acc cv.locals cv.frame) s₄) E s₃) E s₂) E s₁) E s) :
    wpAny M A (comprehension e scope env pos newAcc false first use) Q E s := by
  unfold comprehension
  rw [c3, c1]
  refine wpAny_bind (wpAny_mono h (fun x s₁ h₁ => ?_) fun _ _ z => z)
  refine wpAny_bind (wpAny_standAt (wpAny_bind (wpAny_of_eq (c2 x) (wpAny_bind (wpAny_holding (wpAny_mono h₁ (fun it s₂ h₂ => ?_) fun _ _ z => z))))))
  refine wpAny_standIf (wpAny_bind (wpAny_mono h₂ (fun acc s₃ h₃ => ?_) fun _ _ z => z))
  refine wpAny_bind (wpAny_pure (wpAny_bind (wpAny_mono h₃ (fun cv s₄ h₄ => ?_) fun _ _ z => z)))
  dsimp only
  have v1 : ∀ x ∈ (scope.names.filter fun x => (x.2 == .local || x.2 == .cell) && x.1 != (".0" : Str)).reverse, x.2 = .local → Env.kindOf { cv with scope := relabel scope env } x.1 = some .local := fun x m l => lookup_relabel_local (c5 x (List.mem_filter.mp (List.mem_reverse.mp m)).1 l)
  refine wpAny_holding (wpAny_bind (wpAny_attempt (wpAny_holding (wpAny_run (codeAny_mono h₄ fun r s5 hr => ?_)))))
  cases r with
  | ok f =>
    cases use with
    | none =>
      obtain ⟨m, hn, hr⟩ := hr
      exact wpAny_bind (wpAny_holding (wpAny_comp_letGo (cenv := { cv with scope := relabel scope env }) c4 _ s5 m v1 hn fun h6 m6 _ z => wpAny_pure (hr h6 z)))
    | some u =>
      refine wpAny_bind (wpAny_rule (wpAny_bind (wpAny_holding (wpAny_mono hr (fun _ s6 hr' => ?_) fun _ _ z => z))))
      obtain ⟨m, hn, hr'⟩ := hr'
      refine wpAny_bind (wpAny_comp_letGo (cenv := { cv with scope := relabel scope env }) c4 _ s6 m (fun x m l => ?_) hn fun h7 m7 _ z => wpAny_pure (hr' h7 z))
      rcases List.mem_append.mp m with m1 | m1
      · exact v1 x (List.mem_of_mem_drop m1) l
      · exact v1 x (List.mem_of_mem_take m1) l
  | error x =>
    obtain ⟨m, hn, hr⟩ := hr
    refine wpAny_bind (wpAny_holding (wpAny_comp_letGo (cenv := { cv with scope := relabel scope env }) c4 _ s5 m v1 hn fun h6 m6 n6 z => ?_))
    have k := hr h6 m6 n6 z { cv with scope := relabel scope env } rfl
    first
      | exact wpAny_mono k (fun _ _ f => f.elim) fun _ _ y => y
      | (cases use <;> exact wpAny_mono k (fun _ _ f => f.elim) fun _ _ y => y)
end
section
variable {X : Cx}
/-- the block's context, what is wished of an exception named -/
abbrev blkX (X : Cx) (s : Shared) (H : Hp) (scope : Scope) (ce : Env) (fp : List Addr) (xe : Value → Shared → Prop) : Cx := (X.blk s H scope ce fp).wish xe
/-- an item's call raises: out of the block, on in the def's own air -/
theorem raise_out {pins pb : List (Addr × Obj)} {σ σb : L2.St} {s3 sb s' : Shared} {H3 Hb : Hp} {scope : Scope} {cl : List (Str × Addr)} {fp : List Addr} {xe E' : Value → Shared → Prop} {W : WX} {use : Option (Value → Sem Unit)} {Qf : Value → Shared → Prop} {acc u : Value}
    (hst : X.stack = X.env :: X.outer) (hfr : X.env.frame = some X.env.locals) (tk : Takes X W) (I3 : Inv X pins σ H3 s3) (f3 : ∀ b ∈ fp, FpOk X pins H3 b)
    (Ib : Inv (blkX X s3 H3 scope (compEnvC scope cl s3.heap.objs.size X.env) fp xe) pb σb Hb sb) (c : L2.CX X.prog X.w X.stack Hb sb (fun cls d H' => W cls d σ H') u s') :
    wpAny (model X.prog X.w) X.A (noteFrame u (compEnvC scope cl s3.heap.objs.size X.env)) (fun _ s'' => postX (model X.prog X.w) X.A X.xe use Qf acc s3.heap.objs.size X.env.frame (.error u) s'') E' s' := by
  obtain ⟨a, B, H', cls, d, rfl, fl, hok, ub, na, os, ag, hw⟩ := c
  have I7 : Inv X pins σ Hb sb := I3.call' (ch := fp) Ib.os Ib.base Ib.hok Ib.bare fun b hb => ⟨(f3 b hb).2.2.2.1, (f3 b hb).2.1, (f3 b hb).2.2.2.2.1, (f3 b hb).2.2.2.2.2⟩
  obtain ⟨m, ⟨oC, es, ep, hoC, dC, rC⟩, _⟩ := Ib.loc
  have hoC : sb.heap.get? s3.heap.objs.size = some oC := hoC
  have nC : Hb s3.heap.objs.size = none := Ib.free
  have FC := I3.fpOk (Nat.le_refl _) nC
  generalize hC : s3.heap.objs.size = C at *
  obtain ⟨_, g1, g2, g3, g4, g5⟩ := FC
  have nCf : C ∉ frs X.stack := fun z => by
    rw [hst] at z
    unfold frs at z
    rw [List.filterMap_cons, hfr] at z
    rcases List.mem_cons.mp z with z | z
    · exact g1 z
    · exact g2 z
  have BC := ub.keep C oC hoC nC nCf
  have nC' := ub.free C oC hoC nC
  have hfA : X.A.frames = some (X.env :: X.outer) := by rw [I3.ok.frames, hst]
  have aC : a ≠ C := fun z => by
    have := fl.2.1
    rw [z, BC] at this
    cases this
  show wpAny (model X.prog X.w) X.A (noteFrame (.ref a) X.env) _ _ s'
  refine HandSPX.looks_onZ Zc.steady hfA hfr (by rw [← hst]; exact fl) fun h1 hh1 up1 => ?_
  refine ⟨m, ⟨oC, es, ep, hh1.1 C oC BC, dC, rC⟩, fun h2 m2 n2 sm ce hce => ?_⟩
  -- the ground without the block's own names
  have b0 : ∀ b o, (PySem.W.hideAll B [C]).get? b = some o → B.get? b = some o ∧ b ≠ C := fun b o e => ⟨PySem.W.of_hideAll _ e, fun z => by
    rw [z, PySem.W.hideAll_none _ List.mem_cons_self] at e
    cases e⟩
  have b1 : ∀ b o, B.get? b = some o → b ≠ C → (PySem.W.hideAll B [C]).get? b = some o := fun b o e n => PySem.W.hideAll_get _ e fun z => n (List.mem_singleton.mp z)
  have b2 : ∀ b, B.get? b = none → (PySem.W.hideAll B [C]).get? b = none := fun b e => by
    cases q : (PySem.W.hideAll B [C]).get? b with
    | none => rfl
    | some o => rw [(b0 b o q).1] at e; cases e
  have hh2 : HandSPX.HeldZ (PySem.W.hideAll B [C]) (X.env :: X.outer) a (Zc cls d) X.env.locals h2 := by
    refine ⟨fun b o e => (sm.2 b (b0 b o e).2).trans (hh1.1 b o (b0 b o e).1), b2 a hh1.2.1, Heap.FunFrames.sameBut sm n2 (funFrames_none hh1.2.2.1 fun L hL => b2 L (hh1.2.2.1.mem hL).1), ?_⟩
    obtain ⟨oe, vs, T, oT, ts, q1, q2, q3, q4, q5, q6, q7, q8, q9⟩ := hh1.2.2.2
    have TC : T ≠ C := fun z => by
      rw [z, BC] at q5
      cases q5
    exact ⟨oe, vs, T, oT, ts, (sm.2 a aC).trans q1, q2, q3, q4, b2 T q5, q6, (sm.2 T TC).trans q7, q8, q9⟩
  -- the state without the exception
  obtain ⟨G, k1, k2⟩ := restrict s'.heap fun b => ((PySem.W.hideAll B [C]).get? b).isSome || decide (b ∈ frs X.stack)
  have gB : ∀ b o, (PySem.W.hideAll B [C]).get? b = some o → G.get? b = some o := fun b o e => by
    rw [k1 b (by simp [e])]
    exact fl.1 b o (b0 b o e).1
  have og : ∀ b o, G.get? b = some o → s'.heap.get? b = some o ∧ (((PySem.W.hideAll B [C]).get? b).isSome = true ∨ b ∈ frs X.stack) := fun b o e => by
    cases q : (((PySem.W.hideAll B [C]).get? b).isSome || decide (b ∈ frs X.stack)) with
    | false => rw [k2 b q] at e; cases e
    | true => rw [k1 b q] at e; exact ⟨e, by simpa [Bool.or_eq_true] using q⟩
  have gC : ∀ b o, G.get? b = some o → b ≠ C := fun b o e z => by
    rcases (og b o e).2 with y | y
    · obtain ⟨o', y⟩ := Option.isSome_iff_exists.mp y
      exact (b0 b o' y).2 z
    · exact nCf (by rw [← z]; exact y)
  have I8 : Inv X pins σ Hb { sb with heap := PySem.W.hideAll sb.heap [C], toks := sb.toks } := I7.turned (fun b o n e => PySem.W.hideAll_get _ e fun z => n (List.mem_singleton.mp z)) nC g1.symm.symm g3 g4 g5
  have hok0 : HOk X.prog X.w H' (PySem.W.hideAll B [C]) := fun b v e => (hok b v e).stay (fun q o hq r => b1 q o r fun z => by
    rcases hq with y | y
    · rw [← y, z, nC'] at e; cases e
    · rw [z, nC'] at y; cases y) (fun _ q => q) fun _ _ q => q
  have h8 : ∀ b o, (PySem.W.hideAll sb.heap [C]).get? b = some o → sb.heap.get? b = some o ∧ b ≠ C := fun b o e => ⟨PySem.W.of_hideAll _ e, fun z => by
    rw [z, PySem.W.hideAll_none _ List.mem_cons_self] at e
    cases e⟩
  have I9 := I8.call (ch := []) (h' := G) (g' := s'.gens) (t' := s'.toks) (d' := s'.drawn) (H' := H')
    ⟨fun b o e n hb _ => gB b o (b1 b o (ub.keep b o (h8 b o e).1 n hb) (h8 b o e).2), fun b o e n hb _ => (by
      obtain ⟨sl, q⟩ := ub.slot b o (h8 b o e).1 hb
      exact ⟨sl, (k1 b (by simp [hb])).trans q⟩), fun b o e n _ => ub.free b o (h8 b o e).1 n, fun b o e _ => (by
      by_cases hb : b ∈ frs X.stack
      · obtain ⟨sl, q⟩ := ub.slot b o (h8 b o e).1 hb
        exact ⟨_, (k1 b (by simp [hb])).trans q⟩
      · obtain ⟨o', q⟩ := ub.there b o (h8 b o e).1 hb
        exact ⟨o', gB b o' (b1 b o' q (h8 b o e).2)⟩), ub.tups, ub.frzs, ub.tbls⟩ (hok0.kept gB) ag (fun _ z => nomatch z)
  -- on it goes
  obtain ⟨oe, vs, T, oT, ts, q1, q2, q3, q4, q5, q6, q7, q8, q9⟩ := id hh2.2.2.2
  unfold PySem.passOn
  refine wpAny_bind (wpAny_field q1 q3 q4 ?_)
  rw [if_neg (show ¬ ((Value.ref T == Value.none) = true) from by simp)]
  have fly : wpAny (model X.prog X.w) X.A (setFlight (.ref a) ce.frame) (fun _ s7 => wpAny (model X.prog X.w) X.A (throw (.ref a) : Sem Value) (fun _ _ => False) X.xe s7) X.xe { s' with heap := h2 } := by
    rw [hce, hfr]
    refine HandSPX.setFlight_onZ hh2 fun h4 hh4 up4 => wpAny_throw (tk _ _ ?_)
    refine ⟨a, PySem.W.hideAll B [C], _, pins, σ, H', cls, d, rfl, I9, fun b o e hb => ?_, fun b o e nf => ?_, .inr (.inr (by rw [hst]; exact hh4)), na, os, ag, hw⟩
    · rcases (og b o e).2 with y | y
      · obtain ⟨o', y⟩ := Option.isSome_iff_exists.mp y
        have z := fl.1 b o' (b0 b o' y).1
        rw [(og b o e).1] at z
        cases z
        exact y
      · exact absurd y hb
    · obtain ⟨s1, z1⟩ := up1 b o (og b o e).1 nf
      have z2 := (sm.2 b (gC b o e)).trans z1
      obtain ⟨s2, z3⟩ := up4 b _ z2 nf
      exact ⟨s2, z3⟩
  first
    | exact wpAny_bind (wpAny_pure (wpAny_bind fly))
    | exact wpAny_bind fly
end
/-- [elt for target in iter if ..], the item told what is wished of its exceptions -/
def tLcX (W : WX) (wi : TI) (g : TG) (tt : TT) (te : XK → TE) (vs : List Nat) : TE := fun σ H Q => tLc wi g tt (te fun cls d H' => W cls d σ H') vs σ H Q
section
variable {X : Cx}
theorem lc_coreX {pins : List (Addr × Obj)} {s : Shared} {σ : L2.St} {H : Hp} {Q : VK} {elt tg iter : Expr} {ifs : List Expr} {scope : Scope} {own : List (Str × Nat)} {pos pos' : Pos} {wi : TI} {g : TG} {tt : TT} {te : XK → TE} {W : WX} {use : Option (Value → Sem Unit)} {Qf : Value → Shared → Prop}
    (hst : X.stack = X.env :: X.outer) (hfr : X.env.frame = some X.env.locals) (tk : Takes X W) (hc : X.calm = true) (hN : X.N.Nodup) (I : Inv X pins σ H s) (hi : PI X tg iter wi) (ok : BlkOk X.N X.env.scope scope own)
    (wg : ∀ (s : Shared) (H : Hp) (C : Addr) (cl : List (Str × Addr)) (fp : List Addr), PG (X.blk s H scope (compEnvC scope cl C X.env) fp) tg g) (wt : ∀ (s : Shared) (H : Hp) (C : Addr) (cl : List (Str × Addr)) (fp : List Addr), PTs (X.blk s H scope (compEnvC scope cl C X.env) fp) ifs tt)
    (we : ∀ (s : Shared) (H : Hp) (C : Addr) (cl : List (Str × Addr)) (fp : List Addr) (xe : Value → Shared → Prop) (E : XK), Passes (L2.CX X.prog X.w) (blkX X s H scope (compEnvC scope cl C X.env) fp xe) E → PE (blkX X s H scope (compEnvC scope cl C X.env) fp xe) elt (te E))
    (hs : ∀ x, foldedSetIterable iter X.env x = pure x) (h : tLcX W wi g tt te (own.map (·.2)) σ H Q)
    (last : ∀ D C s' m H', Inv X pins σ H' s' → Q (.ref D) H' → s'.heap.Ns C m → FpOk X pins H' C → compPost (model X.prog X.w) X.A X.xe use Qf (.ref D) C (.ok .next) s') :
    wpAny (model X.prog X.w) X.A (comprehension (.ListComp elt [⟨tg, iter, ifs, 0⟩] scope pos) scope X.env pos' (newList []) false (eval iter X.env) use) Qf X.xe s := by
  have fr0 : ∀ y ∈ scope.names, y.2 = .free → ∃ c, X.env.cells.lookup y.1 = some c := fun y m e => (ok.free y m e).elim (fun k => I.ok.has _ (.inl k)) fun k => I.ok.has _ (.inr k)
  refine comp_freeX (use := use) rfl hs (closure_ok fr0) ok.kind (fun y m e => by rw [ok.uniq y m, e]) (thn (hi.run pins s σ H _ I h) fun v0 s1 h0 => thn h0 fun v1 s2 h2 => ?_)
  obtain ⟨it, fp, tn, J, H2, e, I2, T, st2, f2, q⟩ := h2
  subst e
  refine wpAny_newObj_type (newEnv_comp ?_) (by show 0 ≤ sizeLine; decide)
  generalize eD : s2.heap.objs.size = D
  obtain ⟨Wv, ⟨m0, w0⟩, turn⟩ := q D (I2.hok.fresh (Nat.le_of_eq eD))
  generalize es3 : ({ s2 with heap := s2.heap.push { cls := .type "list", data := .seq ([] : List Value).toArray } } : Shared) = s3
  have h3 : s3.heap = s2.heap.push { cls := .type "list", data := .seq ([] : List Value).toArray } := by rw [← es3]
  have I3 : Inv X pins σ (upd H2 D (.lst [])) s3 := by
    rw [← es3]
    refine I2.laid (t' := s2.toks) (fun b o e => Heap.get?_push_of_some _ e) (Nat.le_of_eq eD) ⟨Nat.zero_le _, [], 0, .nil, ?_⟩
    rw [← eD]
    exact Heap.get?_push_size _ rfl
  have f3 : ∀ b ∈ fp, FpOk X pins (upd H2 D (.lst [])) b ∧ b < s3.heap.objs.size := fun b m => by
    obtain ⟨o, e, _⟩ := T.obj _ _ st2 b m
    have lt := Heap.lt_size e
    refine ⟨⟨?_, (f2 b m).2⟩, by rw [h3, Heap.size_push]; exact Nat.lt_succ_of_lt lt⟩
    rw [upd_ne (by rw [← eD]; exact Nat.ne_of_lt lt)]
    exact (f2 b m).1
  have st3 : tn 0 s3.heap := T.keep _ _ _ st2 fun b _ o e => by rw [h3]; exact Heap.get?_push_of_some _ e
  have I4 := block_start I3 ok hN f3
  generalize ecl : cellsFrom (s3.heap.objs.size + 1) scope.names (cloFrom X.env.cells scope.names []) = cl at I4
  have pg := wg s3 (upd H2 D (.lst [])) s3.heap.objs.size cl fp
  have pt := wt s3 (upd H2 D (.lst [])) s3.heap.objs.size cl fp
  have pe := we s3 (upd H2 D (.lst [])) s3.heap.objs.size cl fp (notedBy (model X.prog X.w) X.A (compEnvC scope cl s3.heap.objs.size X.env) fun u s' => postX (model X.prog X.w) X.A X.xe use Qf (.ref D) s3.heap.objs.size X.env.frame (.error u) s') (fun cls d H' => W cls d σ H')
    fun pb σb Hb sb u s' Ib c => raise_out hst hfr tk I3 (fun b m => (f3 b m).1) Ib c
  show codeAny _ _ (.compStart (.ListComp elt [⟨tg, iter, ifs, 0⟩] scope pos) 0 (.ref it) (.ref D) (compEnvC scope cl s3.heap.objs.size X.env)) (postX (model X.prog X.w) X.A X.xe use Qf (.ref D) s3.heap.objs.size X.env.frame) { s3 with heap := pushCells (s3.heap.push { cls := .type "dict", data := .dict #[] }) scope.names }
  have n3 : ∀ b ∈ fp, (upd H2 D (.lst [])) b = none := fun b m => (f3 b m).1.1
  generalize upd H2 D (.lst []) = H3 at I3 I4 pg pt pe w0 n3 f3
  generalize es4 : ({ s3 with heap := pushCells (s3.heap.push { cls := .type "dict", data := .dict #[] }) scope.names } : Shared) = s4 at I4 ⊢
  have st4 : tn 0 s4.heap := T.keep _ _ _ st3 fun b _ o e => by rw [← es4]; exact pushCells_keeps _ _ _ _ (Heap.get?_push_of_some _ e)
  generalize ece : compEnvC scope cl s3.heap.objs.size X.env = ce at I4 pg pt pe ⊢
  have cL : ce.locals = s3.heap.objs.size := by rw [← ece]; rfl
  have stat : ∀ {σ' : L2.St} {H' : Hp} {s' : Shared}, Inv (X.blk s3 H3 scope ce fp) [] σ' H' s' → (∀ b ∈ fp, H' b = none) → ∀ b ∈ fp, FpOk (X.blk s3 H3 scope ce fp) [] H' b := fun {σ' H' s'} I' n b m =>
    ⟨n b m, (I'.ok.exf b m).1, I'.ok.exfs b m, .inl m, fun x c e => (I'.ok.exf b m).2 x c e, fun p k => absurd (show p ∈ ([] : List (Addr × Obj)) ++ [] from k) (by simp)⟩
  have loop : codeAny (model X.prog X.w) X.A (.compLoop (.ListComp elt [⟨tg, iter, ifs, 0⟩] scope pos) 0 (.ref it) (.ref D) ce) (postX (model X.prog X.w) X.A X.xe use Qf (.ref D) s3.heap.objs.size X.env.frame) s4 := by
    refine compLoop_any (fun n s' => ∃ i H', Inv (X.blk s3 H3 scope ce fp) [] (wipe σ (own.map (·.2))) H' s' ∧ tn i s'.heap ∧ (∀ b ∈ fp, H' b = none) ∧ Wv i n H') ?_ m0 ⟨0, H3, I4, st4, n3, w0⟩
    rintro n s5 ⟨i, H5, I5, st5, n5, w5⟩
    rcases turn i n H5 w5 with ⟨stop, qq⟩ | ⟨go, Nx, hNx, step⟩
    · refine thnF (T.done (X.blk s3 H3 scope ce fp) rfl rfl rfl hc i [] s5 _ H5 (fun _ _ => False) I5 (stat I5 n5) st5 stop) fun r s6 ⟨er, I6⟩ => ?_
      subst er
      have I7 : Inv X pins σ H5 s6 := I3.call' (ch := fp) I6.os I6.base I6.hok I6.bare fun b m => ⟨(f3 b m).1.2.2.2.1, (f3 b m).1.2.1, (f3 b m).1.2.2.2.2.1, (f3 b m).1.2.2.2.2.2⟩
      have nC : H5 s3.heap.objs.size = none := by
        have z : H5 ce.locals = none := I6.free
        rwa [cL] at z
      obtain ⟨m, nm, _⟩ := I6.loc
      have nm : s6.heap.Ns ce.locals m := nm
      rw [cL] at nm
      exact last D s3.heap.objs.size s6 m H5 I7 qq nm (I3.fpOk (Nat.le_refl _) nC)
    · refine thnF (T.item (X.blk s3 H3 scope ce fp) rfl rfl rfl hc i [] s5 _ H5 (fun _ _ => False) I5 (stat I5 n5) st5 go) fun r s6 ⟨u, er, h6⟩ => ?_
      subst er
      refine thnF h6 fun _ s7 ⟨x, H7, I7, r7, y7, st7, n7⟩ => ?_
      refine thnF (pg.run _ s7 _ H7 x u _ (I7.pinned (stat I7 n7) (T.obj _ _ st7)) r7 (step x H7 y7)) fun _ s8 ⟨σ8, H8, I8, hw8, q8⟩ => ?_
      refine thnF (pt.run _ s8 σ8 H8 _ I8 q8) fun b s9 ⟨H9, I9, q9⟩ => ?_
      have fin : ∀ {s' : Shared} {H' : Hp}, Inv (X.blk s3 H3 scope ce fp) ([] ++ pinsAt fp s7.heap) σ8 H' s' → Nx H' → ∃ m, m < n ∧ ∃ i H', Inv (X.blk s3 H3 scope ce fp) [] (wipe σ (own.map (·.2))) H' s' ∧ tn i s'.heap ∧ (∀ b ∈ fp, H' b = none) ∧ Wv i m H' := fun {s' H'} I' nx => by
        obtain ⟨m', lm, w'⟩ := hNx H' nx
        have pk : ∀ b ∈ fp, ∀ o, s7.heap.get? b = some o → s'.heap.get? b = some o ∧ H' b = none := fun b m o e => ⟨(I'.pin (b, o) (List.mem_append_right _ (List.mem_append_right _ (mem_pinsAt m e)))).1, (I'.pin (b, o) (List.mem_append_right _ (List.mem_append_right _ (mem_pinsAt m e)))).2.1⟩
        refine ⟨m', lm, i + 1, H', (I'.unpinned (pins := [])).weak (by rw [← hw8, wipe_length]) (fun j v e => ?_), T.keep _ _ _ st7 fun b m o e => (pk b m o e).1, fun b m => ?_, w'⟩
        · rw [← hw8] at e
          exact (wipe_some e).1
        · obtain ⟨o, e, _⟩ := T.obj _ _ st7 b m
          exact (pk b m o e).2
      cases b with
      | false =>
        simp only [Bool.false_eq_true, if_false] at q9 ⊢
        exact fin I9 q9
      | true =>
        simp only [if_true] at q9 ⊢
        refine wpAny_mono (pe.run _ s9 σ8 H9 _ (I9.wish _) q9) (fun z s10 ⟨yv, H10, I10, r10, acc, hD10, hz10, nx⟩ => ?_) fun u s' z => z
        exact app_ok (X := X.blk s3 H3 scope ce fp) I10.unwish hD10 hz10 r10 fun s11 I11 => fin I11 nx
  exact codeAny_compStart_list loop (T.self X.A 0 _ _ _ st4 loop)
/-- name = [..] on one line, the name a local -/
theorem ps_setLcX {i : Nat} {y : Str} {py : Pos} {elt tg iter : Expr} {ifs : List Expr} {scope : Scope} {own : List (Str × Nat)} {pos spos : Pos} {wi : TI} {g : TG} {tt : TT} {te : XK → TE} {W : WX} (hst : X.stack = X.env :: X.outer) (hfr : X.env.frame = some X.env.locals) (tk : Takes X W) (hc : X.calm = true) (hN : X.N.Nodup) (hy : X.N[i]? = some y) (hyl : X.env.scope.names.lookup y = some .local)
    (hsw : swapsWith (.ListComp elt [⟨tg, iter, ifs, 0⟩] scope pos) (some (.Name y py)) spos.line X.env = pure true) (hi : PI X tg iter wi) (ok : BlkOk X.N X.env.scope scope own)
    (wg : ∀ (s : Shared) (H : Hp) (C : Addr) (cl : List (Str × Addr)) (fp : List Addr), PG (X.blk s H scope (compEnvC scope cl C X.env) fp) tg g) (wt : ∀ (s : Shared) (H : Hp) (C : Addr) (cl : List (Str × Addr)) (fp : List Addr), PTs (X.blk s H scope (compEnvC scope cl C X.env) fp) ifs tt)
    (we : ∀ (s : Shared) (H : Hp) (C : Addr) (cl : List (Str × Addr)) (fp : List Addr) (xe : Value → Shared → Prop) (E : XK), Passes (L2.CX X.prog X.w) (blkX X s H scope (compEnvC scope cl C X.env) fp xe) E → PE (blkX X s H scope (compEnvC scope cl C X.env) fp xe) elt (te E)) (hs : ∀ x, foldedSetIterable iter X.env x = pure x := by intro _; rfl) :
    PS X (.Assign [.Name y py] (.ListComp elt [⟨tg, iter, ifs, 0⟩] scope pos) spos) (tAsg (tLcX W wi g tt te (own.map (·.2))) (gName i)) := by
  refine ⟨fun pins s σ H D I h => ?_⟩
  rw [exec_Assign_Name_used _ _ _ _ hsw]
  refine wpAny_bind (wpAny_standAt (wpAny_bind ?_))
  show wpAny _ X.A (do let _ ← comprehension (.ListComp elt [⟨tg, iter, ifs, 0⟩] scope pos) scope X.env (firstIterPos [⟨tg, iter, ifs, 0⟩] pos) (newList []) false (eval iter X.env) (some (assign (.Name y py) X.env))) _ _ s
  have h : tLcX W wi g tt te (own.map (·.2)) σ H (fun x H1 => gName i x σ H1 D.nx) := h
  refine wpAny_bind (thn (lc_coreX (Qf := fun _ s' => SP X pins D .next s') hst hfr tk hc hN I hi ok wg wt we hs h fun L C s' m H' I' q nm f => ?_) fun _ s' z => wpAny_pure (wpAny_pure z))
  show wpAny _ _ (assign (.Name y py) X.env (.ref L)) _ _ _
  refine wpAny_assign_Name (store_ok2 (v := V.ref L) I' hN hy (.inl hyl) rfl (fun s2 I2 ⟨a, sb, ha⟩ => ?_) (.inr hyl))
  obtain ⟨k0, k1, k2, k3, k4, k5⟩ := f
  have nCa : C ≠ a := ha.elim (fun z => by rw [z]; exact k1) fun z e => k4 y a z e.symm
  exact ⟨m, nm.sameBut sb nCa, fun h3 sb3 => ⟨_, H', I2.turned (t' := s2.toks) (fun b o n e => (sb3.2 b n).trans e) k0 k1 k3 k4 k5, q⟩⟩
/-! ### try: body finally: suite, the body may raise -/
/-- behind the body, the suite; behind what it raises, too, then out -/
def tFinX (tb : WX → TS) (tf tfs : TS) (Wout : WX) : TS := fun D σ H => tb (wFin tfs Wout) { D with nx := fun σ1 H1 => tf D σ1 H1, rt := fun _ _ => False, bk := fun _ _ => False, ct := fun _ _ => False } σ H
theorem ps_finX {body : List Stmt} {f₀ : Stmt} {fs : List Stmt} {pos : Pos} {tb : WX → TS} {tf tfs : TS} {Wout : WX} (hst : X.stack = X.env :: X.outer) (hfr : X.env.frame = some X.env.locals) (hex : X.ex = []) (tk : Takes X Wout)
    (hb : ∀ (W : WX) (pn : List (Addr × Obj)) (xe : Value → Shared → Prop), Takes (X.tr pn xe) W → PSs (X.tr pn xe) body (tb W)) (hf : PSs X.nox (f₀ :: fs) tf) (hsu : ∀ (a : Addr) (pn : List (Addr × Obj)), PSs (X.suite a pn) (f₀ :: fs) tfs) :
    PS X (.Try body [] [] (f₀ :: fs) pos) (tFinX tb tf tfs Wout) := by
  refine ⟨fun pins s σ H D I h => ?_⟩
  have ok := I.ok
  refine wpAny_Try_finally ?_
  refine wpAny_mono ((hb (wFin tfs Wout) (X.pn ++ pins) (fun x s₁ => wpAny (model X.prog X.w) X.A (noteFrame x X.env) (fun _ s₂ => FinallyRaised X.prog X.w X.A X.xe X.env (f₀ :: fs) (SP X pins D) x s₂) (FinallyRaised X.prog X.w X.A X.xe X.env (f₀ :: fs) (SP X pins D)) s₁) fun u s' xx => fin_exc hst hfr hex ok tk hsu xx).run [] s σ H _ (I.toTry _) h) (fun g s1 z => ?_) (fun x s1 hx => hx)
  cases g with
  | next =>
    obtain ⟨σ1, H1, I1, q1⟩ := z
    refine wpAny_execs_nil ?_
    refine wpAny_mono (hf.run pins s1 σ1 H1 D ((I1.ofTry ok).wish _) q1) (fun g s2 q => ?_) fun _ _ z => False.elim z
    have q' : SP X pins D g s2 := q.unwish
    cases g <;> exact q'
  | ret u =>
    obtain ⟨_, _, _, _, _, q⟩ := z
    exact False.elim q
  | brk =>
    obtain ⟨_, _, _, q⟩ := z
    exact False.elim q
  | cont =>
    obtain ⟨_, _, _, q⟩ := z
    exact False.elim q
end
end Mh
/-! MhLcP -/
namespace Mh
open PySem PySem.Spec PyProof.Rows L2 LamX
/-! ### a list comprehension that calls a def on a lambda -/
/-- pinned cells as a comprehension's frame finds them -/
def PinB (X : Cx) (s : Shared) (H : Hp) (fp : List Addr) (pn : Pins) : Prop := ∀ a o, pn.lookup a = some o → s.heap.get? a = some o ∧ H a = none ∧ a ∉ fp ∧ a ∉ frs X.stack ∧ X.base.get? a = none
def tLcP (cells : List (Str × Addr)) (caps : List (Str × Nat)) (wi : TI) (g : TG) (tt : Pins → TT) (te : TE) (vs : List Nat) : TE := fun σ H Q => wi σ H fun J H1 => ∃ ws : List V, caps.map (fun q => σ[q.2]?) = ws.map (fun v => some (some v)) ∧
  ∀ pn : Pins, CapP cells ((caps.map (·.1)).zip ws) pn → Free H1 pn → ∀ D, H1 D = none → ∃ W : Nat → Nat → Hp → Prop, (∃ m, W 0 m (upd H1 D (.lst []))) ∧ ∀ i m H, W i m H →
  (J.stop i H ∧ Q (.ref D) H) ∨ (J.go i H ∧ ∃ Nx : Hp → Prop, (∀ H', Nx H' → ∃ m', m' < m ∧ W (i + 1) m' H') ∧ ∀ x H', J.yld i H x H' → g x (wipe σ vs) H' fun σ2 H2 => wipe σ2 vs = wipe σ vs ∧ tt pn σ2 H2 fun b H3 =>
    if b = true then te σ2 H3 fun y H4 => ∃ acc, H4 D = some (.lst acc) ∧ acc.length < sizeLine ∧ Nx (upd H4 D (.lst (acc ++ [y]))) else Nx H3)
/-- the call, its pins given -/
def tCallQ (pn : Pins) (sp : Sp) (E : XK) (t : TA) : TE := fun σ H Q => t σ H fun vs H1 => Free H1 pn → sp vs (addP pn H1) (fun v H' => Q v (delP pn H')) (fun c d H' => E c d (delP pn H'))
theorem pin_blk {X : Cx} {s s' : Shared} {H H' : Hp} {fp : List Addr} {pn : Pins} {pins : List (Addr × Obj)} {σ : L2.St} {scope : Scope} {ce : Env} (b : PinB X s H fp pn) (I : Inv (X.blk s H scope ce fp) pins σ H' s') : Free H' pn ∧ PinsAt X.base X.stack s'.heap pn := by
  refine ⟨fun a o e => ?_, ⟨fun a o e => ?_, fun a o e => (b a o e).2.2.2.1, fun a o e => (b a o e).2.2.2.2⟩⟩
  · exact I.base.free a o (b a o e).1 (b a o e).2.1 (b a o e).2.2.1
  · exact I.base.keep a o (b a o e).1 (b a o e).2.1 (b a o e).2.2.2.1 (b a o e).2.2.1
section
variable {X : Cx}
theorem pe_defQ {k : Nat} {ps : List Str} {sp : Sp} {x : Str} {p pos : Pos} {e : Expr} {es : List Expr} {t : TA} {pn : Pins} (F : Def X.prog X.w X.K X.mg X.base CX0 k x ps sp) (hr : Room k X.A) (hp : ∀ pins σ H s, Inv X pins σ H s → Free H pn ∧ PinsAt X.base X.stack s.heap pn) (ha : PA X (e :: es) t) (hg : Gl X x := by rfl) (hdb : (x == ("__debug__" : Str)) = false := by decide)
    (he : starEach (e :: es) X.env = (false, eval e X.env) :: starEach es X.env := by rfl) (hpl : (backTo pos (starEach es X.env)).any (·.1) = false := by rfl) :
    PE X (.Call (.Name x p) (e :: es) [] pos) (tCallQ pn sp E0 t) := by
  obtain ⟨f, fd, F1, hb, g, kp⟩ := F.ex
  refine ⟨fun pins s σ H Q I h => ?_⟩
  refine wpAny_Call_Name_kw (ld_glob I hg g ?_ hdb)
  refine PySem.W.callWith_K (h₀ := X.base) I.ok.mod.kin kp (thn (ha.run pos pins s σ H _ I h) fun us s1 ⟨vs, H1, I1, r, q⟩ => ⟨I1.kIn, ?_⟩) he hpl
  obtain ⟨n, pa⟩ := hp _ _ _ _ I1
  have hsp := q n
  have hl : us.length = ps.length := by rw [← r.length]; exact F1.len _ _ _ _ hsp
  have b := hb s1 us I1.kIn (by rw [List.append_nil]; exact hl)
  rw [List.append_nil] at b
  refine wpAny_call (codeAny_mono (F1.run X.A X.stack s1 (addP pn H1) ⟨us, []⟩ us vs _ _ hr (Env0.addP I1.env0 n pa) b r hsp) fun r s' hq => ?_)
  cases r with
  | error e => exact False.elim hq
  | ok fl =>
    cases fl with
    | ret u => exact I1.after (ce_off n (fun a o e => ⟨pa.g a o e, pa.f a o e⟩) hq)
    | next => exact False.elim hq
    | brk => exact False.elim hq
    | cont => exact False.elim hq
theorem lc_coreP {pins : List (Addr × Obj)} {s : Shared} {σ : L2.St} {H : Hp} {Q : VK} {elt tg iter : Expr} {ifs : List Expr} {scope : Scope} {own : List (Str × Nat)} {pos pos' : Pos} {wi : TI} {g : TG} {tt : Pins → TT} {te : XK → TE} {caps : List (Str × Nat)} {W : WX} {use : Option (Value → Sem Unit)} {Qf : Value → Shared → Prop}
    (hst : X.stack = X.env :: X.outer) (hfr : X.env.frame = some X.env.locals) (tk : Takes X W) (hc : X.calm = true) (hN : X.N.Nodup) (I : Inv X pins σ H s) (hi : PI X tg iter wi) (ok : BlkOk X.N X.env.scope scope own)
    (wg : ∀ (s : Shared) (H : Hp) (C : Addr) (cl : List (Str × Addr)) (fp : List Addr), PG (X.blk s H scope (compEnvC scope cl C X.env) fp) tg g) (wt : ∀ (pn : Pins) (s : Shared) (H : Hp) (C : Addr) (cl : List (Str × Addr)) (fp : List Addr), PinB X s H fp pn → PTs (X.blk s H scope (compEnvC scope cl C X.env) fp) ifs (tt pn))
    (we : ∀ (s : Shared) (H : Hp) (C : Addr) (cl : List (Str × Addr)) (fp : List Addr) (xe : Value → Shared → Prop) (E : XK), Passes (L2.CX X.prog X.w) (blkX X s H scope (compEnvC scope cl C X.env) fp xe) E → PE (blkX X s H scope (compEnvC scope cl C X.env) fp xe) elt (te E))
    (hs : ∀ x, foldedSetIterable iter X.env x = pure x) (hfn : ∀ x, X.fn x = true) (hcap : capsB X.N X.env.scope caps = true) (h : tLcP X.env.cells caps wi g tt (te fun cls d H' => W cls d σ H') (own.map (·.2)) σ H Q)
    (last : ∀ D C s' m H', Inv X pins σ H' s' → Q (.ref D) H' → s'.heap.Ns C m → FpOk X pins H' C → compPost (model X.prog X.w) X.A X.xe use Qf (.ref D) C (.ok .next) s') :
    wpAny (model X.prog X.w) X.A (comprehension (.ListComp elt [⟨tg, iter, ifs, 0⟩] scope pos) scope X.env pos' (newList []) false (eval iter X.env) use) Qf X.xe s := by
  have fr0 : ∀ y ∈ scope.names, y.2 = .free → ∃ c, X.env.cells.lookup y.1 = some c := fun y m e => (ok.free y m e).elim (fun k => I.ok.has _ (.inl k)) fun k => I.ok.has _ (.inr k)
  refine comp_freeX (use := use) rfl hs (closure_ok fr0) ok.kind (fun y m e => by rw [ok.uniq y m, e]) (thn (hi.run pins s σ H _ I h) fun v0 s1 h0 => thn h0 fun v1 s2 h2 => ?_)
  obtain ⟨it, fp, tn, J, H2, e, I2, T, st2, f2, q⟩ := h2
  subst e
  refine wpAny_newObj_type (newEnv_comp ?_) (by show 0 ≤ sizeLine; decide)
  generalize eD : s2.heap.objs.size = D
  obtain ⟨ws, hws, q⟩ := q
  obtain ⟨pn, Cp, np, pa, pc⟩ := pins_of I2 hfn hcap hws
  obtain ⟨Wv, ⟨m0, w0⟩, turn⟩ := q pn Cp np D (I2.hok.fresh (Nat.le_of_eq eD))
  generalize es3 : ({ s2 with heap := s2.heap.push { cls := .type "list", data := .seq ([] : List Value).toArray } } : Shared) = s3
  have h3 : s3.heap = s2.heap.push { cls := .type "list", data := .seq ([] : List Value).toArray } := by rw [← es3]
  have I3 : Inv X pins σ (upd H2 D (.lst [])) s3 := by
    rw [← es3]
    refine I2.laid (t' := s2.toks) (fun b o e => Heap.get?_push_of_some _ e) (Nat.le_of_eq eD) ⟨Nat.zero_le _, [], 0, .nil, ?_⟩
    rw [← eD]
    exact Heap.get?_push_size _ rfl
  have f3 : ∀ b ∈ fp, FpOk X pins (upd H2 D (.lst [])) b ∧ b < s3.heap.objs.size := fun b m => by
    obtain ⟨o, e, _⟩ := T.obj _ _ st2 b m
    have lt := Heap.lt_size e
    refine ⟨⟨?_, (f2 b m).2⟩, by rw [h3, Heap.size_push]; exact Nat.lt_succ_of_lt lt⟩
    rw [upd_ne (by rw [← eD]; exact Nat.ne_of_lt lt)]
    exact (f2 b m).1
  have st3 : tn 0 s3.heap := T.keep _ _ _ st2 fun b _ o e => by rw [h3]; exact Heap.get?_push_of_some _ e
  have I4 := block_start I3 ok hN f3
  generalize ecl : cellsFrom (s3.heap.objs.size + 1) scope.names (cloFrom X.env.cells scope.names []) = cl at I4
  have pg := wg s3 (upd H2 D (.lst [])) s3.heap.objs.size cl fp
  have pb : PinB X s3 (upd H2 D (.lst [])) fp pn := fun a o e => by
    have lt := Heap.lt_size (pa.g a o e)
    refine ⟨by rw [h3]; exact Heap.get?_push_of_some _ (pa.g a o e), by rw [upd_ne (by rw [← eD]; exact Nat.ne_of_lt lt)]; exact np a o e, fun m => ?_, pa.f a o e, pa.b a o e⟩
    obtain ⟨x, ex⟩ := pc a o e
    exact (f2 a m).2.2.2.2.1 x a ex rfl
  have pt := wt pn s3 (upd H2 D (.lst [])) s3.heap.objs.size cl fp pb
  have pe := we s3 (upd H2 D (.lst [])) s3.heap.objs.size cl fp (notedBy (model X.prog X.w) X.A (compEnvC scope cl s3.heap.objs.size X.env) fun u s' => postX (model X.prog X.w) X.A X.xe use Qf (.ref D) s3.heap.objs.size X.env.frame (.error u) s') (fun cls d H' => W cls d σ H')
    fun pb σb Hb sb u s' Ib c => raise_out hst hfr tk I3 (fun b m => (f3 b m).1) Ib c
  show codeAny _ _ (.compStart (.ListComp elt [⟨tg, iter, ifs, 0⟩] scope pos) 0 (.ref it) (.ref D) (compEnvC scope cl s3.heap.objs.size X.env)) (postX (model X.prog X.w) X.A X.xe use Qf (.ref D) s3.heap.objs.size X.env.frame) { s3 with heap := pushCells (s3.heap.push { cls := .type "dict", data := .dict #[] }) scope.names }
  have n3 : ∀ b ∈ fp, (upd H2 D (.lst [])) b = none := fun b m => (f3 b m).1.1
  generalize upd H2 D (.lst []) = H3 at I3 I4 pg pt pe w0 n3 f3
  generalize es4 : ({ s3 with heap := pushCells (s3.heap.push { cls := .type "dict", data := .dict #[] }) scope.names } : Shared) = s4 at I4 ⊢
  have st4 : tn 0 s4.heap := T.keep _ _ _ st3 fun b _ o e => by rw [← es4]; exact pushCells_keeps _ _ _ _ (Heap.get?_push_of_some _ e)
  generalize ece : compEnvC scope cl s3.heap.objs.size X.env = ce at I4 pg pt pe ⊢
  have cL : ce.locals = s3.heap.objs.size := by rw [← ece]; rfl
  have stat : ∀ {σ' : L2.St} {H' : Hp} {s' : Shared}, Inv (X.blk s3 H3 scope ce fp) [] σ' H' s' → (∀ b ∈ fp, H' b = none) → ∀ b ∈ fp, FpOk (X.blk s3 H3 scope ce fp) [] H' b := fun {σ' H' s'} I' n b m =>
    ⟨n b m, (I'.ok.exf b m).1, I'.ok.exfs b m, .inl m, fun x c e => (I'.ok.exf b m).2 x c e, fun p k => absurd (show p ∈ ([] : List (Addr × Obj)) ++ [] from k) (by simp)⟩
  have loop : codeAny (model X.prog X.w) X.A (.compLoop (.ListComp elt [⟨tg, iter, ifs, 0⟩] scope pos) 0 (.ref it) (.ref D) ce) (postX (model X.prog X.w) X.A X.xe use Qf (.ref D) s3.heap.objs.size X.env.frame) s4 := by
    refine compLoop_any (fun n s' => ∃ i H', Inv (X.blk s3 H3 scope ce fp) [] (wipe σ (own.map (·.2))) H' s' ∧ tn i s'.heap ∧ (∀ b ∈ fp, H' b = none) ∧ Wv i n H') ?_ m0 ⟨0, H3, I4, st4, n3, w0⟩
    rintro n s5 ⟨i, H5, I5, st5, n5, w5⟩
    rcases turn i n H5 w5 with ⟨stop, qq⟩ | ⟨go, Nx, hNx, step⟩
    · refine thnF (T.done (X.blk s3 H3 scope ce fp) rfl rfl rfl hc i [] s5 _ H5 (fun _ _ => False) I5 (stat I5 n5) st5 stop) fun r s6 ⟨er, I6⟩ => ?_
      subst er
      have I7 : Inv X pins σ H5 s6 := I3.call' (ch := fp) I6.os I6.base I6.hok I6.bare fun b m => ⟨(f3 b m).1.2.2.2.1, (f3 b m).1.2.1, (f3 b m).1.2.2.2.2.1, (f3 b m).1.2.2.2.2.2⟩
      have nC : H5 s3.heap.objs.size = none := by
        have z : H5 ce.locals = none := I6.free
        rwa [cL] at z
      obtain ⟨m, nm, _⟩ := I6.loc
      have nm : s6.heap.Ns ce.locals m := nm
      rw [cL] at nm
      exact last D s3.heap.objs.size s6 m H5 I7 qq nm (I3.fpOk (Nat.le_refl _) nC)
    · refine thnF (T.item (X.blk s3 H3 scope ce fp) rfl rfl rfl hc i [] s5 _ H5 (fun _ _ => False) I5 (stat I5 n5) st5 go) fun r s6 ⟨u, er, h6⟩ => ?_
      subst er
      refine thnF h6 fun _ s7 ⟨x, H7, I7, r7, y7, st7, n7⟩ => ?_
      refine thnF (pg.run _ s7 _ H7 x u _ (I7.pinned (stat I7 n7) (T.obj _ _ st7)) r7 (step x H7 y7)) fun _ s8 ⟨σ8, H8, I8, hw8, q8⟩ => ?_
      refine thnF (pt.run _ s8 σ8 H8 _ I8 q8) fun b s9 ⟨H9, I9, q9⟩ => ?_
      have fin : ∀ {s' : Shared} {H' : Hp}, Inv (X.blk s3 H3 scope ce fp) ([] ++ pinsAt fp s7.heap) σ8 H' s' → Nx H' → ∃ m, m < n ∧ ∃ i H', Inv (X.blk s3 H3 scope ce fp) [] (wipe σ (own.map (·.2))) H' s' ∧ tn i s'.heap ∧ (∀ b ∈ fp, H' b = none) ∧ Wv i m H' := fun {s' H'} I' nx => by
        obtain ⟨m', lm, w'⟩ := hNx H' nx
        have pk : ∀ b ∈ fp, ∀ o, s7.heap.get? b = some o → s'.heap.get? b = some o ∧ H' b = none := fun b m o e => ⟨(I'.pin (b, o) (List.mem_append_right _ (List.mem_append_right _ (mem_pinsAt m e)))).1, (I'.pin (b, o) (List.mem_append_right _ (List.mem_append_right _ (mem_pinsAt m e)))).2.1⟩
        refine ⟨m', lm, i + 1, H', (I'.unpinned (pins := [])).weak (by rw [← hw8, wipe_length]) (fun j v e => ?_), T.keep _ _ _ st7 fun b m o e => (pk b m o e).1, fun b m => ?_, w'⟩
        · rw [← hw8] at e
          exact (wipe_some e).1
        · obtain ⟨o, e, _⟩ := T.obj _ _ st7 b m
          exact (pk b m o e).2
      cases b with
      | false =>
        simp only [Bool.false_eq_true, if_false] at q9 ⊢
        exact fin I9 q9
      | true =>
        simp only [if_true] at q9 ⊢
        refine wpAny_mono (pe.run _ s9 σ8 H9 _ (I9.wish _) q9) (fun z s10 ⟨yv, H10, I10, r10, acc, hD10, hz10, nx⟩ => ?_) fun u s' z => z
        exact app_ok (X := X.blk s3 H3 scope ce fp) I10.unwish hD10 hz10 r10 fun s11 I11 => fin I11 nx
  exact codeAny_compStart_list loop (T.self X.A 0 _ _ _ st4 loop)
/-- as a value -/
theorem pe_lcP {elt tg iter : Expr} {ifs : List Expr} {scope : Scope} {own : List (Str × Nat)} {pos : Pos} {wi : TI} {g : TG} {tt : Pins → TT} {te : TE} {caps : List (Str × Nat)} (hst : X.stack = X.env :: X.outer) (hfr : X.env.frame = some X.env.locals) (hc : X.calm = true) (hN : X.N.Nodup) (hi : PI X tg iter wi) (ok : BlkOk X.N X.env.scope scope own)
    (wg : ∀ (s : Shared) (H : Hp) (C : Addr) (cl : List (Str × Addr)) (fp : List Addr), PG (X.blk s H scope (compEnvC scope cl C X.env) fp) tg g) (wt : ∀ (pn : Pins) (s : Shared) (H : Hp) (C : Addr) (cl : List (Str × Addr)) (fp : List Addr), PinB X s H fp pn → PTs (X.blk s H scope (compEnvC scope cl C X.env) fp) ifs (tt pn))
    (we : ∀ (s : Shared) (H : Hp) (C : Addr) (cl : List (Str × Addr)) (fp : List Addr) (xe : Value → Shared → Prop), PE (blkX X s H scope (compEnvC scope cl C X.env) fp xe) elt te) (hfn : ∀ x, X.fn x = true) (hcap : capsB X.N X.env.scope caps = true) (hs : ∀ x, foldedSetIterable iter X.env x = pure x := by intro _; rfl) :
    PE X (.ListComp elt [⟨tg, iter, ifs, 0⟩] scope pos) (tLcP X.env.cells caps wi g tt te (own.map (·.2))) := by
  refine ⟨fun pins s σ H Q I h => ?_⟩
  rw [eval_ListComp]
  refine lc_coreP (te := fun _ => te) (W := fun _ _ _ _ => False) hst hfr (fun u s' ⟨a, B, sI, pins, σ, H, cls, d, e, I, nb, up, sky, na, os, ag, w⟩ => w.elim) hc hN I hi ok wg wt (fun s H C cl fp xe _ _ => we s H C cl fp xe) hs hfn hcap h fun D C s' m H' I' q hn f => ⟨m, hn, fun h3 sb => ?_⟩
  obtain ⟨k0, k1, k2, k3, k4, k5⟩ := f
  exact ⟨.ref D, H', I'.turned (t' := s'.toks) (fun b o n e => (sb.2 b n).trans e) k0 k1 k3 k4 k5, rfl, q⟩
end
end Mh
/-! MhLit -/
namespace L2
open PySem PySem.Spec PyProof.Rows Mh
theorem PE.weak {X : Cx} {e : Expr} {t t' : TE} (h : PE X e t) (w : ∀ σ H Q, t' σ H Q → t σ H Q) : PE X e t' := ⟨fun pins s σ H Q I q => h.run pins s σ H Q I (w σ H Q q)⟩
theorem PA.weak {X : Cx} {es : List Expr} {a a' : TA} (h : PA X es a) (w : ∀ σ H Q, a' σ H Q → a σ H Q) : PA X es a' := ⟨fun p pins s σ H Q I q => h.run p pins s σ H Q I (w σ H Q q)⟩
theorem DpAll.app {K : PySem.W.Frag} {H : Hp} : ∀ {vs us : List V} {ds es : List PyData}, DpAll K H vs ds → DpAll K H us es → DpAll K H (vs ++ us) (ds ++ es)
  | _, _, _, _, .nil, h => h
  | _, _, _, _, .cons r t, h => .cons r (DpAll.app t h)
end L2
namespace Mh
open PySem PySem.Spec PyProof.Rows L2
/-! ### written data, read at once -/
/-- v is d, whatever of the older things is changed -/
def DpF (K : PySem.W.Frag) (H0 H : Hp) (v : V) (d : PyData) : Prop := ∀ (M : List Addr) (H' : Hp), (∀ z ∈ M, H0 z ≠ none) → Fx M H H' → Dp K H' v d
def DpFA (K : PySem.W.Frag) (H0 H : Hp) (vs : List V) (ds : List PyData) : Prop := ∀ (M : List Addr) (H' : Hp), (∀ z ∈ M, H0 z ≠ none) → Fx M H H' → DpAll K H' vs ds
section
variable {K : PySem.W.Frag} {M : List Addr} {H H0 H1 H' : Hp} {v : V} {d : PyData} {vs : List V} {ds : List PyData}
theorem DpF.dp (h : DpF K H0 H v d) : Dp K H v d := h [] H (fun _ m => nomatch m) .refl
theorem DpFA.dp (h : DpFA K H0 H vs ds) : DpAll K H vs ds := h [] H (fun _ m => nomatch m) .refl
theorem Fx.app {M N : List Addr} (f : Fx M H H1) (g : Fx N H1 H') : Fx (M ++ N) H H' := (f.mono fun _ m => List.mem_append_left _ m).trans (g.mono fun _ m => List.mem_append_right _ m)
theorem DpF.mv (h : DpF K H0 H v d) (hM : ∀ z ∈ M, H0 z ≠ none) (f : Fx M H H') : DpF K H0 H' v d := fun N H2 hN g => h (M ++ N) H2 (fun z m => (List.mem_append.mp m).elim (hM z) (hN z)) (f.app g)
theorem DpFA.mv (h : DpFA K H0 H vs ds) (hM : ∀ z ∈ M, H0 z ≠ none) (f : Fx M H H') : DpFA K H0 H' vs ds := fun N H2 hN g => h (M ++ N) H2 (fun z m => (List.mem_append.mp m).elim (hM z) (hN z)) (f.app g)
theorem DpF.up (h : DpF K H0 H v d) (f : Fx [] H H') : DpF K H0 H' v d := h.mv (M := []) (fun _ m => nomatch m) f
theorem DpFA.up (h : DpFA K H0 H vs ds) (f : Fx [] H H') : DpFA K H0 H' vs ds := h.mv (M := []) (fun _ m => nomatch m) f
theorem DpF.since (h : DpF K H1 H v d) (f : Fx M H0 H1) : DpF K H0 H v d := fun N H2 hN g => h N H2 (fun z m e => hN z m (f.d z e)) g
theorem DpFA.since (h : DpFA K H1 H vs ds) (f : Fx M H0 H1) : DpFA K H0 H vs ds := fun N H2 hN g => h N H2 (fun z m e => hN z m (f.d z e)) g
theorem DpF.ofN (h : Dp K H v d) (n : nol d = true) : DpF K H0 H v d := fun _ _ _ g => h.mv g n
theorem DpFA.ofN (h : DpAll K H vs ds) (n : nolA ds = true) : DpFA K H0 H vs ds := fun _ _ _ g => h.mv g n
theorem DpFA.nil : DpFA K H0 H [] [] := fun _ _ _ _ => .nil
theorem DpFA.cons (a : DpF K H0 H v d) (b : DpFA K H0 H vs ds) : DpFA K H0 H (v :: vs) (d :: ds) := fun M H' hM g => .cons (a M H' hM g) (b M H' hM g)
theorem DpFA.app {us : List V} {es : List PyData} (a : DpFA K H0 H vs ds) (b : DpFA K H0 H us es) : DpFA K H0 H (vs ++ us) (ds ++ es) := fun M H' hM g => DpAll.app (a M H' hM g) (b M H' hM g)
theorem DpFA.len (a : DpFA K H0 H vs ds) : vs.length = ds.length := a.dp.len
theorem DpFA.at {i : Nat} (a : DpFA K H0 H vs ds) (e : ds[i]? = some d) : ∃ v, vs[i]? = some v ∧ DpF K H0 H v d := by
  obtain ⟨v, hv, _⟩ := a.dp.at e
  refine ⟨v, hv, fun M H' hM g => ?_⟩
  obtain ⟨d2, h2, h3⟩ := (a M H' hM g).get hv
  rw [e] at h2
  cases h2
  exact h3
theorem DpFA.get {i : Nat} (a : DpFA K H0 H vs ds) (e : vs[i]? = some v) : ∃ d, ds[i]? = some d ∧ DpF K H0 H v d := by
  obtain ⟨d, hd, _⟩ := a.dp.get e
  refine ⟨d, hd, fun M H' hM g => ?_⟩
  obtain ⟨d2, h2, h3⟩ := (a M H' hM g).get e
  rw [hd] at h2
  cases h2
  exact h3
theorem DpF.lst {p : Addr} (h0 : H0 p = none) (hp : H p = some (.lst vs)) (a : DpFA K H0 H vs ds) : DpF K H0 H (.ref p) (.list ds) := fun M H' hM g =>
  .lst (SqL.of (g.to hp fun m => hM p m h0)) (a M H' hM g)
theorem DpF.tup {p : Addr} (hp : SqT K H p vs) (a : DpFA K H0 H vs ds) : DpF K H0 H (.ref p) (.tuple ds) := fun M H' hM g => .tup (g.sqT hp) (a M H' hM g)
end
abbrev LF := L2.St → Hp → PyData → Prop
abbrev LFs := L2.St → Hp → List PyData → Prop
def tDat (K : PySem.W.Frag) (f : LF) : TE := fun σ H Q => ∃ d, f σ H d ∧ ∀ H' v, Fx [] H H' → DpF K H H' v d → Q v H'
def tDats (K : PySem.W.Frag) (f : LFs) : TA := fun σ H Q => ∃ ds, f σ H ds ∧ ∀ H' vs, Fx [] H H' → DpFA K H H' vs ds → Q vs H'
def tInt (f : L2.St → Int → Prop) : TE := fun σ H Q => ∃ n, f σ n ∧ Q (.int n) H
structure PD (X : Cx) (K : PySem.W.Frag) (e : Expr) (f : LF) : Prop where
  run : PE X e (tDat K f)
  mono : ∀ σ H H' d, Fx [] H H' → f σ H d → f σ H' d
structure PDs (X : Cx) (K : PySem.W.Frag) (es : List Expr) (f : LFs) : Prop where
  run : PA X es (tDats K f)
  mono : ∀ σ H H' d, Fx [] H H' → f σ H d → f σ H' d
  len : ∀ σ H ds, f σ H ds → ds.length = es.length
section
variable {X : Cx} {K : PySem.W.Frag} {e e1 e2 : Expr} {es : List Expr} {t t' : TE} {f : LF} {fs : LFs} {j : Option Str} {pos : Pos} {fi fj : L2.St → Int → Prop}
theorem pd_c {v : V} {d : PyData} (h : PE X e (tC v)) (hd : ∀ H, Dp K H v d) (n : nol d = true) : PD X K e (fun _ _ x => x = d) :=
  ⟨h.weak fun σ H Q ⟨x, ex, q⟩ => by subst ex; exact q H v .refl (.ofN (hd H) n), fun _ _ _ _ _ h => h⟩
theorem pdi_c {i : Int} (h : PE X e (tC (.int i))) : PE X e (tInt fun _ n => n = i) := h.weak fun σ H Q ⟨n, en, q⟩ => by subst en; exact q
theorem pdi_var {i : Nat} (h : PE X e (tVar i)) : PE X e (tInt fun σ n => σ[i]? = some (some (.int n))) := h.weak fun σ H Q ⟨n, en, q⟩ => ⟨_, en, q⟩
theorem pdi_neg (ha : PE X e1 (tInt fi)) : PE X (.UnaryOp .USub e1 pos) (tInt fun σ n => ∃ x, n = -x ∧ fi σ x) := (pe_un un_neg ha).weak fun σ H Q ⟨n, ⟨x, en, hx⟩, q⟩ => by subst en; exact ⟨x, hx, x, rfl, q⟩
theorem pdi_add (ha : PE X e1 (tInt fi)) (hb : PE X e2 (tInt fj)) : PE X (.BinOp e1 .Add e2 pos) (tInt fun σ n => ∃ x y, n = x + y ∧ fi σ x ∧ fj σ y) := (pe_op op_add ha hb).weak fun σ H Q ⟨n, ⟨x, y, en, hx, hy⟩, q⟩ => by subst en; exact ⟨x, hx, y, hy, x, y, rfl, rfl, q⟩
theorem pdi_sub (ha : PE X e1 (tInt fi)) (hb : PE X e2 (tInt fj)) : PE X (.BinOp e1 .Sub e2 pos) (tInt fun σ n => ∃ x y, n = x - y ∧ fi σ x ∧ fj σ y) := (pe_op op_sub ha hb).weak fun σ H Q ⟨n, ⟨x, y, en, hx, hy⟩, q⟩ => by subst en; exact ⟨x, hx, y, hy, x, y, rfl, rfl, q⟩
theorem pd_ofi (h : PE X e (tInt fi)) : PD X K e (fun σ _ d => ∃ n, d = .int n ∧ fi σ n) :=
  ⟨h.weak fun σ H Q ⟨d, ⟨n, ed, hn⟩, q⟩ => by subst ed; exact ⟨n, hn, q H _ .refl (.ofN (.int n) rfl)⟩, fun _ _ _ _ _ h => h⟩
theorem pd_var {i : Nat} (h : PE X e (tVar i)) : PD X K e (fun σ H d => ∃ v, σ[i]? = some (some v) ∧ Dp K H v d ∧ nol d = true) :=
  ⟨h.weak fun σ H Q ⟨d, ⟨v, ev, hd, n⟩, q⟩ => ⟨v, ev, q H v .refl (.ofN hd n)⟩, fun _ _ _ _ f ⟨v, ev, hd, n⟩ => ⟨v, ev, hd.mv f n, n⟩⟩
theorem pds_nil : PDs X K [] (fun _ _ ds => ds = []) :=
  ⟨pa_nil.weak fun σ H Q ⟨ds, ed, q⟩ => by subst ed; exact q H [] .refl .nil, fun _ _ _ _ _ h => h, fun _ _ _ h => by subst h; rfl⟩
theorem pds_cons (h : PD X K e f) (hr : PDs X K es fs) (hs : starEach (e :: es) X.env = (false, eval e X.env) :: starEach es X.env := by rfl) : PDs X K (e :: es) (fun σ H ds => ∃ d dr, ds = d :: dr ∧ f σ H d ∧ fs σ H dr) :=
  ⟨(pa_cons h.run hr.run hs).weak fun σ H Q ⟨ds, ⟨d, dr, ed, h1, h2⟩, q⟩ => by
      subst ed
      exact ⟨d, h1, fun H1 v f1 k1 => ⟨dr, hr.mono _ _ _ _ f1 h2, fun H2 vs f2 k2 => q H2 (v :: vs) (f1.trans f2) (.cons (k1.up f2) (k2.since f1))⟩⟩,
    fun σ H H' ds g ⟨d, dr, ed, h1, h2⟩ => ⟨d, dr, ed, h.mono _ _ _ _ g h1, hr.mono _ _ _ _ g h2⟩, fun σ H ds ⟨d, dr, ed, _, h2⟩ => by rw [ed, List.length_cons, List.length_cons, hr.len _ _ _ h2]⟩
theorem pd_tup {x1} (h : PDs X K es fs) (hl : es.length ≤ 1000 := by decide) : PD X K (.Tuple es x1 pos) (fun σ H d => ∃ ds, d = .tuple ds ∧ fs σ H ds) :=
  ⟨(pe_tup h.run).weak fun σ H Q ⟨d, ⟨ds, ed, h1⟩, q⟩ => by
      subst ed
      refine ⟨ds, h1, fun H1 vs f1 k1 => ⟨by rw [k1.len, h.len _ _ _ h1]; exact Nat.le_trans hl (by decide), fun p hp => ?_⟩⟩
      have f2 : Fx [] H1 (upd H1 p (.tup vs)) := Fx.new hp
      exact q _ _ (f1.trans f2) (.tup (SqT.of upd_same) (k1.up f2)),
    fun σ H H' d g ⟨ds, ed, h1⟩ => ⟨ds, ed, h.mono _ _ _ _ g h1⟩⟩
theorem pd_lst (h : PDs X K es fs) (hl : es.length ≤ 1000 := by decide) : PD X K (.List es pos) (fun σ H d => ∃ ds, d = .list ds ∧ fs σ H ds) :=
  ⟨(pe_lst h.run).weak fun σ H Q ⟨d, ⟨ds, ed, h1⟩, q⟩ => by
      subst ed
      refine ⟨ds, h1, fun H1 vs f1 k1 => ⟨by rw [k1.len, h.len _ _ _ h1]; exact Nat.le_trans hl (by decide), fun p hp => ?_⟩⟩
      have f2 : Fx [] H1 (upd H1 p (.lst vs)) := Fx.new hp
      exact q _ _ (f1.trans f2) (.lst (f1.d p hp) upd_same (k1.up f2)),
    fun σ H H' d g ⟨ds, ed, h1⟩ => ⟨ds, ed, h.mono _ _ _ _ g h1⟩⟩
/-- a written list, its items told -/
def tLit (K : PySem.W.Frag) (fs : LFs) : TE := fun σ H Q => ∃ ds, fs σ H ds ∧ ∀ H' vs p, Fx [] H H' → H p = none → H' p = some (.lst vs) → DpFA K H H' vs ds → Q (.ref p) H'
theorem pe_lit (h : PDs X K es fs) (hl : es.length ≤ 1000 := by decide) : PE X (.List es pos) (tLit K fs) :=
  (pe_lst h.run).weak fun σ H Q ⟨ds, h1, q⟩ => by
      refine ⟨ds, h1, fun H1 vs f1 k1 => ⟨by rw [k1.len, h.len _ _ _ h1]; exact Nat.le_trans hl (by decide), fun p hp => ?_⟩⟩
      have f2 : Fx [] H1 (upd H1 p (.lst vs)) := Fx.new hp
      exact q _ vs p (f1.trans f2) (f1.d p hp) upd_same (k1.up f2)
end
end Mh
/-! MhRef -/
namespace Mh
open PySem PySem.Spec PyProof.Rows L2 LamX
section
variable {P : Program} {w : World} {K : PySem.W.Frag} {mg : Str → Option Value} {base : Heap}
/-- a def whose code object is known by its place -/
theorem okC {x qual : Str} {params : Arguments} {body : List Stmt} {scope : Scope} {dvs : List V} {kws : List (Str × V)} {p : He.Defn} {fd : FuncData} {CX : CXT} {N ps : List Str} {k : Nat} {sp : Sp} (F : FunD K x qual params body scope dvs kws (He.fAd K p) fd) (S : FnScope N ps scope) (len : ∀ vs H Q E, sp vs H Q E → vs.length = ps.length)
    (hbody : ∀ (A : Around) (outer : List Env) (s : Shared) (H : Hp) (vs : List V) (Q : VK) (E : XK), Room k (A.deeper (envOfC qual scope s.heap.objs.size (He.fAd K p) (.ref (He.cT K p).1))) → sp vs H Q E →
      ∃ t, PSs (cxOf CX P w K mg base N qual scope (He.fAd K p) (.ref (He.cT K p).1) A outer s H E) body t ∧ t { nx := fun _ H' => Q .non H', rt := Q } (start N vs) H) : FnOk P w K mg base CX (k + 1) (He.fAd K p) fd ps sp := by
  obtain ⟨oc, od, dV, kV, doc, pm, an, cdv, ct, osl, rfl, lk, hcd, _, _⟩ := F.ex
  obtain ⟨c, rfl⟩ := He.codeIn_ref hcd
  have e : (He.cT K p).1 = c := He.codeOf_eq lk rfl
  rw [← e] at hcd lk ⊢
  exact fn_of lk hcd S len fun A outer s H vs Q E hr hsp => hbody A outer s H vs Q E hr hsp
theorem Refd.up {x : Str} {r : Int} {cls : Value} {d : Option Addr} {H H' : Hp} (R : Refd K mg x r cls d H) (g : Fx [] H H') : Refd K mg x r cls d H' := by
  refine ⟨R.m, R.k, R.c, ?_⟩
  have h := R.f
  cases e : xfd x with
  | none => rw [e] at h; exact h
  | some f =>
    rw [e] at h
    obtain ⟨a, dd, b, c⟩ := h
    exact ⟨a, dd, b, g.to c fun z => nomatch z⟩
theorem ExN.refd {x f : Str} (F : ExN K mg x f) {r : Int} {H1 : Hp} {d : Addr} (hx : x ∈ EXS := by decide +kernel) (hf : xfd x = some f := by decide +kernel) : Refd K mg x r (xC K x) (some d) (upd H1 d (.xd [(f, .int r)])) :=
  ⟨hx, F.toExK, rfl, by rw [hf]; exact ⟨F.n, d, rfl, upd_same⟩⟩
theorem ExT.refd {x : Str} (F : ExT K mg x) {H : Hp} (hx : x ∈ EXS := by decide +kernel) (hf : xfd x = none := by decide +kernel) : Refd K mg x 0 (xC K x) none H := ⟨hx, F.toExK, rfl, by rw [hf]; exact ⟨rfl, rfl⟩⟩
/-- a lambda whose body refuses -/
theorem LamP.ref {cells : List (Str × Addr)} {fr : List Str} {ds : List V} {t : XK → TE} {f : Addr} {H1 : Hp} {x : Str} {r : Int} (L : LamP P w K mg base 15 cells fr ds t f H1) {val : List (Str × V)} {pn : Pins} (hv : fr.all (fun y => (val.lookup y).isSome) = true) (C : CapP cells val pn) (n : Free H1 pn)
    (h : ∀ (H2 : Hp) (E : XK) (Q : VK), Fx [] H1 H2 → (∀ cls d H', Fx [] H2 H' → Refd K mg x r cls d H' → E cls d H') → t E (ds.map some ++ fr.map fun y => val.lookup y) H2 Q) : RefW P w K mg base x r f (addP pn H1) := by
  obtain ⟨lie, a, b, c⟩ := L.ex
  refine ⟨_, c val pn hv C, fun H2 Q' E' g k => ⟨b [] _ _ a ((Fx.add n).trans g) (fun _ m => nomatch m), Lie.add.fx g, h _ _ _ (Fx.off n g) fun cls d H' g2 R n' => ?_⟩⟩
  exact k _ _ _ (Fx.back (Lie.add.fx g) g2) (R.up (Fx.add n'))
/-- the word of a lambda's own call, asked while the cells are pinned -/
theorem LamP.word {cells : List (Str × Addr)} {fr : List Str} {ds : List V} {t : XK → TE} {f : Addr} {H1 : Hp} (L : LamP P w K mg base 15 cells fr ds t f H1) {val : List (Str × V)} {pn : Pins} (hv : fr.all (fun y => (val.lookup y).isSome) = true) (C : CapP cells val pn) (n : Free H1 pn) {Q : VK} {E : XK}
    (h : ∀ (E' : XK) (Q' : VK), (∀ v H', Q .non H' → Q' v H') → (∀ cls d H' x r, Refd K mg x r cls d H' → (∀ H'' p, Fx [] H' H'' → H' p = none → H'' p = some (.tup [.str (wd x), .int r]) → Q (.ref p) H'') → E' cls d H') → t E' (ds.map some ++ fr.map fun y => val.lookup y) H1 Q') :
    spWordOf P w K mg base [.ref f] (addP pn H1) (fun v H' => Q v (delP pn H')) E := by
  obtain ⟨lie, a, b, c⟩ := L.ex
  refine ⟨f, _, rfl, c val pn hv C, fun Q' E' hq he => ⟨b [] _ _ a (Fx.add n) (fun _ m => nomatch m), Lie.add, ?_⟩⟩
  rw [off_on n]
  refine h _ _ (fun v H' z n' => hq v _ ?_) (fun cls d H' x r R k n' => he _ _ _ ⟨x, r, R.up (Fx.add n'), fun H'' p g np hp => ?_⟩)
  · show Q .non (delP pn (addP pn H'))
    rw [off_on n']
    exact z
  · have hl : pn.lookup p = none := by
      cases e : pn.lookup p with
      | none => rfl
      | some o => rw [addP_in e] at np; cases np
    exact k _ p (Fx.off n' g) (by rwa [addP_out hl] at np) (by rw [delP_out hl]; exact hp)
/-- the same, what is wanted told as it stands -/
theorem LamP.wordR {cells : List (Str × Addr)} {fr : List Str} {ds : List V} {t : XK → TE} {f : Addr} {H1 : Hp} (L : LamP P w K mg base 15 cells fr ds t f H1) {val : List (Str × V)} {pn : Pins} (hv : fr.all (fun y => (val.lookup y).isSome) = true) (C : CapP cells val pn) (n : Free H1 pn) {R : VK} {E : XK}
    (hR : ∀ v H', R v (addP pn (delP pn H')) → R v H')
    (h : ∀ (E' : XK) (Q' : VK), (∀ v H', Free H' pn → R .non (addP pn H') → Q' v H') → (∀ cls d H' x r, Refd K mg x r cls d H' → (∀ H'' p, Free H'' pn → Fx [] H' H'' → H' p = none → H'' p = some (.tup [.str (wd x), .int r]) → R (.ref p) (addP pn H'')) → E' cls d H') → t E' (ds.map some ++ fr.map fun y => val.lookup y) H1 Q') :
    spWordOf P w K mg base [.ref f] (addP pn H1) R E := by
  obtain ⟨lie, a, b, c⟩ := L.ex
  refine ⟨f, _, rfl, c val pn hv C, fun Q' E' hq he => ⟨b [] _ _ a (Fx.add n) (fun _ m => nomatch m), Lie.add, ?_⟩⟩
  rw [off_on n]
  refine h _ _ (fun v H' n1 z n' => hq v _ z) (fun cls d H' x r R2 k n' => he _ _ _ ⟨x, r, R2.up (Fx.add n'), fun H'' p g np hp => hR _ _ ?_⟩)
  have hl : pn.lookup p = none := by
    cases e : pn.lookup p with
    | none => rfl
    | some o => rw [addP_in e] at np; cases np
  exact k _ p Free.del (Fx.off n' g) (by rwa [addP_out hl] at np) (by rw [delP_out hl]; exact hp)
/-- a lambda that refuses, whose work may change M -/
theorem LamP.refM {cells : List (Str × Addr)} {fr : List Str} {ds : List V} {t : XK → TE} {f : Addr} {H1 : Hp} {x : Str} {M : List Addr} {J : Hp → Prop} (L : LamP P w K mg base 15 cells fr ds t f H1) {val : List (Str × V)} {pn : Pins} (hv : fr.all (fun y => (val.lookup y).isSome) = true) (C : CapP cells val pn) (n : Free H1 pn) (hM : ∀ b ∈ M, ∀ p, H1 b ≠ some (.ext p)) (hM2 : ∀ b ∈ M, H1 b ≠ none)
    (jd : ∀ H2, J H2 → J (delP pn H2)) (ja : ∀ H2, Free H2 pn → J H2 → J (addP pn H2))
    (h : ∀ (H2 : Hp) (E : XK) (Q : VK), Fx M H1 H2 → J H2 → (∀ cls d H', Fx M H2 H' → J H' → Refd K mg x 0 cls d H' → E cls d H') → t E (ds.map some ++ fr.map fun y => val.lookup y) H2 Q) :
    ∃ sp : Hp → VK → XK → Prop, LHeld P w K mg base 15 f sp ∧ ∀ (H2 : Hp) (Q' : VK) (E' : XK), Fx M (addP pn H1) H2 → J H2 → (∀ cls d H', Fx M H2 H' → J H' → Refd K mg x 0 cls d H' → E' cls d H') → sp H2 Q' E' := by
  obtain ⟨lie, a, b, c⟩ := L.ex
  have hl : ∀ z ∈ M, pn.lookup z = none := fun z m => by
    cases e : pn.lookup z with
    | none => rfl
    | some o => exact absurd (n z o e) (hM2 z m)
  have lieA : lie (addP pn H1) := b [] _ _ a (Fx.add n) (fun _ m => nomatch m)
  refine ⟨_, c val pn hv C, fun H2 Q' E' g j k => ⟨b M _ _ lieA g (fun z m p e => hM z m p (by rwa [addP_out (hl z m)] at e)), Lie.add.fx g, h _ _ _ (Fx.off n g) (jd _ j) fun cls d H' g2 j2 R n' => ?_⟩⟩
  exact k _ _ _ (Fx.back (Lie.add.fx g) g2) (ja _ n' j2) (R.up (Fx.add n'))
theorem are_vs {l : Addr} {x z : Str} (h : wd x = z) : [V.ref l, V.str z] = [V.ref l, V.str (wd x)] := by rw [h]
theorem are_l {H : Hp} {l : Addr} {xs : List V} {pn : Pins} (n : Free H pn) (h : H l = some (.lst xs)) : SqL K (addP pn H) l xs := (Fx.add (M := []) n).sqL (SqL.of h) fun m => nomatch m
/-- tables stand while a list is changed -/
theorem Tabs.lst {T : List (Addr × Str)} {H H' : Hp} {d : Addr} {l : List V} (t : Tabs T H) (hd : H d = some (.lst l)) (f : Fx [d] H H') : Tabs T H' :=
  Tabs.mv t f (fun p hp m => by obtain ⟨qs, h, _⟩ := t p hp; rw [List.mem_singleton.mp m, hd] at h; cases h) fun c q e m => by rw [List.mem_singleton.mp m, hd] at e; cases e
theorem Tabs.ne {T : List (Addr × Str)} {Pt b : Addr} {q : Str} {H : Hp} {o : HO} (t : Tabs T H) (m : (Pt, q) ∈ T) (e : H b = some o) (n : ∀ z, o ≠ .tbl z) : b ≠ Pt := fun z => by
  subst z
  obtain ⟨qs, h, _⟩ := t _ m
  rw [e] at h
  exact n _ (Option.some.inj h)
/-- what stands is no table -/
theorem Fx.lamTo {T : List (Addr × Str)} {Pt b : Addr} {q : Str} {H H1 : Hp} {o : HO} (g : Fx [Pt] H H1) (t : Tabs T H) (m : (Pt, q) ∈ T) (e : H b = some o) (n : ∀ z, o ≠ .tbl z) : H1 b = some o := by
  obtain ⟨qs, h, _⟩ := t _ m
  refine g.to e fun z => ?_
  have e2 : b = Pt := by simpa using z
  subst e2
  rw [e] at h
  exact n _ (Option.some.inj h)
theorem Fx.lamL {T : List (Addr × Str)} {Pt b : Addr} {q : Str} {H H1 : Hp} {xs : List V} (g : Fx [Pt] H H1) (t : Tabs T H) (m : (Pt, q) ∈ T) (e : SqL K H b xs) : SqL K H1 b xs := by
  rcases e with (e | ⟨o, e⟩) | e
  · exact .inl (.inl (g.lamTo t m e fun z q => nomatch q))
  · exact .inl (.inr ⟨o, g.z _ _ _ e⟩)
  · exact .inr e
end
end Mh
/-! MhXM -/
namespace Mh
open PySem PySem.Spec PyProof.Rows L2
/-! ### need_machine of anything -/
def rowsBad : Nat → List PyData → Option Int
  | _, [] => none
  | i, d :: ds => if i = 12 ∨ rowOk d = false then some (i : Nat) else rowsBad (i + 1) ds
def machBad : PyData → Option Int
  | .tuple (d :: ds) => rowsBad 0 (d :: ds)
  | _ => some (-1)
theorem rowsBad_drop {ds : List PyData} {i : Nat} {d : PyData} (h : ds[i]? = some d) : rowsBad i (ds.drop i) = if i = 12 ∨ rowOk d = false then some ((i : Nat) : Int) else rowsBad (i + 1) (ds.drop (i + 1)) := by
  have hl : i < ds.length := by
    rcases Nat.lt_or_ge i ds.length with h1 | h1
    · exact h1
    · rw [List.getElem?_eq_none h1] at h; cases h
  rw [List.getElem?_eq_getElem hl] at h
  rw [List.drop_eq_getElem_cons hl, Option.some.inj h]
  rfl
theorem rowsBad_ok : ∀ (i : Nat) (ds : List PyData), i + ds.length ≤ 12 → (∀ d ∈ ds, rowOk d = true) → rowsBad i ds = none
  | _, [], _, _ => rfl
  | i, d :: ds, h, g => by
    unfold rowsBad
    rw [List.length_cons] at h
    rw [if_neg (by rw [g d List.mem_cons_self]; intro z; rcases z with z | z; omega; cases z)]
    exact rowsBad_ok (i + 1) ds (by omega) fun d m => g d (List.mem_cons_of_mem _ m)
theorem machBad_ok {m : Mch} (h : m.ok) : machBad (machD m) = none := by
  have hr := mach_rows h
  have hl := h.len
  have hn := h.ne
  unfold machD
  cases m with
  | nil => exact absurd rfl hn
  | cons r m => exact rowsBad_ok 0 _ (by simp only [List.length_cons, List.length_map] at hl ⊢; omega) hr
def spNeedMX (K : PySem.W.Frag) (mg : Str → Option Value) : Sp := fun vs H Q E => ∃ v d, vs = [v] ∧ Dp K H v d ∧ SeqAt.shaped d = true ∧ (machBad d = none → ∀ H', Fx [] H H' → Q .non H') ∧ ∀ r, machBad d = some r → ∀ cls e H', Fx [] H H' → Refd K mg "BadMachine" r cls e H' → E cls e H'
theorem sc_BadMachine_init : FnScope ["self", "row"] ["self", "row"] (defScope s_BadMachine_init) := ⟨rfl, rfl, rfl, by decide +kernel, rfl, by decide +kernel, by decide +kernel⟩
theorem ok_BadMachine_init {P : Program} {w : World} {K : PySem.W.Frag} {mg : Str → Option Value} {base : Heap} (T : Tx K mg) (XD : ExD K) : ∃ fd, FnOk P w K mg base CX0 2 (He.ma K (He.ga K "BadMachine") "__init__") fd ["self", "row"] (spXInit K "BadMachine" "row") ∧ Binds K fd ["self", "row"] [] := by
  obtain ⟨fd, F⟩ := T.d_BadMachine_init
  have xo := xn_BadMachine T XD
  refine ⟨fd, F.ok sc_BadMachine_init (fun vs H Q E h => ?_) (fun cdv A outer s H vs Q E hr h => ?_), F.bindsN fun _ _ _ _ _ _ us hl => match us, hl with | [_, _], _ => rfl⟩
  · obtain ⟨a, v, rfl, _⟩ := h
    rfl
  · obtain ⟨a, v, rfl, ha, q⟩ := h
    refine ⟨_, PSs.nox (pss_cons (ps_expr (pe_hinit (xh T XD) (pa_cons (pv 0) (pa_cons (pv 1) pa_nil)))) (pss_one (ps_ost (pv 0) (pv 1)))), ?_⟩
    exact ⟨_, rfl, _, rfl, a, He.ga K "BadMachine", [v], rfl, by show 1 ≤ 1000; decide, xo.o, ha, ⟨_, rfl, _, rfl, a, He.ga K "BadMachine", rfl, xo.o, xo.n, .inl ⟨ha, fun d hd ne => q d hd ne⟩⟩⟩
theorem okx_need_machine_x {P : Program} {w : World} {K : PySem.W.Frag} {mg : Str → Option Value} {base : Heap} (T : Tx K mg) (XD : ExD K) : Def P w K mg base (L2.CX P w) 4 "need_machine" ["machine"] (spNeedMX K mg) := by
  obtain ⟨fd, F⟩ := T.d_need_machine
  obtain ⟨fd_BadMachine, FI_BadMachine, BI_BadMachine⟩ := ok_BadMachine_init (P := P) (w := w) (base := base) T XD
  have G_is_test := ok_is_test (P := P) (w := w) (base := base) T
  have G_is_answer := ok_is_answer (P := P) (w := w) (base := base) T
  refine ⟨_, fd, F.ok sc_need_machine (fun vs H Q E h => ?_) (fun cdv A outer s H vs Q E hr h => ?_), F.bindsN fun _ _ _ _ _ _ us hl => match us, hl with | [_], _ => rfl, T.g_need_machine, F.kp⟩
  · obtain ⟨v, d, rfl, _⟩ := h
    rfl
  · obtain ⟨v, d, rfl, hd, hsh, qn, qx⟩ := h
    have X1 := xn_BadMachine T XD
    have fin : ∀ (r : Int) H1, machBad d = some r → Fx [] H H1 → ∀ e, H1 e = none → E (xC K "BadMachine") (some e) (upd H1 e (.xd [("row", .int r)])) := fun r H1 hb f e he => qx r hb _ _ _ (f.trans (Fx.new he)) X1.refd
    refine ⟨_, (pss_cons (ps_if (PW.pt (pw_or (pt_not (pt_val (pe_callB call_isiD (by rfl) T.f_isinstance (by decide +kernel) (pa_cons (pv 0) (pa_cons (gT (n := "tuple") T.f_tuple) pa_nil))))) (pw_or1 (pt_cmpR (op_eqD hr.units) (pv 0) (pe_tup pa_nil) (nomark _)))))
        (pss_one (ps_raise rfl (takes_of rfl rfl rfl rfl) (pmk_num (xn_BadMachine T XD) FI_BadMachine BI_BadMachine (hr.mono (by omega)) (pa_cons (pe_un un_neg pe_int) pa_nil))))
        pss_nil)
        (pss_one (ps_for (passes_of rfl) rfl (pi_enumT (by rfl) T.f_enumerate (pa_cons (pv 0) pa_nil)) (pg_tup rfl (pgs_cons (pg_name (i := 1) sc_need_machine.nd rfl (by first | exact Or.inl rfl | exact Or.inr rfl)) (pgs_cons (pg_name (i := 2) sc_need_machine.nd rfl (by first | exact Or.inl rfl | exact Or.inr rfl)) pgs_nil)))
        (pss_cons (ps_if (PW.pt (pw_or (pt_cmpR op_eq (pv 1) (gC T.c_MOST_ROWS) (nomark _)) (pw_or (pt_not (pt_val (pe_callB call_isiD (by rfl) T.f_isinstance (by decide +kernel) (pa_cons (pv 2) (pa_cons (gT (n := "tuple") T.f_tuple) pa_nil))))) (pw_or1 (pt_cmpR op_ne (pe_callB call_len_seq (by rfl) T.f_len (by decide +kernel) (pa_cons (pv 2) pa_nil)) pe_int (nomark _))))))
        (pss_one (ps_raise rfl (takes_of rfl rfl rfl rfl) (pmk_num (xn_BadMachine T XD) FI_BadMachine BI_BadMachine (hr.mono (by omega)) (pa_cons (pv 1) pa_nil))))
        pss_nil)
        (pss_one (ps_if (PW.pt (pw_or (pt_not (pt_val (pe_def G_is_test (hr.mono (by omega)) pass0 (pa_cons (pe_ix ix_tup (pv 2) pe_int (fun _ _ => rfl)) pa_nil)))) (pw_or1 (pt_not (pt_val (pe_def G_is_answer (hr.mono (by omega)) pass0 (pa_cons (pe_ix ix_tup (pv 2) pe_int (fun _ _ => rfl)) pa_nil)))))))
        (pss_one (ps_raise rfl (takes_of rfl rfl rfl rfl) (pmk_num (xn_BadMachine T XD) FI_BadMachine BI_BadMachine (hr.mono (by omega)) (pa_cons (pv 1) pa_nil))))
        pss_nil)))))), ?_⟩
    have hT := hd
    refine rd_isD rfl (by decide) hd ⟨_, rfl, ?_⟩
    cases hd with
    | @tup a xs ds hs ha =>
      have hl := ha.len
      refine ifF rfl ⟨_, rfl, by show 0 ≤ sizeLine; decide, fun p hp => ?_⟩
      have f1 : Fx [] H (upd H p (.tup [])) := Fx.new hp
      refine ⟨.tuple ds, .tuple [], hT.ext f1, .tup (SqT.of upd_same) .nil, hsh, by decide +kernel, _, rfl, ifB (fun c => ?_) (fun c => ?_)⟩
      · cases ds with
        | nil => exact ⟨_, rfl, num_end fun e he => fin _ _ rfl f1 e he⟩
        | cons d ds => simp [PyData.eqv, PyData.eqvAll] at c
      have hne : machBad (.tuple ds) = rowsBad 0 ds := by
        cases ds with
        | nil => simp [PyData.eqv, PyData.eqvAll] at c
        | cons d ds => rfl
      refine ⟨_, rfl, a, xs, rfl, f1.sqT hs, for_it walk_enT (fun i σ' H' => ∃ y1 y2, σ' = [some (.ref a), y1, y2] ∧ Fx [] H H' ∧ rowsBad i (ds.drop i) = machBad (.tuple ds)) ⟨none, none, rfl, f1, hne.symm⟩ (fun i σ' H' _ ⟨_, _, _, f, _⟩ => f.sqT hs) (fun i x σ' H2 H3 hi hP y => ?_) (fun σ' H' hP => ?_)⟩
      · obtain ⟨y1, y2, rfl, f, hb⟩ := hP
        obtain ⟨T', u, v, rfl, hT', hu, hv⟩ := YPair.tup y
        cases hu
        have f3 := f.trans (YPair.fx y)
        obtain ⟨d, g1, g2⟩ := ha.get hv
        have g3 := g2.ext f3
        rw [rowsBad_drop g1] at hb
        refine ⟨T', _, rfl, SqT.of hT', rfl, _, _, rfl, _, _, rfl, rfl, ?_⟩
        have bad : ∀ H4, Fx [] H H4 → i = 12 ∨ rowOk d = false → ∀ e, H4 e = none → E (xC K "BadMachine") (some e) (upd H4 e (.xd [("row", .int ((i : Nat) : Int))])) := fun H4 f4 c => fin _ _ (by rw [← hb, if_pos c]) f4
        refine ⟨_, rfl, rd_eqI ⟨_, rfl, ifB (fun c => ?_) (fun c => ?_)⟩⟩
        · exact ⟨_, rfl, num_end fun e he => bad _ f3 (.inl (by have h0 : (i : Int) = 12 := (by simpa using c); omega)) e he⟩
        refine rd_isD rfl (by decide) g3 ⟨_, rfl, ?_⟩
        have g4 := g3
        cases g3 with
        | @tup b ys dd hb1 hy =>
          have hyl := hy.len
          refine ifF rfl ⟨_, rfl, b, ys, rfl, .inr hb1, rfl, _, rfl, ifB (fun c2 => ?_) (fun c2 => ?_)⟩
          · refine ⟨_, rfl, num_end fun e he => bad _ f3 (.inr ?_) e he⟩
            match dd, hyl with
            | [], _ => rfl
            | [_], _ => rfl
            | [_, _], hyl => simp [hyl] at c2
            | _ :: _ :: _ :: _, _ => rfl
          · match ys, dd, hy, hyl, c2 with
            | [w1, w2], [t, an], .cons k1 (.cons k2 .nil), _, _ =>
              refine rd_ixT (j := 0) rfl hb1 rfl ⟨w1, t, rfl, k1, fun H4 f4 => ⟨_, rfl, ifB (fun c3 => ?_) (fun c3 => ?_)⟩⟩
              · refine ⟨_, rfl, num_end fun e he => bad _ (f3.trans f4) (.inr ?_) e he⟩
                have c3 : isTest t = false := by simpa using c3
                show (isTest t && isAns an) = false
                rw [c3]
                rfl
              · have c3 : isTest t = true := by simpa using c3
                refine rd_ixT (j := 1) rfl (f4.sqT hb1) rfl ⟨w2, an, rfl, k2.ext f4, fun H5 f5 => ⟨_, rfl, ifB (fun c4 => ?_) (fun c4 => ?_)⟩⟩
                · have c4 : isAns an = false := by simpa using c4
                  refine ⟨_, rfl, num_end fun e he => bad _ ((f3.trans f4).trans f5) (.inr ?_) e he⟩
                  show (isTest t && isAns an) = false
                  rw [c4, Bool.and_false]
                · have c4 : isAns an = true := by simpa using c4
                  refine ⟨_, _, rfl, (f3.trans f4).trans f5, ?_⟩
                  rw [← hb, if_neg]
                  intro z
                  rcases z with z | z
                  · rw [z] at c
                    simp at c
                  · have z2 : (isTest t && isAns an) = false := z
                    rw [c3, c4] at z2
                    cases z2
            | [], _, _, _, c2 => simp at c2
            | [_], _, _, _, c2 => simp at c2
            | _ :: _ :: _ :: _, _, _, _, c2 => simp at c2; omega
        | _ => exact ifT rfl ⟨_, rfl, num_end fun e he => bad _ f3 (.inr rfl) e he⟩
      · obtain ⟨y1, y2, rfl, f, hb⟩ := hP
        refine qn ?_ H' f
        rw [← hb, show xs.length = ds.length from hl, List.drop_length]
        rfl
    | _ => exact ifT rfl ⟨_, rfl, num_end fun e he => fin _ _ rfl .refl e he⟩
end Mh
/-! MhMB1 -/
namespace Mh
open PySem PySem.Spec PyProof.Rows L2
/-! ### which machine is refused by which row -/
theorem rowsBad_ins {o : PyData} {rest : List PyData} : ∀ (ds : List PyData) (i : Nat), i + ds.length ≤ 12 → (∀ d ∈ ds, rowOk d = true) → (i + ds.length = 12 ∨ rowOk o = false) → rowsBad i (ds ++ o :: rest) = some ((i + ds.length : Nat) : Int)
  | [], i, h, g, c => by
    show (if i = 12 ∨ rowOk o = false then some ((i : Nat) : Int) else rowsBad (i + 1) rest) = some ((i + 0 : Nat) : Int)
    rw [if_pos (show i = 12 ∨ rowOk o = false from c)]
    rfl
  | d :: ds, i, h, g, c => by
    rw [List.length_cons] at h c
    show (if i = 12 ∨ rowOk d = false then some ((i : Nat) : Int) else rowsBad (i + 1) (ds ++ o :: rest)) = _
    rw [if_neg, rowsBad_ins ds (i + 1) (by omega) (fun d m => g d (List.mem_cons_of_mem _ m)) ?_]
    · congr 2
      show i + 1 + ds.length = i + (ds.length + 1)
      omega
    · rcases c with c | c
      · exact .inl (by omega)
      · exact .inr c
    · intro z
      rcases z with z | z
      · omega
      · rw [g d List.mem_cons_self] at z
        cases z
theorem machBad_rows {ds : List PyData} (h : ds ≠ []) : machBad (.tuple ds) = rowsBad 0 ds := by
  cases ds with
  | nil => exact absurd rfl h
  | cons d ds => rfl
theorem machBad_ins {ds : List PyData} {o : PyData} {rest : List PyData} (hl : ds.length ≤ 12) (g : ∀ d ∈ ds, rowOk d = true) (c : ds.length = 12 ∨ rowOk o = false) : machBad (.tuple (ds ++ o :: rest)) = some (ds.length : Int) := by
  rw [machBad_rows (by simp), rowsBad_ins ds 0 (by omega) g (by rw [Nat.zero_add]; exact c), Nat.zero_add]
/-- thirteen rows and more -/
theorem machBad_13 {ds : List PyData} (hl : 13 ≤ ds.length) (g : ∀ d ∈ ds, rowOk d = true) : machBad (.tuple ds) = some 12 := by
  have e : ds = ds.take 12 ++ ds[12]'(by omega) :: ds.drop 13 := by
    rw [← List.drop_eq_getElem_cons (by omega), List.take_append_drop]
  have l : (ds.take 12).length = 12 := by rw [List.length_take]; omega
  rw [e, machBad_ins (by omega) (fun d m => g d (List.mem_of_mem_take m)) (.inl l), l]
  rfl
end Mh
/-! MhXD -/
namespace Mh
open PySem PySem.Spec PyProof.Rows L2 LamX
section
variable {K : PySem.W.Frag} {σ : L2.St} {H H0 : Hp} {Q : VK} {i : Nat} {dd : Addr} {s : Dice}
/-- of many one -/
theorem rd_pickL {p : Addr} {xs : List V} {k : Int} (h : H p = some (.lst xs)) (hk : 0 ≤ k ∧ k < xs.length) (q : ∀ v, v ∈ xs → Q v H) : rIxL K (.ref p) (.int k) H Q := by
  obtain ⟨j, rfl⟩ : ∃ j : Nat, k = (j : Int) := ⟨k.toNat, by omega⟩
  have hj : j < xs.length := by omega
  exact ⟨p, xs, (j : Int), xs[j], rfl, rfl, SqL.of h, atI_nat (List.getElem?_eq_getElem hj), q _ (List.getElem_mem hj)⟩
/-- [0, off(d, 10 ** 6)][off(d, 2)] -/
theorem rd_far (hv : σ[i]? = some (some (.ref dd))) (D : Dc dd H0 H s) (q : ∀ H' s' (far : Int), Dc dd H0 H' s' → Fx [dd] H H' → 0 ≤ far → far < 1000000 → Q (.int far) H') :
    tOp (rIxL K) (tLst (tCons (tC (.int 0)) (tCons (tCall (spOff K) [] E0 (tCons (tVar i) (tCons (tOp (rI CPow fun i j => .int (i ^ j.toNat)) (tC (.int 10)) (tC (.int 6))) tNil))) tNil))) (tCall (spOff K) [] E0 (tCons (tVar i) (tCons (tC (.int 2)) tNil))) σ H Q := by
  refine ⟨_, hv, _, _, rfl, rfl, ⟨by decide, by decide, by decide⟩, ?_⟩
  rw [show ((fun i j : Int => V.int (i ^ j.toNat)) 10 6) = V.int 1000000 from by decide +kernel]
  show spOff K [.ref dd, .int 1000000] H (fun x H1 => [.int 0, x].length ≤ sizeLine ∧ ∀ p, H1 p = none → tCall (spOff K) [] E0 (tCons (tVar i) (tCons (tC (V.int 2)) tNil)) σ (upd H1 p (.lst [.int 0, x])) fun y H2 => rIxL K (.ref p) y H2 Q) E0
  refine off_sp (K := K) (E := E0) D (n := 1000000) ⟨by decide, by decide⟩ fun H1 D1 f1 => ⟨by show 2 ≤ sizeLine; decide, fun p hp => ?_⟩
  have r := off_range s (n := 1000000) (by decide)
  refine rd_off hv (D1.new hp) ⟨by decide, by decide⟩ fun H2 D2 f2 => ?_
  refine rd_at2I (f2.to upd_same fun m => D1.ne hp (List.mem_singleton.mp m)) (off_range _ (by decide)) (q H2 _ _ D2 ((f1.trans (Fx.new hp)).trans f2) ?_ ?_)
  · split
    · decide
    · exact r.1
  · split
    · decide
    · exact r.2
end
/-- what is no number of such bounds -/
structure NoN (K : PySem.W.Frag) (H : Hp) (v : V) (lo hi : Int) : Prop where
  ex : ∃ d, Dp K H v d ∧ isNum d lo hi = false ∧ nol d = true
theorem NoN.mv {K : PySem.W.Frag} {H H' : Hp} {v : V} {lo hi : Int} {M : List Addr} (n : NoN K H v lo hi) (f : Fx M H H') : NoN K H' v lo hi :=
  let ⟨d, a, b, c⟩ := n.ex; ⟨d, a.mv f c, b, c⟩
theorem isNum_out {n lo hi : Int} (h : n < lo ∨ hi < n) : isNum (.int n) lo hi = false := by
  show (decide (lo ≤ n) && decide (n ≤ hi)) = false
  rw [Bool.and_eq_false_iff]
  rcases h with h | h
  · exact .inl (decide_eq_false (by omega))
  · exact .inr (decide_eq_false (by omega))
end Mh
/-! MhXT -/
namespace Mh
open PySem PySem.Spec PyProof.Rows L2
/-! ### need_task of anything -/
def xOfD : PyData → Int
  | .tuple (.int x :: _) => x
  | _ => 0
def twOfD : PyData → PyData
  | .tuple [_, _, t] => t
  | _ => .none
def twOk (d : PyData) : Bool := match twOfD d with
  | .none => true
  | t => isAskd 0 t
theorem twOk_of {x y t : PyData} (h : t ≠ .none) : twOk (.tuple [x, y, t]) = isAskd 0 t := by
  cases t with
  | none => exact absurd rfl h
  | _ => rfl
def qBad (i : Nat) (met : List Int) (d : PyData) : Prop := i = 16 ∨ isAskd 1 d = false ∨ xOfD d ∈ met ∨ twOk d = false
instance (i : Nat) (met : List Int) (d : PyData) : Decidable (qBad i met d) := by unfold qBad; infer_instance
def qsBad : Nat → List Int → List PyData → Option Int
  | _, _, [] => none
  | i, met, d :: ds => if qBad i met d then some (i : Nat) else qsBad (i + 1) (xOfD d :: met) ds
def taskBad : PyData → Option Int
  | .tuple [t, w] => (match t with
    | .tuple (q :: qs) => if isNum w 1 9 = true then qsBad 0 [] (q :: qs) else some (-1)
    | _ => some (-1))
  | _ => some (-1)
theorem qsBad_drop {ds : List PyData} {i : Nat} {met : List Int} {d : PyData} (h : ds[i]? = some d) : qsBad i met (ds.drop i) = if qBad i met d then some ((i : Nat) : Int) else qsBad (i + 1) (xOfD d :: met) (ds.drop (i + 1)) := by
  have hl : i < ds.length := by
    rcases Nat.lt_or_ge i ds.length with h1 | h1
    · exact h1
    · rw [List.getElem?_eq_none h1] at h; cases h
  rw [List.getElem?_eq_getElem hl] at h
  rw [List.drop_eq_getElem_cons hl, Option.some.inj h]
  rfl
theorem isAskd_inv {n : Nat} {d : PyData} (h : isAskd n d = true) : ∃ x y ts, d = .tuple (.int x :: .int y :: ts) ∧ ts.length = n := by
  unfold isAskd at h
  split at h
  · rename_i a b r
    obtain ⟨h1, h2⟩ := Bool.and_eq_true_iff.mp h
    obtain ⟨h3, h4⟩ := Bool.and_eq_true_iff.mp h2
    obtain ⟨x, rfl, _⟩ := isNum_inv h3
    obtain ⟨y, rfl, _⟩ := isNum_inv h4
    exact ⟨x, y, r, rfl, eq_of_beq h1⟩
  · cases h
theorem qsBad_ok : ∀ (i : Nat) (met : List Int) (rs : List Qst), i + rs.length ≤ 16 → (∀ r ∈ rs, r.ok) → (rs.map Qst.x).Nodup → (∀ x ∈ met, x ∉ rs.map Qst.x) → qsBad i met (rs.map Qst.d) = none
  | _, _, [], _, _, _, _ => rfl
  | i, met, r :: rs, h, g, nd, nm => by
    rw [List.length_cons] at h
    rw [List.map_cons, List.nodup_cons] at nd
    have ro := g r List.mem_cons_self
    show (if qBad i met r.d then some ((i : Nat) : Int) else qsBad (i + 1) (r.x :: met) (rs.map Qst.d)) = none
    rw [if_neg]
    · refine qsBad_ok (i + 1) (r.x :: met) rs (by omega) (fun r m => g r (List.mem_cons_of_mem _ m)) nd.2 fun x hx hm => ?_
      rcases List.mem_cons.mp hx with rfl | hx
      · exact nd.1 hm
      · exact nm x hx (List.mem_cons_of_mem _ hm)
    · intro z
      rcases z with z | z | z | z
      · omega
      · rw [Qst.ok_askd ro] at z
        cases z
      · exact nm _ z List.mem_cons_self
      · cases e : r.twin with
        | none =>
          have : twOk r.d = true := by
            show (match twinD r.twin with | .none => true | t => isAskd 0 t) = true
            rw [e]
            rfl
          rw [this] at z
          cases z
        | some p =>
          have h2 := twin_askd ro e
          have : twOk r.d = true := by
            show (match twinD r.twin with | .none => true | t => isAskd 0 t) = true
            split
            · rfl
            · exact h2
          rw [this] at z
          cases z
theorem taskBad_ok {t : Tsk} (h : t.ok) : taskBad (taskD t) = none := by
  have h1 := qsBad_ok 0 [] t.rows (by have := h.len; omega) h.rows h.nd (fun _ m => nomatch m)
  have hw : isNum (.int t.w) 1 9 = true := by simp [isNum, h.w.1, h.w.2]
  have hn := h.ne
  show (match PyData.tuple (t.rows.map Qst.d) with
    | .tuple (q :: qs) => if isNum (.int t.w) 1 9 = true then qsBad 0 [] (q :: qs) else some (-1)
    | _ => some (-1)) = none
  cases hr : t.rows with
  | nil => exact absurd hr hn
  | cons r rs =>
    rw [hr] at h1
    show (if isNum (.int t.w) 1 9 = true then qsBad 0 [] ((r :: rs).map Qst.d) else some (-1)) = none
    rw [if_pos hw]
    exact h1
def spNeedTX (K : PySem.W.Frag) (mg : Str → Option Value) : Sp := fun vs H Q E => ∃ v d, vs = [v] ∧ Dp K H v d ∧ (∀ t w, d = .tuple [t, w] → SeqAt.shaped t = true) ∧ (taskBad d = none → ∀ H', Fx [] H H' → Q .non H') ∧ ∀ r, taskBad d = some r → ∀ cls e H', Fx [] H H' → Refd K mg "BadTask" r cls e H' → E cls e H'
theorem sc_BadTask_init : FnScope ["self", "number"] ["self", "number"] (defScope s_BadTask_init) := ⟨rfl, rfl, rfl, by decide +kernel, rfl, by decide +kernel, by decide +kernel⟩
theorem ok_BadTask_init {P : Program} {w : World} {K : PySem.W.Frag} {mg : Str → Option Value} {base : Heap} (T : Tx K mg) (XD : ExD K) : ∃ fd, FnOk P w K mg base CX0 2 (He.ma K (He.ga K "BadTask") "__init__") fd ["self", "number"] (spXInit K "BadTask" "number") ∧ Binds K fd ["self", "number"] [] := by
  obtain ⟨fd, F⟩ := T.d_BadTask_init
  have xo := xn_BadTask T XD
  refine ⟨fd, F.ok sc_BadTask_init (fun vs H Q E h => ?_) (fun cdv A outer s H vs Q E hr h => ?_), F.bindsN fun _ _ _ _ _ _ us hl => match us, hl with | [_, _], _ => rfl⟩
  · obtain ⟨a, v, rfl, _⟩ := h
    rfl
  · obtain ⟨a, v, rfl, ha, q⟩ := h
    refine ⟨_, PSs.nox (pss_cons (ps_expr (pe_hinit (xh T XD) (pa_cons (pv 0) (pa_cons (pv 1) pa_nil)))) (pss_one (ps_ost (pv 0) (pv 1)))), ?_⟩
    exact ⟨_, rfl, _, rfl, a, He.ga K "BadTask", [v], rfl, by show 1 ≤ 1000; decide, xo.o, ha, ⟨_, rfl, _, rfl, a, He.ga K "BadTask", rfl, xo.o, xo.n, .inl ⟨ha, fun d hd ne => q d hd ne⟩⟩⟩
theorem okx_need_task_x {P : Program} {w : World} {K : PySem.W.Frag} {mg : Str → Option Value} {base : Heap} (T : Tx K mg) (XD : ExD K) : Def P w K mg base (L2.CX P w) 4 "need_task" ["task"] (spNeedTX K mg) := by
  obtain ⟨fd, F⟩ := T.d_need_task
  obtain ⟨fd_BadTask, FI_BadTask, BI_BadTask⟩ := ok_BadTask_init (P := P) (w := w) (base := base) T XD
  have G_is_number := ok_is_number (P := P) (w := w) (base := base) T
  have G_is_asked := ok_is_asked (P := P) (w := w) (base := base) T
  refine ⟨_, fd, F.ok sc_need_task (fun vs H Q E h => ?_) (fun cdv A outer s H vs Q E hr h => ?_), F.bindsN fun _ _ _ _ _ _ us hl => match us, hl with | [_], _ => rfl, T.g_need_task, F.kp⟩
  · obtain ⟨v, d, rfl, _⟩ := h
    rfl
  · obtain ⟨v, d, rfl, hd, hsh, qn, qx⟩ := h
    have X1 := xn_BadTask T XD
    have fin : ∀ (r : Int) H1, taskBad d = some r → Fx [] H H1 → ∀ e, H1 e = none → E (xC K "BadTask") (some e) (upd H1 e (.xd [("number", .int r)])) := fun r H1 hb f e he => qx r hb _ _ _ (f.trans (Fx.new he)) X1.refd
    refine ⟨_, (pss_cons (ps_if (PW.pt (pw_or (pt_not (pt_val (pe_callB call_isiD (by rfl) T.f_isinstance (by decide +kernel) (pa_cons (pv 0) (pa_cons (gT (n := "tuple") T.f_tuple) pa_nil))))) (pw_or (pt_cmpR op_ne (pe_callB call_len_seq (by rfl) T.f_len (by decide +kernel) (pa_cons (pv 0) pa_nil)) pe_int (nomark _)) (pw_or (pt_not (pt_val (pe_callB call_isiD (by rfl) T.f_isinstance (by decide +kernel) (pa_cons (pe_ix ix_tup (pv 0) pe_int (fun _ _ => rfl)) (pa_cons (gT (n := "tuple") T.f_tuple) pa_nil))))) (pw_or1 (pt_cmpR (op_eqD hr.units) (pe_ix ix_tup (pv 0) pe_int (fun _ _ => rfl)) (pe_tup pa_nil) (nomark _)))))))
        (pss_one (ps_raise rfl (takes_of rfl rfl rfl rfl) (pmk_num (xn_BadTask T XD) FI_BadTask BI_BadTask (hr.mono (by omega)) (pa_cons (pe_un un_neg pe_int) pa_nil))))
        pss_nil)
        (pss_cons (ps_if (pt_not (pt_val (pe_def G_is_number (hr.mono (by omega)) pass0 (pa_cons (pe_ix ix_tup (pv 0) pe_int (fun _ _ => rfl)) (pa_cons pe_int (pa_cons (gC T.c_MOST_WEIGHT) pa_nil))))))
        (pss_one (ps_raise rfl (takes_of rfl rfl rfl rfl) (pmk_num (xn_BadTask T XD) FI_BadTask BI_BadTask (hr.mono (by omega)) (pa_cons (pe_un un_neg pe_int) pa_nil))))
        pss_nil)
        (pss_cons (ps_set (i := 1) sc_need_task.nd rfl (by first | exact Or.inl rfl | exact Or.inr rfl) pe_dnewK)
        (pss_one (ps_for (passes_of rfl) rfl (pi_enumT (by rfl) T.f_enumerate (pa_cons (pe_ix ix_tup (pv 0) pe_int (fun _ _ => rfl)) pa_nil)) (pg_tup rfl (pgs_cons (pg_name (i := 2) sc_need_task.nd rfl (by first | exact Or.inl rfl | exact Or.inr rfl)) (pgs_cons (pg_name (i := 3) sc_need_task.nd rfl (by first | exact Or.inl rfl | exact Or.inr rfl)) pgs_nil)))
        (pss_cons (ps_if (PW.pt (pw_or (pt_cmpR op_eq (pv 2) (gC T.c_MOST_QUESTIONS) (nomark _)) (pw_or (pt_not (pt_val (pe_def G_is_asked (hr.mono (by omega)) pass0 (pa_cons (pv 3) (pa_cons pe_int pa_nil))))) (pw_or1 (pt_cmp (pc_din (hu_of hr) (pe_ix ix_tup (pv 3) pe_int (fun _ _ => rfl)) (pv 1)))))))
        (pss_one (ps_raise rfl (takes_of rfl rfl rfl rfl) (pmk_num (xn_BadTask T XD) FI_BadTask BI_BadTask (hr.mono (by omega)) (pa_cons (pv 2) pa_nil))))
        pss_nil)
        (pss_cons (ps_if (PW.pt (pw_and (pt_cmpR op_notN (pe_ix ix_tup (pv 3) pe_int (fun _ _ => rfl)) pe_non (nomark _)) (pw_and1 (pt_not (pt_val (pe_def G_is_asked (hr.mono (by omega)) pass0 (pa_cons (pe_ix ix_tup (pv 3) pe_int (fun _ _ => rfl)) (pa_cons pe_int pa_nil))))))))
        (pss_one (ps_raise rfl (takes_of rfl rfl rfl rfl) (pmk_num (xn_BadTask T XD) FI_BadTask BI_BadTask (hr.mono (by omega)) (pa_cons (pv 2) pa_nil))))
        pss_nil)
        (pss_one (ps_dput (hu_of hr) (pv 1) (pe_ix ix_tup (pv 3) pe_int (fun _ _ => rfl)) pe_bl rfl))))))))), ?_⟩
    refine rd_isD rfl (by decide) hd ⟨_, rfl, ?_⟩
    cases hd with
    | @tup a xs ds hs ha =>
      have hl := ha.len
      refine ifF rfl ⟨_, rfl, a, xs, rfl, .inr hs, rfl, _, rfl, ifB (fun c => ?_) (fun c => ?_)⟩
      · refine ⟨_, rfl, num_end fun e he => fin _ _ ?_ .refl e he⟩
        match ds, hl with
        | [], _ => rfl
        | [_], _ => rfl
        | [_, _], hl => simp [hl] at c
        | _ :: _ :: _ :: _, _ => rfl
      match xs, ds, ha, hl, c with
      | [w0, w1], [t0, t1], .cons k0 (.cons k1 .nil), _, _ =>
        have k00 := k0
        have hsh0 := hsh t0 t1 rfl
        refine rd_ixT (j := 0) rfl hs rfl ⟨_, "tuple", _, rfl, by decide, k0, _, rfl, ?_⟩
        cases k0 with
        | @tup b ys qs hb hx =>
          have hxl := hx.len
          refine ifF rfl (rd_ixT (j := 0) rfl hs rfl ⟨by show 0 ≤ sizeLine; decide, fun p hp => ?_⟩)
          have f1 : Fx [] H (upd H p (.tup [])) := Fx.new hp
          refine ⟨.tuple qs, .tuple [], k00.ext f1, .tup (SqT.of upd_same) .nil, hsh0, by decide +kernel, _, rfl, ifB (fun c2 => ?_) (fun c2 => ?_)⟩
          · refine ⟨_, rfl, num_end fun e he => fin _ _ ?_ f1 e he⟩
            cases qs with
            | nil => rfl
            | cons _ _ => simp [PyData.eqv, PyData.eqvAll] at c2
          have hne : taskBad (.tuple [.tuple qs, t1]) = if isNum t1 1 9 = true then qsBad 0 [] qs else some (-1) := by
            cases qs with
            | nil => simp [PyData.eqv, PyData.eqvAll] at c2
            | cons _ _ => rfl
          refine rd_ixT (j := 1) rfl (f1.sqT hs) rfl ⟨_, _, 1, 9, rfl, k1.ext f1, _, rfl, ifB (fun c3 => ?_) (fun c3 => ?_)⟩
          · refine ⟨_, rfl, num_end fun e he => fin _ _ ?_ f1 e he⟩
            rw [hne, if_neg (by simpa using c3)]
          have c3 : isNum t1 1 9 = true := by simpa using c3
          rw [if_pos c3] at hne
          intro mt hmt
          have hm0 : H mt = none := f1.free hmt
          have hupd : upd (upd H p (.tup [])) mt (.dK []) mt = some (.dK []) := upd_same
          have f2 : Fx [] H (upd (upd H p (.tup [])) mt (.dK [])) := f1.trans (Fx.new hmt)
          generalize upd (upd H p (.tup [])) mt (.dK []) = H2 at f2 hupd
          refine rd_ixT (j := 0) rfl (f2.sqT hs) rfl ⟨b, ys, rfl, f2.sqT hb, for_it (walk_enT (xs := ys)) (fun i σ' H' => ∃ y2 y3 kvs met, σ' = [some (.ref a), some (.ref mt), y2, y3] ∧ Fx [] H H' ∧ H' mt = some (.dK kvs) ∧ kvs.length ≤ i ∧ i ≤ 16 ∧ (∀ (j : Int), (valV kvs (.inl j)).isSome = true ↔ j ∈ met) ∧ qsBad i met (qs.drop i) = taskBad (.tuple [.tuple qs, t1])) ⟨none, none, [], [], rfl, f2, hupd, Nat.le_refl _, by decide, fun j => ⟨fun z => (nomatch z), fun z => (nomatch z)⟩, hne.symm⟩ (fun i σ' H' _ hP => ?_) (fun i x σ' H3 H4 hi hP y => ?_) (fun σ' H' hP => ?_)⟩
          · obtain ⟨_, _, _, _, _, f, _⟩ := hP
            exact f.sqT hb
          · obtain ⟨y2, y3, kvs, met, rfl, f, hk, hkl, hi16, hkm, hbad⟩ := hP
            obtain ⟨T', u, w, rfl, hT, hu, hv⟩ := YPair.tup y
            cases hu
            have fy : Fx [] H3 H4 := YPair.fx y
            have f3 := f.trans fy
            have hk2 := fy.to hk fun z => nomatch z
            obtain ⟨d, g1, g2⟩ := hx.get hv
            have g3 := g2.ext f3
            rw [qsBad_drop g1] at hbad
            have bad : ∀ H4, Fx [] H H4 → qBad i met d → ∀ e, H4 e = none → E (xC K "BadTask") (some e) (upd H4 e (.xd [("number", .int ((i : Nat) : Int))])) := fun H4 f4 c => fin _ _ (by rw [← hbad, if_pos c]) f4
            refine ⟨T', _, rfl, SqT.of hT, rfl, _, _, rfl, _, _, rfl, rfl, ?_⟩
            refine ⟨_, rfl, rd_eqI ⟨_, rfl, ifB (fun c4 => ?_) (fun c4 => ?_)⟩⟩
            · exact ⟨_, rfl, num_end fun e he => bad _ f3 (.inl (by have h0 : (i : Int) = 16 := (by simpa using c4); omega)) e he⟩
            have c4 : i ≠ 16 := by
              intro z
              rw [z] at c4
              simp at c4
            refine ⟨_, rfl, ⟨_, _, 1, rfl, g3, _, rfl, ifB (fun c5 => ?_) (fun c5 => ?_)⟩⟩
            · exact ⟨_, rfl, num_end fun e he => bad _ f3 (.inr (.inl (by simpa using c5))) e he⟩
            have c5 : isAskd 1 d = true := by simpa using c5
            obtain ⟨zx, zy, ts, rfl, ht1⟩ := isAskd_inv c5
            obtain ⟨tw, rfl⟩ : ∃ tw, ts = [tw] := by
              match ts, ht1 with
              | [t], _ => exact ⟨t, rfl⟩
            obtain ⟨cc, v0, v1, v2, rfl, hc, m0, m1, m2⟩ := g3.tup3
            cases m0
            cases m1
            refine rd_ixT (j := 0) rfl hc rfl ⟨_, rfl, mt, _, rfl, DGet.k (k := .inl zx) hk2, _, rfl, ifB (fun c6 => ?_) (fun c6 => ?_)⟩
            · exact ⟨_, rfl, num_end fun e he => bad _ f3 (.inr (.inr (.inl ((hkm zx).mp c6)))) e he⟩
            have hnm : zx ∉ met := fun z => by
              have := (hkm zx).mpr z
              rw [this] at c6
              cases c6
            have hnx : valV kvs (.inl zx) = none := by
              cases e : valV kvs (.inl zx) with
              | none => rfl
              | some w => exact absurd ((hkm zx).mp (by rw [e]; rfl)) hnm
            have put : twOk (.tuple [.int zx, .int zy, tw]) = true → ∀ (σ2 : L2.St), σ2 = [some (.ref a), some (.ref mt), some (.int (i : Nat)), some (.ref cc)] → (∃ y2 y3 kvs' met', σ2 = [some (.ref a), some (.ref mt), y2, y3] ∧ Fx [] H (upd H4 mt (.dK (putK kvs (.inl zx) (.bl true)))) ∧ upd H4 mt (.dK (putK kvs (.inl zx) (.bl true))) mt = some (.dK kvs') ∧ kvs'.length ≤ i + 1 ∧ i + 1 ≤ 16 ∧ (∀ (j : Int), (valV kvs' (.inl j)).isSome = true ↔ j ∈ met') ∧ qsBad (i + 1) met' (qs.drop (i + 1)) = taskBad (.tuple [.tuple qs, t1])) := fun htw σ2 e2 => by
              refine ⟨_, _, putK kvs (.inl zx) (.bl true), zx :: met, e2, f3.loc hm0 (Chg.dK hk2), upd_same, ?_, by omega, fun j => ?_, ?_⟩
              · rw [putK_new _ hnx, List.length_append]
                simp
                omega
              · rw [valV_put]
                by_cases e : (Sum.inl j : Key) = .inl zx
                · have e2 : j = zx := Sum.inl.inj e
                  rw [if_pos e, e2]
                  simp
                · rw [if_neg e, hkm j, List.mem_cons]
                  exact ⟨.inr, fun z => z.resolve_left fun z2 => e (by rw [z2])⟩
              · rw [← hbad, if_neg]
                · rfl
                · intro z
                  rcases z with z | z | z | z
                  · exact c4 z
                  · rw [c5] at z; cases z
                  · exact hnm z
                  · rw [htw] at z; cases z
            refine rd_ixT (j := 2) rfl hc rfl ⟨rfl, _, rfl, ?_⟩
            by_cases etw : v2 = .non
            · subst etw
              have etw2 : tw = .none := by cases m2; rfl
              subst etw2
              refine ifF rfl ?_
              exact ⟨_, rfl, rd_ixT (j := 0) rfl hc rfl ⟨mt, _, rfl, DPut.k (k := .inl zx) hk2 (ltL (m := kvs.length) rfl (by omega)), put rfl _ rfl⟩⟩
            · refine ifT (by rw [decide_eq_false etw]; rfl) ?_
              have eok : twOk (.tuple [.int zx, .int zy, tw]) = isAskd 0 tw := by
                refine twOk_of fun z => ?_
                subst z
                cases m2
                exact absurd rfl etw
              refine rd_ixT (j := 2) rfl hc rfl ⟨_, _, 0, rfl, m2, _, rfl, ifB (fun c7 => ?_) (fun c7 => ?_)⟩
              · have c7 : isAskd 0 tw = false := by simpa using c7
                exact ⟨_, rfl, num_end fun e he => bad _ f3 (.inr (.inr (.inr (by rw [eok, c7])))) e he⟩
              · have c7 : isAskd 0 tw = true := by simpa using c7
                exact ⟨_, rfl, rd_ixT (j := 0) rfl hc rfl ⟨mt, _, rfl, DPut.k (k := .inl zx) hk2 (ltL (m := kvs.length) rfl (by omega)), put (by rw [eok, c7]) _ rfl⟩⟩
          · obtain ⟨y2, y3, kvs, met, rfl, f, _, _, _, _, hbad⟩ := hP
            refine qn ?_ H' f
            rw [← hbad, show ys.length = qs.length from hxl, List.drop_length]
            rfl
        | _ => exact ifT rfl ⟨_, rfl, num_end fun e he => fin _ _ rfl .refl e he⟩
      | [], _, _, _, c => simp at c
      | [_], _, _, _, c => simp at c
      | _ :: _ :: _ :: _, _, _, _, c => simp at c; omega
    | _ => exact ifT rfl ⟨_, rfl, num_end fun e he => fin _ _ rfl .refl e he⟩
end Mh
/-! MhTB6 -/
namespace Mh
open PySem PySem.Spec PyProof.Rows L2
/-! ### which task is refused by which number -/
/-- a row that can't be, behind some good ones -/
def oddRow (rs : List Qst) (o : PyData) : Prop := isAskd 1 o = false ∨ xOfD o ∈ rs.map Qst.x ∨ twOk o = false
theorem qBad_not {i : Nat} {met : List Int} {r : Qst} (ro : r.ok) (hi : i < 16) (hm : r.x ∉ met) : ¬ qBad i met r.d := by
  intro z
  rcases z with z | z | z | z
  · omega
  · rw [Qst.ok_askd ro] at z
    cases z
  · exact hm z
  · have : twOk r.d = true := by
      cases e : r.twin with
      | none =>
        show (match twinD r.twin with | .none => true | t => isAskd 0 t) = true
        rw [e]
        rfl
      | some p =>
        have h2 := twin_askd ro e
        show (match twinD r.twin with | .none => true | t => isAskd 0 t) = true
        split
        · rfl
        · exact h2
    rw [this] at z
    cases z
theorem qsBad_ins {o : PyData} {rest : List PyData} : ∀ (rs : List Qst) (i : Nat) (met : List Int), i + rs.length ≤ 16 → (∀ r ∈ rs, r.ok) → (rs.map Qst.x).Nodup → (∀ x ∈ met, x ∉ rs.map Qst.x) →
    (i + rs.length = 16 ∨ isAskd 1 o = false ∨ (xOfD o ∈ met ∨ xOfD o ∈ rs.map Qst.x) ∨ twOk o = false) → qsBad i met (rs.map Qst.d ++ o :: rest) = some ((i + rs.length : Nat) : Int)
  | [], i, met, h, g, nd, nm, c => by
    show (if qBad i met o then some ((i : Nat) : Int) else qsBad (i + 1) (xOfD o :: met) rest) = some ((i + 0 : Nat) : Int)
    rw [if_pos]
    · rfl
    · rcases c with c | c | (c | c) | c
      · exact .inl c
      · exact .inr (.inl c)
      · exact .inr (.inr (.inl c))
      · cases c
      · exact .inr (.inr (.inr c))
  | r :: rs, i, met, h, g, nd, nm, c => by
    rw [List.length_cons] at h
    rw [List.map_cons, List.nodup_cons] at nd
    have ro := g r List.mem_cons_self
    show (if qBad i met r.d then some ((i : Nat) : Int) else qsBad (i + 1) (r.x :: met) (rs.map Qst.d ++ o :: rest)) = _
    have h1 : ∀ x ∈ r.x :: met, x ∉ rs.map Qst.x := fun x hx hm => by
      rcases List.mem_cons.mp hx with rfl | hx
      · exact nd.1 hm
      · exact nm x hx (List.mem_cons_of_mem _ hm)
    have h2 : i + 1 + rs.length = 16 ∨ isAskd 1 o = false ∨ (xOfD o ∈ r.x :: met ∨ xOfD o ∈ rs.map Qst.x) ∨ twOk o = false := by
      rcases c with c | c | (c | c) | c
      · rw [List.length_cons] at c
        exact .inl (by omega)
      · exact .inr (.inl c)
      · exact .inr (.inr (.inl (.inl (List.mem_cons_of_mem _ c))))
      · rcases List.mem_cons.mp c with c | c
        · exact .inr (.inr (.inl (.inl (by rw [c]; exact List.mem_cons_self))))
        · exact .inr (.inr (.inl (.inr c)))
      · exact .inr (.inr (.inr c))
    rw [if_neg (qBad_not ro (by omega) fun m => nm _ m List.mem_cons_self), qsBad_ins rs (i + 1) (r.x :: met) (by omega) (fun r m => g r (List.mem_cons_of_mem _ m)) nd.2 h1 h2, List.length_cons]
    congr 2
    omega
theorem taskBad_qs {qs : List PyData} {w : Int} (hw : 1 ≤ w ∧ w ≤ 9) (h : qs ≠ []) : taskBad (.tuple [.tuple qs, .int w]) = qsBad 0 [] qs := by
  have hn : isNum (.int w) 1 9 = true := by simp [isNum, hw.1, hw.2]
  cases qs with
  | nil => exact absurd rfl h
  | cons q qs =>
    show (if isNum (.int w) 1 9 = true then qsBad 0 [] (q :: qs) else some (-1)) = _
    rw [if_pos hn]
theorem taskBad_ins {t : Tsk} (h : t.ok) {at_ : Nat} (ha : at_ ≤ t.rows.length) {o : PyData} (c : oddRow (t.rows.take at_) o) : taskBad (.tuple [.tuple ((t.rows.take at_).map Qst.d ++ o :: (t.rows.drop at_).map Qst.d), .int t.w]) = some (at_ : Int) := by
  have hl : (t.rows.take at_).length = at_ := by rw [List.length_take]; omega
  have hle := h.len
  rw [taskBad_qs h.w (by simp), qsBad_ins (t.rows.take at_) 0 [] (by omega) (fun r m => h.rows r (List.mem_of_mem_take m)) (by rw [List.map_take]; exact h.nd.sublist (List.take_sublist _ _)) (fun _ m => nomatch m) ?_]
  · rw [hl, Nat.zero_add]
  · rcases c with c | c | c
    · exact .inr (.inl c)
    · exact .inr (.inr (.inl (.inr c)))
    · exact .inr (.inr (.inr c))
def smallD (d : PyData) : Prop := d.canLay0 = true ∧ d.depth ≤ 9
theorem small_all : ∀ {ds : List PyData}, (∀ d ∈ ds, smallD d) → PyData.canLayAll0 ds = true ∧ PyData.depthAll ds ≤ 9
  | [], _ => ⟨by simp [PyData.canLayAll0], by simp [PyData.depthAll]⟩
  | d :: ds, h => by
    obtain ⟨h1, h2⟩ := small_all fun z m => h z (List.mem_cons_of_mem d m)
    obtain ⟨a1, a2⟩ := h d List.mem_cons_self
    refine ⟨by simp only [PyData.canLayAll0, h1, a1, Bool.and_self], ?_⟩
    simp only [PyData.depthAll]
    omega
theorem shapedT {ds : List PyData} (h : ∀ d ∈ ds, smallD d) : SeqAt.shaped (.tuple ds) = true := by
  obtain ⟨h1, h2⟩ := small_all h
  show (PyData.canLay0 (.tuple ds) && decide (PyData.depth (.tuple ds) ≤ 64)) = true
  rw [Bool.and_eq_true_iff]
  refine ⟨by simp only [PyData.canLay0]; exact h1, decide_eq_true ?_⟩
  simp only [PyData.depth]
  omega
theorem shapedL {ds : List PyData} (h : ∀ d ∈ ds, smallD d) : SeqAt.shaped (.list ds) = true := by
  obtain ⟨h1, h2⟩ := small_all h
  show (PyData.canLay0 (.list ds) && decide (PyData.depth (.list ds) ≤ 64)) = true
  rw [Bool.and_eq_true_iff]
  refine ⟨by simp only [PyData.canLay0]; exact h1, decide_eq_true ?_⟩
  simp only [PyData.depth]
  omega
theorem Qst.small (r : Qst) : smallD r.d := by
  obtain ⟨a1, a2⟩ := twin_lay r.twin
  refine ⟨by simp [PyData.canLay0, Qst.d, PyData.canLayAll0, a1], ?_⟩
  simp only [PyData.depthAll, Qst.d, PyData.depth]
  omega
def row1 (k : Nat) : PyData := .tuple [.int k, .int 1, .none]
def rows16 : List Qst := (List.range 16).map fun (k : Nat) => ⟨(k : Int), 1, none⟩
theorem rows16_d : rows16.map Qst.d = (List.range 16).map row1 := rfl
theorem row1_nol : ∀ l : List Nat, nolA (l.map row1) = true
  | [] => rfl
  | _ :: l => row1_nol l
theorem row1_small (k : Nat) : smallD (row1 k) := ⟨by simp [row1, PyData.canLay0, PyData.canLayAll0], by simp [row1, PyData.depth, PyData.depthAll]⟩
theorem taskBad_17 {n : Nat} {w : Int} (hn : 17 ≤ n) (hw : 1 ≤ w ∧ w ≤ 9) : taskBad (.tuple [.tuple ((List.range n).map row1), .int w]) = some 16 := by
  have e : (List.range n).map row1 = rows16.map Qst.d ++ row1 16 :: ((List.range n).drop 17).map row1 := by
    rw [rows16_d, ← List.map_cons, ← List.map_append]
    congr 1
    have : List.range 16 ++ 16 :: (List.range n).drop 17 = List.range 17 ++ (List.range n).drop 17 := by
      rw [List.range_succ (n := 16), List.append_assoc]; rfl
    rw [this]
    have e2 : (List.range n).take 17 = List.range 17 := by rw [List.take_range, Nat.min_eq_left hn]
    rw [← e2, List.take_append_drop]
  rw [e, taskBad_qs hw (by simp), qsBad_ins rows16 0 [] (by decide) ?_ (by decide) (fun _ m => nomatch m) (.inl (by decide))]
  · rfl
  · intro r hr
    obtain ⟨k, hk, rfl⟩ := List.mem_map.mp hr
    have := List.mem_range.mp hk
    exact ⟨⟨by show (0 : Int) ≤ (k : Int); omega, by show (k : Int) ≤ 9999; omega⟩, ⟨by show (-99999999 : Int) ≤ 1; decide, by show (1 : Int) ≤ 99999999; decide⟩, fun p e => by cases e⟩
theorem taskBad_w {qs : List PyData} {w : PyData} (hw : isNum w 1 9 = false) : taskBad (.tuple [.tuple qs, w]) = some (-1) := by
  cases qs with
  | nil => rfl
  | cons q qs =>
    show (if isNum w 1 9 = true then qsBad 0 [] (q :: qs) else some (-1)) = _
    rw [hw]
    rfl
def none9 (rd : PyData) (w far : Int) : List PyData := [.tuple [], .int 5, .none, .tuple [rd], .tuple [rd, .int w, .int 1], .tuple [rd, .int 0], .tuple [rd, .int (10 + far)], .tuple [rd, .bool true], .tuple [.tuple [], .int w]]
def none4 (qs : List PyData) (w : Int) : List PyData := [.tuple [.list qs, .int w], .tuple [.int 5, .int w], .tuple [.tuple qs, .none], .list [.tuple qs, .int w]]
theorem none_bad {qs : List PyData} {w far : Int} (hq : ∀ d ∈ qs, smallD d) (h : 0 ≤ far) : ∀ d ∈ none9 (.tuple qs) w far ++ none4 qs w, taskBad d = some (-1) ∧ ∀ u v, d = .tuple [u, v] → SeqAt.shaped u = true := fun d m => by
  have h1 := shapedT hq
  have h2 := shapedL hq
  simp only [none9, none4, List.cons_append, List.nil_append, List.mem_cons, List.mem_nil_iff, or_false] at m
  rcases m with rfl | rfl | rfl | rfl | rfl | rfl | rfl | rfl | rfl | rfl | rfl | rfl | rfl
  · exact ⟨rfl, fun u v e => by cases e⟩
  · exact ⟨rfl, fun u v e => by cases e⟩
  · exact ⟨rfl, fun u v e => by cases e⟩
  · exact ⟨rfl, fun u v e => by cases e⟩
  · exact ⟨rfl, fun u v e => by cases e⟩
  · exact ⟨taskBad_w rfl, fun u v e => by cases e; exact h1⟩
  · refine ⟨taskBad_w ?_, fun u v e => by cases e; exact h1⟩
    show (decide (1 ≤ 10 + far) && decide (10 + far ≤ 9)) = false
    rw [decide_eq_false (show ¬ 10 + far ≤ 9 by omega), Bool.and_false]
  · exact ⟨taskBad_w rfl, fun u v e => by cases e; exact h1⟩
  · exact ⟨rfl, fun u v e => by cases e; exact shapedT fun _ m => nomatch m⟩
  · exact ⟨rfl, fun u v e => by cases e; exact h2⟩
  · exact ⟨rfl, fun u v e => by cases e; decide +kernel⟩
  · exact ⟨taskBad_w rfl, fun u v e => by cases e; exact h1⟩
  · exact ⟨rfl, fun u v e => by cases e⟩
/-- a task of sixteen that no machine does -/
def fullT : Tsk := ⟨(List.range 16).map fun (k : Nat) => ⟨(k : Int), 99999999, some (9999, -99999999)⟩, 9⟩
theorem fullT_ok : fullT.ok := ⟨by decide, by decide, fun r hr => by
  obtain ⟨k, hk, rfl⟩ := List.mem_map.mp hr
  have := List.mem_range.mp hk
  exact ⟨⟨by show (0 : Int) ≤ (k : Int); omega, by show (k : Int) ≤ 9999; omega⟩, ⟨by show (-99999999 : Int) ≤ 99999999; decide, by show (99999999 : Int) ≤ 99999999; decide⟩, fun p e => by cases e; decide⟩, by decide, by decide⟩
end Mh
/-! MhOdd1 -/
namespace Mh
open PySem PySem.Spec PyProof.Rows L2
/-! ### odd rows of machines -/
def rg9 : List PyData := (List.range 9).map fun (i : Nat) => PyData.int (0 + (i : Int))
def t1 (far : Int) : List PyData := [.tuple [], .tuple [.str "any", .int 1], .tuple [.str "below", .int (10000 + far)], .tuple [.str "below", .int (-1 - far)], .tuple [.str "below"], .tuple [.str "rest", .int 1, .int 0]]
def t1b (far : Int) : PyData := .tuple [.str "rest", .int (100 + far), .int 0]
def t2 (far : Int) : List PyData := [.tuple [.str "rest", .int 5, .int (5 + far)], .tuple [.str "chance", .int 5, .int (-1 - far)], .tuple [.str "chance", .int 5], .tuple [.str "known", .tuple []], .tuple [.str "known", .tuple [.int 3, .int 3]]]
def t3 (far : Int) : List PyData := [.tuple [.str "known", .tuple [.int 4, .int 3]], .tuple [.str "known", .tuple rg9], .tuple [.str "known", .int 5], .tuple [.str "known", .tuple [.int (10000 + far)]], .tuple [.str "none"]]
def t4 : List PyData := [.int 5, .none, .str "any", .tuple [.str "Any"], .tuple [.str "below", .bool true], .tuple [.str "rest", .int 5, .none], .tuple [.str "known", .list [.int 3]], .tuple [.str "known", .tuple [.bool true]]]
def tests1 (far : Int) : List PyData := t1 far ++ [t1b far] ++ t2 far ++ t3 far ++ t4
def a1 (far : Int) : List PyData := [.tuple [], .tuple [.str "num", .int (10000 + far)], .tuple [.str "num", .int (-10000 - far)], .tuple [.str "num"], .tuple [.str "plus", .bool true], .tuple [.str "times", .none], .tuple [.str "rest", .int 1]]
def a2 (far : Int) : List PyData := [.tuple [.str "rest", .int (100 + far)], .tuple [.str "none", .int 1], .tuple [.str "any"], .int 5, .none, .str "none", .tuple [.str "less", .int 1], .tuple [.str "num", .int 1, .int 1]]
def answers1 (far : Int) : List PyData := a1 far ++ a2 far
def o3 : List PyData := [.tuple [], .tuple [.tuple [.str "any"]], .tuple [.tuple [.str "any"], .tuple [.str "none"], .int 1], .int 5, .none, .list [.tuple [.str "any"], .tuple [.str "none"]]]
def withNone (t : PyData) : PyData := .tuple [t, .tuple [.str "none"]]
def withAny (a : PyData) : PyData := .tuple [.tuple [.str "any"], a]
def odd1R (far : Int) : List PyData := (tests1 far).map withNone ++ (answers1 far).map withAny ++ o3
theorem isTest_b {x : PyData} (h : isNum x 0 9999 = false) : isTest (.tuple [.str "below", x]) = false := by
  show ((("below" : Str) == ("below" : Str) && isNum x 0 9999) || (("below" : Str) == ("known" : Str) && areKnown x)) = false
  rw [h, show (("below" : Str) == ("known" : Str)) = false from by decide +kernel]
  rfl
theorem isTest_k {x : PyData} (h : areKnown x = false) : isTest (.tuple [.str "known", x]) = false := by
  show ((("known" : Str) == ("below" : Str) && isNum x 0 9999) || (("known" : Str) == ("known" : Str) && areKnown x)) = false
  rw [h, show (("known" : Str) == ("below" : Str)) = false from by decide +kernel, Bool.and_false]
  rfl
theorem isTest_r {z : Str} {x y : PyData} (h : (isNum x 2 99 && isNum y 0 (intOf x - 1)) = false) : isTest (.tuple [.str z, x, y]) = false := by
  show ((isNum x 2 99 && isNum y 0 (intOf x - 1)) && _) = false
  rw [h]
  rfl
theorem tests1_bad {far : Int} (h : 0 ≤ far) : ∀ d ∈ tests1 far, isTest d = false := fun d m => by
  simp only [tests1, t1, t1b, t2, t3, t4, List.cons_append, List.nil_append, List.mem_cons, List.mem_nil_iff, or_false] at m
  rcases m with rfl | rfl | rfl | rfl | rfl | rfl | rfl | rfl | rfl | rfl | rfl | rfl | rfl | rfl | rfl | rfl | rfl | rfl | rfl | rfl | rfl | rfl | rfl | rfl | rfl
  · rfl
  · decide +kernel
  · exact isTest_b (isNum_out (.inr (by omega)))
  · exact isTest_b (isNum_out (.inl (by omega)))
  · decide +kernel
  · decide +kernel
  · exact isTest_r (by rw [isNum_out (.inr (by omega)), Bool.false_and])
  · exact isTest_r (by rw [isNum_out (n := 5 + far) (.inr (by show (5 : Int) - 1 < 5 + far; omega)), Bool.and_false])
  · exact isTest_r (by rw [isNum_out (n := -1 - far) (.inl (by omega)), Bool.and_false])
  · decide +kernel
  · decide +kernel
  · decide +kernel
  · decide +kernel
  · decide +kernel
  · decide +kernel
  · refine isTest_k ?_
    rw [areKnown_tup]
    simp only [List.all_cons, List.all_nil, isNum_out (n := 10000 + far) (lo := 0) (hi := 9999) (.inr (by omega)), Bool.false_and, Bool.and_false]
  · decide +kernel
  · rfl
  · rfl
  · rfl
  · decide +kernel
  · decide +kernel
  · decide +kernel
  · decide +kernel
  · decide +kernel
theorem isAns_n {x : PyData} (h : isNum x (-9999) 9999 = false) : isAns (.tuple [.str "num", x]) = false := by
  show (if ("num" : Str) == ("rest" : Str) then isNum x 2 99 else inV (.str "num") [.str "num", .str "plus", .str "times"] && isNum x (-9999) 9999) = false
  rw [if_neg (by decide +kernel), h, Bool.and_false]
theorem answers1_bad {far : Int} (h : 0 ≤ far) : ∀ d ∈ answers1 far, isAns d = false := fun d m => by
  simp only [answers1, a1, a2, List.cons_append, List.nil_append, List.mem_cons, List.mem_nil_iff, or_false] at m
  rcases m with rfl | rfl | rfl | rfl | rfl | rfl | rfl | rfl | rfl | rfl | rfl | rfl | rfl | rfl | rfl
  · rfl
  · exact isAns_n (isNum_out (.inr (by omega)))
  · exact isAns_n (isNum_out (.inl (by omega)))
  · decide +kernel
  · decide +kernel
  · decide +kernel
  · decide +kernel
  · show (if ("rest" : Str) == ("rest" : Str) then isNum (.int (100 + far)) 2 99 else inV (.str "rest") [.str "num", .str "plus", .str "times"] && isNum (.int (100 + far)) (-9999) 9999) = false
    rw [if_pos (by decide +kernel)]
    exact isNum_out (.inr (by omega))
  · decide +kernel
  · decide +kernel
  · rfl
  · rfl
  · rfl
  · decide +kernel
  · rfl
theorem odd1R_bad {far : Int} (h : 0 ≤ far) : ∀ d ∈ odd1R far, rowOk d = false := fun d m => by
  unfold odd1R at m
  rcases List.mem_append.mp m with m | m
  · rcases List.mem_append.mp m with m | m
    · obtain ⟨t, ht, rfl⟩ := List.mem_map.mp m
      show (isTest t && isAns (.tuple [.str "none"])) = false
      rw [tests1_bad h t ht, Bool.false_and]
    · obtain ⟨t, ht, rfl⟩ := List.mem_map.mp m
      show (isTest (.tuple [.str "any"]) && isAns t) = false
      rw [answers1_bad h t ht, Bool.and_false]
  · simp only [o3, List.mem_cons, List.mem_nil_iff, or_false] at m
    rcases m with rfl | rfl | rfl | rfl | rfl | rfl <;> rfl
def sm8 (d : PyData) : Prop := d.canLay0 = true ∧ d.depth ≤ 6
theorem str_lay1 : ∀ z ∈ (["any", "below", "rest", "chance", "known", "none", "Any", "num", "plus", "times", "less"] : List Str), PyData.strOk z = true := by decide +kernel
theorem tests1_sm (far : Int) : ∀ d ∈ tests1 far, sm8 d := fun d m => by
  have hs := str_lay1
  simp only [List.mem_cons, List.mem_nil_iff, or_false, forall_eq_or_imp, forall_eq] at hs
  obtain ⟨s1, s2, s3, s4, s5, s6, s7, _⟩ := hs
  simp only [tests1, t1, t1b, t2, t3, t4, List.cons_append, List.nil_append, List.mem_cons, List.mem_nil_iff, or_false] at m
  rcases m with rfl | rfl | rfl | rfl | rfl | rfl | rfl | rfl | rfl | rfl | rfl | rfl | rfl | rfl | rfl | rfl | rfl | rfl | rfl | rfl | rfl | rfl | rfl | rfl | rfl
  all_goals exact ⟨by simp [PyData.canLay0, PyData.canLayAll0, s1, s2, s3, s4, s5, s6, s7, rg9, List.range, List.range.loop], by simp [PyData.depth, PyData.depthAll, rg9, List.range, List.range.loop]⟩
theorem answers1_sm (far : Int) : ∀ d ∈ answers1 far, sm8 d := fun d m => by
  have hs := str_lay1
  simp only [List.mem_cons, List.mem_nil_iff, or_false, forall_eq_or_imp, forall_eq] at hs
  obtain ⟨s1, s2, s3, s4, s5, s6, s7, s8, s9, s10, s11⟩ := hs
  simp only [answers1, a1, a2, List.cons_append, List.nil_append, List.mem_cons, List.mem_nil_iff, or_false] at m
  rcases m with rfl | rfl | rfl | rfl | rfl | rfl | rfl | rfl | rfl | rfl | rfl | rfl | rfl | rfl | rfl
  all_goals exact ⟨by simp [PyData.canLay0, PyData.canLayAll0, s1, s2, s3, s4, s5, s6, s7, s8, s9, s10, s11], by simp [PyData.depth, PyData.depthAll]⟩
theorem odd1R_sm (far : Int) : ∀ d ∈ odd1R far, smallD d := fun d m => by
  have hs := str_lay1
  simp only [List.mem_cons, List.mem_nil_iff, or_false, forall_eq_or_imp, forall_eq] at hs
  obtain ⟨s1, s2, s3, s4, s5, s6, s7, _⟩ := hs
  unfold odd1R at m
  rcases List.mem_append.mp m with m | m
  · rcases List.mem_append.mp m with m | m
    · obtain ⟨t, ht, rfl⟩ := List.mem_map.mp m
      obtain ⟨h1, h2⟩ := tests1_sm far t ht
      exact ⟨by simp [withNone, PyData.canLay0, PyData.canLayAll0, s6, h1], by simp only [withNone, PyData.depth, PyData.depthAll]; omega⟩
    · obtain ⟨t, ht, rfl⟩ := List.mem_map.mp m
      obtain ⟨h1, h2⟩ := answers1_sm far t ht
      exact ⟨by simp [withAny, PyData.canLay0, PyData.canLayAll0, s1, h1], by simp only [withAny, PyData.depth, PyData.depthAll]; omega⟩
  · simp only [o3, List.mem_cons, List.mem_nil_iff, or_false] at m
    rcases m with rfl | rfl | rfl | rfl | rfl | rfl
    all_goals exact ⟨by simp [PyData.canLay0, PyData.canLayAll0, s1, s6], by simp [PyData.depth, PyData.depthAll]⟩
theorem rowD_small (r : Tst × Ans) : smallD (rowD r) := by
  obtain ⟨h1, h2⟩ := r.1.lay
  obtain ⟨h3, h4⟩ := r.2.lay
  refine ⟨by simp [rowD, PyData.canLay0, PyData.canLayAll0, h1, h3], ?_⟩
  simp only [rowD, PyData.depth, PyData.depthAll]
  omega
def none6 (m : Mch) : List PyData := [.tuple [], .list [], .int 5, .none, .str "ab", .list (m.map rowD)]
theorem none6_bad (m : Mch) : ∀ d ∈ none6 m, machBad d = some (-1) ∧ SeqAt.shaped d = true := fun d h => by
  simp only [none6, List.mem_cons, List.mem_nil_iff, or_false] at h
  rcases h with rfl | rfl | rfl | rfl | rfl | rfl
  · exact ⟨rfl, shapedT fun _ m => nomatch m⟩
  · exact ⟨rfl, shapedL fun _ m => nomatch m⟩
  · exact ⟨rfl, by decide +kernel⟩
  · exact ⟨rfl, by decide +kernel⟩
  · exact ⟨rfl, by decide +kernel⟩
  · exact ⟨rfl, shapedL fun d hd => by obtain ⟨r, _, rfl⟩ := List.mem_map.mp hd; exact rowD_small r⟩
def fullM3 : Mch := [(.rest 99 98, .num 9999), (.known [9992, 9993, 9994, 9995, 9996, 9997, 9998, 9999], .num (-9999)), (.below 9999, .rest 99)]
def fullM : Mch := (List.replicate 4 fullM3).flatten
theorem fullM_D : machD fullM = .tuple (List.replicate 4 (fullM3.map rowD)).flatten := rfl
theorem fullM_ok : fullM.ok := ⟨by decide, by decide, fun r h => by
  have h3 : r ∈ fullM3 := by
    obtain ⟨l, hl, hr⟩ := List.mem_flatten.mp h
    rw [List.eq_of_mem_replicate hl] at hr
    exact hr
  simp only [fullM3, List.mem_cons, List.mem_nil_iff, or_false] at h3
  rcases h3 with rfl | rfl | rfl
  · exact ⟨⟨by decide, by decide, by decide, by decide⟩, by decide, by decide⟩
  · exact ⟨by refine ⟨by decide, by decide, ?_, ?_⟩ <;> decide, by decide, by decide⟩
  · exact ⟨⟨by decide, by decide⟩, by decide, by decide⟩⟩
theorem fullM_asked : askedM fullM 9999 0 = some (-9999) := by decide +kernel
end Mh
/-! MhScore -/
namespace Mh
open PySem PySem.Spec PyProof.Rows L2
theorem sc_score : FnScope ["machine", "task", "seed"] ["machine", "task", "seed"] (defScope s_score) := ⟨rfl, rfl, rfl, by decide +kernel, rfl, by decide +kernel, by decide +kernel⟩
def spScore (K : PySem.W.Frag) : Sp := fun vs H Q _ => ∃ (v u : V) (m : Mch) (t : Tsk) (s : Int), vs = [v, u, .int s] ∧ Dp K H v (machD m) ∧ Dp K H u (taskD t) ∧ m.ok ∧ t.ok ∧ (0 ≤ s ∧ s ≤ 999) ∧
  ∀ (H' : Hp), Fx [] H H' → Q (.int (rightL m t s).length) H'
theorem ok_score {P : Program} {w : World} {K : PySem.W.Frag} {mg : Str → Option Value} {base : Heap} (T : Tx K mg) : DefN P w K mg base CX0 6 "score" ["machine", "task", "seed"] 2 ["seed"] (spScore K) := by
  obtain ⟨fd, F⟩ := T.d_score
  have G_right := ok_right (P := P) (w := w) (base := base) T
  obtain ⟨mv, BN⟩ := F.kbinds0 (ps := ["machine", "task", "seed"]) 2 ["seed"] [] (fun vs _ zs => vs ++ zs) (List.cons_ne_nil _ _) (fun q h => nomatch h) (fun r1 _ r3 => r1.append r3) (fun D doc pm an cdv ct us mv ws l1 l2 l3 => match us, mv, ws, l1, l2, l3 with | [_, _], [], [_], _, _, _ => rfl)
  obtain ⟨ds, hds, BD⟩ := F.binds0 (ps := ["machine", "task", "seed"]) 2 (List.cons_ne_nil _ _) rfl (fun D doc pm an cdv ct us ks l1 l2 => match us, ks, l1, l2 with | [_, _], [_], _, _ => ⟨_, _, _, _, _, _, rfl, rfl, rfl⟩)
  refine ⟨_, fd, _, ds, F.ok sc_score (fun vs H Q E h => ?_) (fun cdv A outer s H vs Q E hr h => ?_), BN, hds, BD, T.g_score, F.kp⟩
  · obtain ⟨v, u, m, t, s, rfl, _⟩ := h
    rfl
  · obtain ⟨v, u, m, t, sd, rfl, hm, hd, hmo, ht, hs, q⟩ := h
    refine ⟨_, PSs.nox (pss_one (ps_ret (pe_callB call_len_seq (by rfl) T.f_len (by decide +kernel) (pa_cons (pe_defN G_right (hr.mono (by omega)) pass0 (pa_cons (pv 0) (pa_cons (pv 1) pa_nil)) (pk_cons (pv 2) pk_nil)) pa_nil)))), ?_⟩
    refine ⟨v, rfl, u, rfl, _, rfl, rfl, rfl, ⟨v, u, m, t, sd, rfl, hm, hd, hmo, ht, hs, fun H1 w f1 hw => ?_⟩⟩
    obtain ⟨a, xs, rfl, hxs, hx⟩ := hw.tupI
    refine ⟨a, xs, rfl, .inr hxs, ?_⟩
    have e : xs.length = (rightL m t sd).length := by rw [hx.len, List.length_map]
    rw [e]
    exact q H1 f1
end Mh
/-! MhShpP -/
namespace Mh
open PySem PySem.Spec PyProof.Rows L2
theorem shaped_list {ds : List PyData} (h : ∀ d ∈ ds, d.canLay0 = true ∧ d.depth ≤ 60) : SeqAt.shaped (.list ds) = true := by
  have key : ∀ ds : List PyData, (∀ d ∈ ds, d.canLay0 = true ∧ d.depth ≤ 60) → PyData.canLayAll0 ds = true ∧ PyData.depthAll ds ≤ 60 := by
    intro ds
    induction ds with
    | nil => exact fun _ => ⟨by simp [PyData.canLayAll0], by simp [PyData.depthAll]⟩
    | cons d ds ih =>
      intro h
      obtain ⟨a, b⟩ := h d List.mem_cons_self
      obtain ⟨c, e⟩ := ih fun z m => h z (List.mem_cons_of_mem _ m)
      exact ⟨by simp [PyData.canLayAll0, a, c], by simp only [PyData.depthAll]; omega⟩
  obtain ⟨a, b⟩ := key ds h
  show (PyData.canLay0 (.list ds) && decide (PyData.depth (.list ds) ≤ 64)) = true
  rw [Bool.and_eq_true_iff]
  refine ⟨by simp only [PyData.canLay0]; exact a, decide_eq_true ?_⟩
  simp only [PyData.depth]
  omega
theorem rd_eqSame (K : PySem.W.Frag) {H : Hp} {Q : VK} {x y : V} {d : PyData} (hx : Dp K H x d) (hy : Dp K H y d) (hs : SeqAt.shaped d = true) (q : Q (.bl true) H) : rEqD K x y H Q :=
  ⟨d, d, hx, hy, hs, hs, by rw [SeqAt.eqv_refl d (SeqAt.canLay_of_shaped hs)]; exact q⟩
theorem rd_neSm (K : PySem.W.Frag) {H : Hp} {Q : VK} {x y : V} {d : PyData} (hx : Dp K H x d) (hy : Dp K H y d) (hs : SeqAt.shaped d = true) (q : Q (.bl false) H) : rNeD K x y H Q :=
  ⟨d, d, hx, hy, hs, hs, by rw [SeqAt.eqv_refl d (SeqAt.canLay_of_shaped hs)]; exact q⟩
theorem name_lay {n : Str} (h : NameOk n) : PyData.canLay0 (.str n) = true := by
  show (n.cps.all fun c => decide (c < 0x110000)) = true
  rw [← Array.all_toList]
  refine List.all_eq_true.mpr fun c hc => ?_
  have h1 := h.az c hc
  have h2 : letters.all (fun c => decide (c < 0x110000)) = true := by decide +kernel
  exact List.all_eq_true.mp h2 c h1
end Mh
/-! MhTupA -/
namespace Mh
open PySem PySem.Spec PyProof.Rows L2
/-! ### tuples joined and cut, empty ones and whole ones too -/
theorem kop_catAny {X : Cx} {K : PySem.W.Frag} (h : X.K = K) : OpR X (binaryOp .Add) (rCatA K) := by rw [← h]; exact op_catA
theorem ksl_tupAny {X : Cx} {K : PySem.W.Frag} (h : X.K = K) : SlR X (rSlA K) := by rw [← h]; exact sl_tupA
section
variable {K : PySem.W.Frag} {H : Hp} {Q : VK} {a b : Addr} {xs ys : List V}
theorem rd_catA (ha : SqT K H a xs) (hb : SqT K H b ys) (hl : xs.length + ys.length ≤ sizeLine) (q : ∀ p H', Fx [] H H' → SqT K H' p (xs ++ ys) → Q (.ref p) H') : rCatA K (.ref a) (.ref b) H Q := by
  refine ⟨a, b, xs, ys, rfl, rfl, ha, hb, hl, fun e => q b H .refl (by rw [e]; exact hb), fun _ e => q a H .refl (by rw [e, List.append_nil]; exact ha), fun _ _ p hp => ?_⟩
  exact q p _ (Fx.new hp) (SqT.of upd_same)
theorem cutV_take {n : Nat} : cutV xs none (some (n : Int)) = xs.take n := by
  unfold cutV
  rw [HT.sIx_none, HT.sIx_nat, List.drop_zero, Nat.sub_zero]
  rcases Nat.le_total n xs.length with h | h
  · rw [Nat.min_eq_left h]
  · rw [Nat.min_eq_right h, List.take_length, List.take_of_length_le h]
theorem cutV_drop {n : Nat} (hn : n ≤ xs.length) : cutV xs (some (n : Int)) none = xs.drop n := by
  unfold cutV
  rw [HT.sIx_none, HT.sIx_nat, Nat.min_eq_left hn]
  exact List.take_of_length_le (by rw [List.length_drop]; omega)
theorem rd_takeN {n : Nat} (ha : SqT K H a xs) (q : ∀ p H', Fx [] H H' → SqT K H' p (xs.take n) → Q (.ref p) H') : rSlA K (.ref a) none (some (n : Int)) H Q := by
  refine ⟨a, xs, rfl, ha, fun e => ?_, fun _ p hp => ?_⟩
  · have : xs.length ≤ n := by
      have e2 := e.2
      rw [HT.sIx_nat] at e2
      omega
    exact q a H .refl (by rw [List.take_of_length_le this]; exact ha)
  · rw [cutV_take]
    exact q p _ (Fx.new hp) (SqT.of upd_same)
theorem rd_takeA {n : Nat} (ha : SqT K H a xs) (_hn : n ≤ xs.length) (q : ∀ p H', Fx [] H H' → SqT K H' p (xs.take n) → Q (.ref p) H') : rSlA K (.ref a) none (some (n : Int)) H Q := rd_takeN ha q
theorem rd_dropA {n : Nat} (ha : SqT K H a xs) (hn : n ≤ xs.length) (q : ∀ p H', Fx [] H H' → SqT K H' p (xs.drop n) → Q (.ref p) H') : rSlA K (.ref a) (some (n : Int)) none H Q := by
  refine ⟨a, xs, rfl, ha, fun e => ?_, fun _ p hp => ?_⟩
  · have : n = 0 := by
      have e2 := e.1
      rw [HT.sIx_nat, Nat.min_eq_left hn] at e2
      exact e2
    exact q a H .refl (by rw [this, List.drop_zero]; exact ha)
  · rw [cutV_drop hn]
    exact q p _ (Fx.new hp) (SqT.of upd_same)
theorem DpAll.takeN : ∀ {vs : List V} {ds : List PyData} (n : Nat), DpAll K H vs ds → DpAll K H (vs.take n) (ds.take n)
  | _, _, n, .nil => by rw [List.take_nil, List.take_nil]; exact .nil
  | _, _, 0, .cons r t => .nil
  | _, _, n + 1, .cons r t => .cons r (DpAll.takeN n t)
theorem DpAll.dropN : ∀ {vs : List V} {ds : List PyData} (n : Nat), DpAll K H vs ds → DpAll K H (vs.drop n) (ds.drop n)
  | _, _, n, .nil => by rw [List.drop_nil, List.drop_nil]; exact .nil
  | _, _, 0, .cons r t => .cons r t
  | _, _, n + 1, .cons r t => DpAll.dropN n t
end
theorem Fx.only {M N : List Addr} {H H' : Hp} (f : Fx M H H') (h : ∀ z ∈ M, H z = none ∨ z ∈ N) : Fx N H H' :=
  ⟨fun a o e n => f.k a o e fun m => (h a m).elim (fun z => by rw [e] at z; cases z) n, f.t, f.z, f.d⟩
theorem rg_all {K : PySem.W.Frag} {H : Hp} (a : Int) : ∀ l : List Nat, DpAll K H (l.map fun i => V.int (a + (i : Nat))) (l.map fun (i : Nat) => PyData.int (a + (i : Int)))
  | [] => .nil
  | _ :: l => .cons (.int _) (rg_all a l)
theorem rg_nol (a : Int) : ∀ l : List Nat, nolA (l.map fun (i : Nat) => PyData.int (a + (i : Int))) = true
  | [] => rfl
  | _ :: l => rg_nol a l
theorem DpF.but {K : PySem.W.Frag} {H0 H H' : Hp} {v : V} {d : PyData} {M : List Addr} (k : DpF K H0 H v d) (f : Fx M H H') (h : ∀ z ∈ M, H0 z ≠ none ∨ H z = none) : Dp K H' v d := by
  refine k (M.filter fun z => (H0 z).isSome) H' (fun z m e => ?_) (f.only fun z m => ?_)
  · have := (List.mem_filter.mp m).2
    rw [e] at this
    cases this
  · rcases h z m with q | q
    · refine .inr (List.mem_filter.mpr ⟨m, ?_⟩)
      cases e : H0 z with
      | none => exact absurd e q
      | some o => rfl
    · exact .inl q
theorem DpAll.rep {K : PySem.W.Frag} {H : Hp} {vs : List V} {ds : List PyData} (h : DpAll K H vs ds) : ∀ n : Nat, DpAll K H (List.replicate n vs).flatten (List.replicate n ds).flatten
  | 0 => .nil
  | n + 1 => by
    rw [List.replicate_succ, List.replicate_succ, List.flatten_cons, List.flatten_cons]
    exact DpAll.app h (DpAll.rep h n)
theorem nolA_of : ∀ {ds : List PyData}, (∀ d ∈ ds, nol d = true) → nolA ds = true
  | [], _ => rfl
  | d :: ds, h => by
    show (nol d && nolA ds) = true
    rw [h d List.mem_cons_self, nolA_of fun z m => h z (List.mem_cons_of_mem _ m)]
    rfl
/-- the suite of an if of two tests, walked once -/
theorem ifOr_J {ta tb : TT} {A B : TS} {D : Ends} {σ : L2.St} {H : Hp} (J : Hp → Prop) (hA : ∀ H', J H' → A D σ H') (h : (∀ H', J H' → A D σ H') → tIfS (tOr ta tb) A B D σ H) : tIfS (tOr ta tb) A B D σ H := h hA
/-- tuple(range(a, b)), its bounds known -/
theorem pd_tupRg {X : Cx} {K : PySem.W.Frag} {e : Expr} {te : L2.St → Hp → (Int → Int → Hp → Prop) → Prop} (a b : Int) (h : PE X e (tTupRg te)) (hte : ∀ σ H k, k a b H → te σ H k) (ho : RgOk a b) :
    PD X K e (fun _ _ d => d = .tuple ((List.range (b - a).toNat).map fun (i : Nat) => PyData.int (a + (i : Int)))) := by
  refine ⟨h.weak fun σ H Q ⟨d, ed, q⟩ => ?_, fun _ _ _ _ _ h => h⟩
  subst ed
  refine hte σ H _ ⟨ho, fun p hp => ?_⟩
  have f : Fx [] H (upd H p (.tup (rgV a b))) := Fx.new hp
  refine q _ _ f (DpF.tup (SqT.of upd_same) ?_)
  exact DpFA.ofN (rg_all a _) (rg_nol a _)
/-- list(t), t a tuple by name -/
theorem pd_listOf {X : Cx} {K : PySem.W.Frag} {e : Expr} {i : Nat} (h : PE X e (tCB (fun xs H Q => ∃ p ys, xs = [V.ref p] ∧ (SqL X.K H p ys ∨ SqT X.K H p ys) ∧ ∀ l, H l = none → Q (.ref l) (upd H l (.lst ys))) (tCons (tVar i) tNil))) (hK : X.K = K := by rfl) :
    PD X K e (fun σ H d => ∃ v ds, d = .list ds ∧ σ[i]? = some (some v) ∧ Dp K H v (.tuple ds) ∧ nolA ds = true) := by
  refine ⟨h.weak fun σ H Q ⟨d, ⟨v, ds, ed, ev, hd, n⟩, q⟩ => ?_, fun σ H H' d f ⟨v, ds, ed, ev, hd, n⟩ => ⟨v, ds, ed, ev, hd.mv f n, n⟩⟩
  subst ed
  subst hK
  obtain ⟨a, xs, rfl, hs, hx⟩ := hd.tupI
  refine ⟨_, ev, a, xs, rfl, .inr hs, fun l hl => ?_⟩
  have f : Fx [] H (upd H l (.lst xs)) := Fx.new hl
  exact q _ _ f (DpF.lst hl upd_same (DpFA.ofN (hx.ext f) n))
end Mh
/-! MhXHP -/
namespace Mh
open PySem PySem.Spec PyProof.Rows L2
/-! ### what halls refuse, plain -/
def inA {α : Type} (l : List (Str × α)) : PyData → Bool
  | .str n => (l.lookup n).isSome
  | _ => false
/-- a run that counts -/
def runOn (h : HallM) : PyData → Bool
  | .int i => decide (0 ≤ i) && (match h.runs[i.toNat]? with
    | some r => r.c
    | none => false)
  | _ => false
/-- no ranked machine -/
def rkBad (h : HallM) (d : PyData) : Option Str := if inA h.players d = false then some "NoMachine" else match d with
  | .str n => if n ∈ rankedL h then none else some "NotRanked"
  | _ => none
def rkBad2 (h : HallM) (d e : PyData) : Option Str := match rkBad h d with
  | some x => some x
  | none => rkBad h e
/-- refused so; all stands -/
def Rfs (K : PySem.W.Frag) (mg : Str → Option Value) (x : Str) (r : Int) (H : Hp) (E : XK) : Prop := ∀ cls e H', Fx [] H H' → Refd K mg x r cls e H' → E cls e H'
theorem Rfs.up {K : PySem.W.Frag} {mg : Str → Option Value} {x : Str} {r : Int} {H H1 : Hp} {E : XK} (q : Rfs K mg x r H E) (f : Fx [] H H1) : Rfs K mg x r H1 E := fun cls e H' g R => q cls e H' (f.trans g) R
/-- what lies in a hall is no table, no code object -/
theorem HallAt.kind {K : PySem.W.Frag} {H : Hp} {A : HA} {n : Int} {h : HallM} (x : HallAt K H A n h) : ∀ z ∈ A.foot, ∀ o, H z = some o → (∀ q, o ≠ .tbl q) ∧ ∀ p, o ≠ .ext p := by
  obtain ⟨gk, g1, g2⟩ := x.g
  obtain ⟨pk, p1, p2⟩ := x.p
  obtain ⟨vs, w1, w2⟩ := x.w
  intro z m o e
  unfold HA.foot at m
  simp only [List.mem_cons, List.mem_append, List.mem_map] at m
  rcases m with rfl | rfl | rfl | rfl | rfl | rfl | rfl | ⟨q, hq, rfl⟩ | ⟨q, hq, rfl⟩ | hz
  · rw [x.i.i] at e; cases e; exact ⟨(fun _ q => nomatch q), fun _ q => nomatch q⟩
  · rw [x.i.o] at e; cases e; exact ⟨(fun _ q => nomatch q), fun _ q => nomatch q⟩
  · rw [g1] at e; cases e; exact ⟨(fun _ q => nomatch q), fun _ q => nomatch q⟩
  · rw [p1] at e; cases e; exact ⟨(fun _ q => nomatch q), fun _ q => nomatch q⟩
  · rw [x.r.l] at e; cases e; exact ⟨(fun _ q => nomatch q), fun _ q => nomatch q⟩
  · rw [x.s.l] at e; cases e; exact ⟨(fun _ q => nomatch q), fun _ q => nomatch q⟩
  · rw [w1] at e; cases e; exact ⟨(fun _ q => nomatch q), fun _ q => nomatch q⟩
  · obtain ⟨k, hk, ek⟩ := List.getElem_of_mem hq
    have hk2 : k < h.runs.length := by rw [← x.r.n]; exact hk
    have := (x.r.i k q _ (by rw [List.getElem?_eq_getElem hk, ek]) (List.getElem?_eq_getElem hk2)).1
    rw [e] at this
    cases this
    exact ⟨(fun _ q => nomatch q), fun _ q => nomatch q⟩
  · obtain ⟨k, hk, ek⟩ := List.getElem_of_mem hq
    have hk2 : k < h.runs.length := by rw [← x.r.n]; exact hk
    have := (x.r.i k q _ (by rw [List.getElem?_eq_getElem hk, ek]) (List.getElem?_eq_getElem hk2)).2
    rw [e] at this
    cases this
    exact ⟨(fun _ q => nomatch q), fun _ q => nomatch q⟩
  · obtain ⟨k, hk, ek⟩ := List.getElem_of_mem hz
    have hk2 : k < h.sheets.length := by rw [← x.s.n]; exact hk
    obtain ⟨vs, h1, _⟩ := x.s.i k z _ (by rw [List.getElem?_eq_getElem hk, ek]) (List.getElem?_eq_getElem hk2)
    rw [e] at h1
    cases h1
    exact ⟨(fun _ q => nomatch q), fun _ q => nomatch q⟩
theorem HallAt.tab {K : PySem.W.Frag} {H : Hp} {A : HA} {n : Int} {h : HallM} (x : HallAt K H A n h) {T : List (Addr × Str)} (t : LamX.Tabs T H) {Pt : Addr} {q : Str} (m : (Pt, q) ∈ T) : ∀ y ∈ A.foot, y ∉ [Pt] := fun y hy z => by
  obtain ⟨qs, e, _⟩ := t _ m
  rw [← List.mem_singleton.mp z] at e
  exact (x.kind y hy _ e).1 _ rfl
/-- tables stand while a hall is led -/
theorem Tabs.led {K : PySem.W.Frag} {H H' : Hp} {A : HA} {n : Int} {h : HallM} {T : List (Addr × Str)} (t : LamX.Tabs T H) (x : HallAt K H A n h) (f : Fx A.foot H H') : LamX.Tabs T H' :=
  Tabs.mv t f (fun p hp m => by obtain ⟨qs, e, _⟩ := t p hp; exact (x.kind _ m _ e).1 _ rfl) fun c q e m => (x.kind _ m _ e).2 _ rfl
theorem player_isSome {K : PySem.W.Frag} {H : Hp} {h : HallM} {kvs : List (Key × V)} {n : Str} (hk : KvD K H kvs (playersD h)) : (valV kvs (.inr n)).isSome = (h.players.lookup n).isSome := by
  have e1 := lookup_map machD h.players n
  rcases hk.val n with ⟨h1, h2⟩ | ⟨d, v, h1, h2, h3⟩
  · have h1' : (playersD h).lookup n = none := h1
    have : (h.players.lookup n).map machD = none := e1.symm.trans h1'
    rw [h2]
    cases hl : h.players.lookup n with
    | none => rfl
    | some t => rw [hl] at this; cases this
  · have h1' : (playersD h).lookup n = some d := h1
    have : (h.players.lookup n).map machD = some d := e1.symm.trans h1'
    rw [h2]
    cases hl : h.players.lookup n with
    | none => rw [hl] at this; cases this
    | some t => rfl
end Mh
/-! MhW11 -/
namespace Mh
open PySem PySem.Spec PyProof.Rows L2 LamX
structure W11 (K : PySem.W.Frag) (H : Hp) (dd : Addr) (s : Dice) (A : HA) (h : HallM) : Prop where
  d : H dd = some (.lst s.l)
  k : s.ok
  a : HallAt K H A 0 h
  n : dd ∉ A.foot
structure L11 (H : Hp) (A : HA) (dd p : Addr) (xs : List V) : Prop where
  h : H p = some (.lst xs)
  a : p ∉ A.foot
  d : p ≠ dd
section
variable {K : PySem.W.Frag} {H H' : Hp} {dd p : Addr} {s s' : Dice} {A A' : HA} {h h' : HallM} {xs : List V} {M : List Addr}
theorem W11.up (x : W11 K H dd s A h) (f : Fx [] H H') : W11 K H' dd s A h := ⟨f.to x.d (fun z => nomatch z), x.k, x.a.up f, x.n⟩
theorem W11.dice (x : W11 K H dd s A h) (f : Fx [dd] H H') (d : H' dd = some (.lst s'.l)) (k : s'.ok) : W11 K H' dd s' A h := ⟨d, k, x.a.fx f fun y hy z => x.n (by rw [← List.mem_singleton.mp z]; exact hy), x.n⟩
theorem W11.led (x : W11 K H dd s A h) (L : Led K H H' A A' 0 h') : W11 K H' dd s A' h' := ⟨L.f.to x.d x.n, x.k, L.at', fun m => (L.new _ m).elim x.n fun e => by rw [x.d] at e; cases e⟩
theorem W11.tab (x : W11 K H dd s A h) {T : List (Addr × Str)} (t : LamX.Tabs T H) {Pt : Addr} {q : Str} (m : (Pt, q) ∈ T) (f : Fx [Pt] H H') : W11 K H' dd s A h :=
  ⟨f.to x.d (n1 (Tabs.ne t m x.d fun z e => nomatch e)), x.k, x.a.fx f (x.a.tab t m), x.n⟩
theorem W11.fx (x : W11 K H dd s A h) (f : Fx M H H') (n : dd ∉ M) (m : ∀ y ∈ A.foot, y ∉ M) : W11 K H' dd s A h := ⟨f.to x.d n, x.k, x.a.fx f m, x.n⟩
theorem L11.fx (x : L11 H A dd p xs) (f : Fx M H H') (n : p ∉ M) : L11 H' A dd p xs := ⟨f.to x.h n, x.a, x.d⟩
theorem W11.dc (x : W11 K H dd s A h) : Dc dd H H s := ⟨.refl, x.d, x.k⟩
theorem L11.up (x : L11 H A dd p xs) (f : Fx [] H H') : L11 H' A dd p xs := ⟨f.to x.h (fun z => nomatch z), x.a, x.d⟩
theorem L11.dice (x : L11 H A dd p xs) (f : Fx [dd] H H') : L11 H' A dd p xs := ⟨f.to x.h (n1 x.d), x.a, x.d⟩
theorem L11.led (x : L11 H A dd p xs) (L : Led K H H' A A' 0 h') : L11 H' A' dd p xs := ⟨L.f.to x.h x.a, fun m => (L.new _ m).elim x.a fun e => (by rw [x.h] at e; cases e), x.d⟩
theorem L11.tab (x : L11 H A dd p xs) {T : List (Addr × Str)} (t : LamX.Tabs T H) {Pt : Addr} {q : Str} (m : (Pt, q) ∈ T) (f : Fx [Pt] H H') : L11 H' A dd p xs := ⟨f.to x.h (n1 (Tabs.ne t m x.h fun z e => nomatch e)), x.a, x.d⟩
theorem W11.nw (x : W11 K H dd s A h) (n : H p = none) (f : Fx [] H H') (e : H' p = some (.lst xs)) : L11 H' A dd p xs := ⟨e, fun m => x.a.there _ m n, fun z => by rw [z, x.d] at n; cases n⟩
end
end Mh
/-! MhWrQ -/
namespace Mh
open PySem PySem.Spec PyProof.Rows L2 LamX
/-- the word of a lambda, asked in a comprehension -/
theorem rd_wordQ {P : Program} {w : World} {K : PySem.W.Frag} {mg : Str → Option Value} {base : Heap} {pn : Pins} {σ : L2.St} {H : Hp} {Q : VK} {i : Nat} {f : Addr} {E : XK} {G : V → Hp → Prop} (hv : σ[i]? = some (some (.ref f)))
    (h : Free H pn → ∀ (Qx : VK) (Ex : XK), (∀ v H', G v H' → Qx v H') → spWordOf P w K mg base [.ref f] (addP pn H) (fun v H' => Qx v (delP pn H')) Ex) (q : ∀ v H', G v H' → Q v H') : tCallQ pn (spWordOf P w K mg base) E (tCons (tVar i) tNil) σ H Q :=
  ⟨_, hv, fun n => h n Q _ q⟩
end Mh
/-! MhXS -/
namespace Mh
open PySem PySem.Spec PyProof.Rows L2
/-! ### need_seed of anything -/
def spNeedSX (K : PySem.W.Frag) (mg : Str → Option Value) : Sp := fun vs H Q E => ∃ v d, vs = [v] ∧ Dp K H v d ∧ (isNum d 0 999 = true → Q .non H) ∧ (isNum d 0 999 = false → ∀ cls e H', Fx [] H H' → Refd K mg "BadSeed" 0 cls e H' → E cls e H')
theorem okx_need_seed_x {P : Program} {w : World} {K : PySem.W.Frag} {mg : Str → Option Value} {base : Heap} (T : Tx K mg) (XD : ExD K) : Def P w K mg base (L2.CX P w) 2 "need_seed" ["seed"] (spNeedSX K mg) := by
  obtain ⟨fd, F⟩ := T.d_need_seed
  have G_is_number := ok_is_number (P := P) (w := w) (base := base) T
  refine ⟨_, fd, F.ok sc_need_seed (fun vs H Q E h => ?_) (fun cdv A outer s H vs Q E hr h => ?_), F.bindsN fun _ _ _ _ _ _ us hl => match us, hl with | [_], _ => rfl, T.g_need_seed, F.kp⟩
  · obtain ⟨v, d, rfl, _⟩ := h
    rfl
  · obtain ⟨v, d, rfl, hd, qn, qx⟩ := h
    have X1 := xt_BadSeed T XD
    refine ⟨_, (pss_one (ps_if (pt_not (pt_val (pe_def G_is_number (hr.mono (by omega)) pass0 (pa_cons (pv 0) (pa_cons pe_int (pa_cons (gC T.c_MOST_SEED) pa_nil))))))
        (pss_one (ps_raise rfl (takes_of rfl rfl rfl rfl) (pmk_txt (xt_BadSeed T XD))))
        pss_nil)), ?_⟩
    refine ⟨_, rfl, ⟨_, _, _, _, rfl, hd, _, rfl, ifB (fun c => ?_) (fun c => ?_)⟩⟩
    · exact qx (by simpa using c) _ _ _ .refl X1.refd
    · exact qn (by simpa using c)
end Mh
/-! MhXAns -/
namespace Mh
open PySem PySem.Spec PyProof.Rows L2
/-! ### answered, refused -/
def ansBad (d qd sd : PyData) : Option (Str × Int) := match machBad d with
  | some r => some ("BadMachine", r)
  | none => if isNum qd 0 9999 = false then some ("BadQuestion", 0) else if isNum sd 0 999 = false then some ("BadSeed", 0) else none
def spAnsX (K : PySem.W.Frag) (mg : Str → Option Value) : Sp := fun vs H Q E => ∃ v d qv qd sv sd x r, vs = [v, qv, sv] ∧ Dp K H v d ∧ Dp K H qv qd ∧ Dp K H sv sd ∧ SeqAt.shaped d = true ∧ ansBad d qd sd = some (x, r) ∧ ∀ cls e H', Fx [] H H' → Refd K mg x r cls e H' → E cls e H'
theorem okx_answered_x {P : Program} {w : World} {K : PySem.W.Frag} {mg : Str → Option Value} {base : Heap} (T : Tx K mg) (XD : ExD K) : DefN P w K mg base (L2.CX P w) 5 "answered" ["machine", "question", "seed"] 2 ["seed"] (spAnsX K mg) := by
  obtain ⟨fd, F⟩ := T.d_answered
  have G_is_number := ok_is_number (P := P) (w := w) (base := base) T
  have GX_need_machine_x := okx_need_machine_x (P := P) (w := w) (base := base) T XD
  have GX_need_seed_x := okx_need_seed_x (P := P) (w := w) (base := base) T XD
  obtain ⟨mv, BN⟩ := F.kbinds0 (ps := ["machine", "question", "seed"]) 2 ["seed"] [] (fun vs _ zs => vs ++ zs) (List.cons_ne_nil _ _) (fun q h => nomatch h) (fun r1 _ r3 => r1.append r3) (fun D doc pm an cdv ct us mv ws l1 l2 l3 => match us, mv, ws, l1, l2, l3 with | [_, _], [], [_], _, _, _ => rfl)
  obtain ⟨ds, hds, BD⟩ := F.binds0 (ps := ["machine", "question", "seed"]) 2 (List.cons_ne_nil _ _) rfl (fun D doc pm an cdv ct us ks l1 l2 => match us, ks, l1, l2 with | [_, _], [_], _, _ => ⟨_, _, _, _, _, _, rfl, rfl, rfl⟩)
  refine ⟨_, fd, _, ds, F.ok sc_answered (fun vs H Q E h => ?_) (fun cdv A outer s H vs Q E hr h => ?_), BN, hds, BD, T.g_answered, F.kp⟩
  · obtain ⟨v, d, qv, qd, sv, sd, x, r, rfl, _⟩ := h
    rfl
  · obtain ⟨v, d, qv, qd, sv, sd, x, r, rfl, hd, hq, hs, hsh, hb, q⟩ := h
    have X1 := xt_BadQuestion T XD
    refine ⟨_, (pss_cons (ps_expr (pe_def GX_need_machine_x (hr.mono (by omega)) (passes_call (takes_of rfl rfl rfl rfl) fun _ _ _ _ h => h) (pa_cons (pv 0) pa_nil)))
        (pss_cons (ps_if (pt_not (pt_val (pe_def G_is_number (hr.mono (by omega)) pass0 (pa_cons (pv 1) (pa_cons pe_int (pa_cons (gC T.c_GREAT) pa_nil))))))
        (pss_one (ps_raise rfl (takes_of rfl rfl rfl rfl) (pmk_txt (xt_BadQuestion T XD))))
        pss_nil)
        (pss_cons (ps_expr (pe_def GX_need_seed_x (hr.mono (by omega)) (passes_call (takes_of rfl rfl rfl rfl) fun _ _ _ _ h => h) (pa_cons (pv 2) pa_nil)))
        pssNever))), ?_⟩
    refine ⟨v, rfl, ⟨v, d, rfl, hd, hsh, fun hok H1 f1 => ?_, fun r1 hr1 cls e H' f R => ?_⟩⟩
    · have hb : (if isNum qd 0 9999 = false then some (("BadQuestion" : Str), (0 : Int)) else if isNum sd 0 999 = false then some ("BadSeed", 0) else none) = some (x, r) := by
        have := hb
        unfold ansBad at this
        rw [hok] at this
        exact this
      refine ⟨_, rfl, ⟨_, _, _, _, rfl, hq.ext f1, _, rfl, ifB (fun c => ?_) (fun c => ?_)⟩⟩
      · rw [if_pos (by simpa using c)] at hb
        cases hb
        exact q _ _ _ f1 X1.refd
      · have c : isNum qd 0 9999 = true := by simpa using c
        rw [if_neg (by rw [c]; exact fun z => nomatch z)] at hb
        refine ⟨_, rfl, ⟨sv, sd, rfl, hs.ext f1, fun c2 => ?_, fun c2 cls e H' f R => ?_⟩⟩
        · rw [if_neg (by rw [c2]; exact fun z => nomatch z)] at hb
          cases hb
        · rw [if_pos c2] at hb
          cases hb
          exact q _ _ _ (f1.trans f) R
    · have hb : some (("BadMachine" : Str), r1) = some (x, r) := by
        have := hb
        unfold ansBad at this
        rw [hr1] at this
        exact this
      cases hb
      exact q _ _ _ f R
end Mh
/-! MhXRight -/
namespace Mh
open PySem PySem.Spec PyProof.Rows L2
/-! ### right, refused -/
def rgtBad (d td sd : PyData) : Option (Str × Int) := match machBad d with
  | some r => some ("BadMachine", r)
  | none => match taskBad td with
    | some r => some ("BadTask", r)
    | none => if isNum sd 0 999 = false then some ("BadSeed", 0) else none
/-- what is refused of a machine, a task, a seed -/
structure RgtX (K : PySem.W.Frag) (mg : Str → Option Value) (H : Hp) (E : XK) (v u sv : V) : Prop where
  ex : ∃ d td sd x r, Dp K H v d ∧ Dp K H u td ∧ Dp K H sv sd ∧ SeqAt.shaped d = true ∧ (∀ t w, td = .tuple [t, w] → SeqAt.shaped t = true) ∧ rgtBad d td sd = some (x, r) ∧ ∀ cls e H', Fx [] H H' → Refd K mg x r cls e H' → E cls e H'
def spRgtX (K : PySem.W.Frag) (mg : Str → Option Value) : Sp := fun vs H Q E => ∃ v u sv, vs = [v, u, sv] ∧ RgtX K mg H E v u sv
theorem okx_right_x {P : Program} {w : World} {K : PySem.W.Frag} {mg : Str → Option Value} {base : Heap} (T : Tx K mg) (XD : ExD K) : DefN P w K mg base (L2.CX P w) 5 "right" ["machine", "task", "seed"] 2 ["seed"] (spRgtX K mg) := by
  obtain ⟨fd, F⟩ := T.d_right
  have GX_need_machine_x := okx_need_machine_x (P := P) (w := w) (base := base) T XD
  have GX_need_task_x := okx_need_task_x (P := P) (w := w) (base := base) T XD
  have GX_need_seed_x := okx_need_seed_x (P := P) (w := w) (base := base) T XD
  obtain ⟨mv, BN⟩ := F.kbinds0 (ps := ["machine", "task", "seed"]) 2 ["seed"] [] (fun vs _ zs => vs ++ zs) (List.cons_ne_nil _ _) (fun q h => nomatch h) (fun r1 _ r3 => r1.append r3) (fun D doc pm an cdv ct us mv ws l1 l2 l3 => match us, mv, ws, l1, l2, l3 with | [_, _], [], [_], _, _, _ => rfl)
  obtain ⟨ds, hds, BD⟩ := F.binds0 (ps := ["machine", "task", "seed"]) 2 (List.cons_ne_nil _ _) rfl (fun D doc pm an cdv ct us ks l1 l2 => match us, ks, l1, l2 with | [_, _], [_], _, _ => ⟨_, _, _, _, _, _, rfl, rfl, rfl⟩)
  refine ⟨_, fd, _, ds, F.ok sc_right (fun vs H Q E h => ?_) (fun cdv A outer s H vs Q E hr h => ?_), BN, hds, BD, T.g_right, F.kp⟩
  · obtain ⟨v, u, sv, rfl, _⟩ := h
    rfl
  · obtain ⟨v, u, sv, rfl, ⟨d, td, sd, x, r, hd, ht, hs, hsh, htsh, hb, q⟩⟩ := h
    refine ⟨_, (pss_cons (ps_expr (pe_def GX_need_machine_x (hr.mono (by omega)) (passes_call (takes_of rfl rfl rfl rfl) fun _ _ _ _ h => h) (pa_cons (pv 0) pa_nil)))
        (pss_cons (ps_expr (pe_def GX_need_task_x (hr.mono (by omega)) (passes_call (takes_of rfl rfl rfl rfl) fun _ _ _ _ h => h) (pa_cons (pv 1) pa_nil)))
        (pss_cons (ps_expr (pe_def GX_need_seed_x (hr.mono (by omega)) (passes_call (takes_of rfl rfl rfl rfl) fun _ _ _ _ h => h) (pa_cons (pv 2) pa_nil)))
        pssNever))), ?_⟩
    unfold rgtBad at hb
    refine ⟨v, rfl, ⟨v, d, rfl, hd, hsh, fun hok H1 f1 => ?_, fun r1 hr1 cls e H' f R => ?_⟩⟩
    · rw [hok] at hb
      refine ⟨u, rfl, ⟨u, td, rfl, ht.ext f1, htsh, fun hok2 H2 f2 => ?_, fun r1 hr1 cls e H' f R => ?_⟩⟩
      · rw [hok2] at hb
        have hb : (if isNum sd 0 999 = false then some (("BadSeed" : Str), (0 : Int)) else none) = some (x, r) := hb
        refine ⟨sv, rfl, ⟨sv, sd, rfl, hs.ext (f1.trans f2), fun c2 => ?_, fun c2 cls e H' f R => ?_⟩⟩
        · rw [if_neg (by rw [c2]; exact fun z => nomatch z)] at hb
          cases hb
        · rw [if_pos c2] at hb
          cases hb
          exact q _ _ _ ((f1.trans f2).trans f) R
      · rw [hr1] at hb
        cases hb
        exact q _ _ _ (f1.trans f) R
    · rw [hr1] at hb
      cases hb
      exact q _ _ _ f R
end Mh
/-! MhXHeart -/
namespace Mh
open PySem PySem.Spec PyProof.Rows L2
theorem okx_heart_x {P : Program} {w : World} {K : PySem.W.Frag} {mg : Str → Option Value} {base : Heap} (T : Tx K mg) (XD : ExD K) : DefN P w K mg base (L2.CX P w) 6 "heart" ["machine", "task", "seed"] 2 ["seed"] (spRgtX K mg) := by
  obtain ⟨fd, F⟩ := T.d_heart
  have GX_right_x := okx_right_x (P := P) (w := w) (base := base) T XD
  obtain ⟨mv, BN⟩ := F.kbinds0 (ps := ["machine", "task", "seed"]) 2 ["seed"] [] (fun vs _ zs => vs ++ zs) (List.cons_ne_nil _ _) (fun q h => nomatch h) (fun r1 _ r3 => r1.append r3) (fun D doc pm an cdv ct us mv ws l1 l2 l3 => match us, mv, ws, l1, l2, l3 with | [_, _], [], [_], _, _, _ => rfl)
  obtain ⟨ds, hds, BD⟩ := F.binds0 (ps := ["machine", "task", "seed"]) 2 (List.cons_ne_nil _ _) rfl (fun D doc pm an cdv ct us ks l1 l2 => match us, ks, l1, l2 with | [_, _], [_], _, _ => ⟨_, _, _, _, _, _, rfl, rfl, rfl⟩)
  refine ⟨_, fd, _, ds, F.ok sc_heart (fun vs H Q E h => ?_) (fun cdv A outer s H vs Q E hr h => ?_), BN, hds, BD, T.g_heart, F.kp⟩
  · obtain ⟨v, u, sv, rfl, _⟩ := h
    rfl
  · obtain ⟨v, u, sv, rfl, R⟩ := h
    refine ⟨_, (pss_cons (ps_set (i := 3) sc_heart.nd rfl (by first | exact Or.inl rfl | exact Or.inr rfl) (pe_defN GX_right_x (hr.mono (by omega)) (passes_call (takes_of rfl rfl rfl rfl) fun _ _ _ _ h => h) (pa_cons (pv 0) (pa_cons (pv 1) pa_nil)) (pk_cons (pv 2) pk_nil)))
        pssNever), ?_⟩
    exact ⟨v, rfl, u, rfl, sv, rfl, rfl, rfl, ⟨v, u, sv, rfl, R⟩⟩
end Mh
/-! MhXScore -/
namespace Mh
open PySem PySem.Spec PyProof.Rows L2
theorem okx_score_x {P : Program} {w : World} {K : PySem.W.Frag} {mg : Str → Option Value} {base : Heap} (T : Tx K mg) (XD : ExD K) : DefN P w K mg base (L2.CX P w) 6 "score" ["machine", "task", "seed"] 2 ["seed"] (spRgtX K mg) := by
  obtain ⟨fd, F⟩ := T.d_score
  have GX_right_x := okx_right_x (P := P) (w := w) (base := base) T XD
  obtain ⟨mv, BN⟩ := F.kbinds0 (ps := ["machine", "task", "seed"]) 2 ["seed"] [] (fun vs _ zs => vs ++ zs) (List.cons_ne_nil _ _) (fun q h => nomatch h) (fun r1 _ r3 => r1.append r3) (fun D doc pm an cdv ct us mv ws l1 l2 l3 => match us, mv, ws, l1, l2, l3 with | [_, _], [], [_], _, _, _ => rfl)
  obtain ⟨ds, hds, BD⟩ := F.binds0 (ps := ["machine", "task", "seed"]) 2 (List.cons_ne_nil _ _) rfl (fun D doc pm an cdv ct us ks l1 l2 => match us, ks, l1, l2 with | [_, _], [_], _, _ => ⟨_, _, _, _, _, _, rfl, rfl, rfl⟩)
  refine ⟨_, fd, _, ds, F.ok sc_score (fun vs H Q E h => ?_) (fun cdv A outer s H vs Q E hr h => ?_), BN, hds, BD, T.g_score, F.kp⟩
  · obtain ⟨v, u, sv, rfl, _⟩ := h
    rfl
  · obtain ⟨v, u, sv, rfl, R⟩ := h
    refine ⟨_, (pss_one (ps_ret (pe_callB call_len_seq (by rfl) T.f_len (by decide +kernel) (pa_cons (pe_defN GX_right_x (hr.mono (by omega)) (passes_call (takes_of rfl rfl rfl rfl) fun _ _ _ _ h => h) (pa_cons (pv 0) (pa_cons (pv 1) pa_nil)) (pk_cons (pv 2) pk_nil)) pa_nil)))), ?_⟩
    exact ⟨v, rfl, u, rfl, sv, rfl, rfl, rfl, ⟨v, u, sv, rfl, R⟩⟩
end Mh
/-! MhXTk -/
namespace Mh
open PySem PySem.Spec PyProof.Rows L2
/-! ### need_name of anything -/
def nameB : PyData → Bool
  | .str n => decide (1 ≤ n.length) && (decide (n.length ≤ 6) && n.cps.toList.all fun c => decide (c ∈ letters))
  | _ => false
theorem nameB_ok {n : Str} (h : NameOk n) : nameB (.str n) = true := by
  show (decide (1 ≤ n.length) && (decide (n.length ≤ 6) && n.cps.toList.all fun c => decide (c ∈ letters))) = true
  rw [decide_eq_true h.l1, decide_eq_true h.l6, Bool.true_and, Bool.true_and, List.all_eq_true]
  exact fun c m => decide_eq_true (h.az c m)
theorem nameB_inv {d : PyData} (h : nameB d = true) : ∃ n, d = .str n ∧ NameOk n := by
  cases d with
  | str n =>
    have h : (decide (1 ≤ n.length) && (decide (n.length ≤ 6) && n.cps.toList.all fun c => decide (c ∈ letters))) = true := h
    rw [Bool.and_eq_true, Bool.and_eq_true, List.all_eq_true] at h
    exact ⟨n, rfl, of_decide_eq_true h.1, of_decide_eq_true h.2.1, fun c m => of_decide_eq_true (h.2.2 c m)⟩
  | _ => cases h
def spNeedNX (K : PySem.W.Frag) (mg : Str → Option Value) : Sp := fun vs H Q E => ∃ v nd, vs = [v] ∧ Dp K H v nd ∧ (∀ n, nd = .str n → n.length ≤ 1000) ∧ (nameB nd = true → ∀ H', Fx [] H H' → Q .non H') ∧ (nameB nd = false → Rfs K mg "BadName" 0 H E)
theorem okx_need_name_x {P : Program} {w : World} {K : PySem.W.Frag} {mg : Str → Option Value} {base : Heap} (T : Tx K mg) (XD : ExD K) : Def P w K mg base (L2.CX P w) 1 "need_name" ["name"] (spNeedNX K mg) := by
  obtain ⟨fd, F⟩ := T.d_need_name
  refine ⟨_, fd, F.ok sc_need_name (fun vs H Q E h => ?_) (fun cdv A outer s H vs Q E hr h => ?_), F.bindsN fun _ _ _ _ _ _ us hl => match us, hl with | [_], _ => rfl, T.g_need_name, F.kp⟩
  · obtain ⟨v, nd, rfl, _⟩ := h
    rfl
  · obtain ⟨v, nd, rfl, hv, hl, qn, qx⟩ := h
    have X1 := xt_BadName T XD
    refine ⟨_, (pss_one (ps_if (PW.pt (pw_or (pt_not (pt_val (pe_callB call_isiD (by rfl) T.f_isinstance (by decide +kernel) (pa_cons (pv 0) (pa_cons (gT (n := "str") T.f_str) pa_nil))))) (pw_or (pt_not (pt_chain op_le op_le pe_int (pe_callB call_len_str (by rfl) T.f_len (by decide +kernel) (pa_cons (pv 0) pa_nil)) (gC T.c_MOST_NAME))) (pw_or1 (pt_not (pt_val (pe_callB (cr_all rfl) (by rfl) T.f_all (by decide +kernel) (pa_cons (pe_lc (own := [("sign", 1)]) (g := (gName 1)) (tt := tYes) rfl sc_need_name.nd (pi_str (pv 0)) (blkOk_by (own := [("sign", 1)]) (N := ["name", "sign"]) (sc := defScope s_need_name) (by decide +kernel)) (fun _ _ _ _ _ => pg_name (i := 1) sc_need_name.nd rfl (by first | exact Or.inl rfl | exact Or.inr rfl)) (fun _ _ _ _ _ => pts_nil) (fun _ _ _ _ _ => (pe_cmpR op_inS (pv 1) (gS T.s_LETTERS) (by rfl)))) pa_nil))))))))
        (pss_one (ps_raise rfl (takes_of rfl rfl rfl rfl) (pmk_txt (xt_BadName T XD))))
        pss_nil)), ?_⟩
    refine rd_isD rfl (by decide) hv ⟨_, rfl, ?_⟩
    cases nd with
    | str n =>
      cases hv
      have hn := hl n rfl
      have hs : n.length ≤ sizeLine := Nat.le_trans hn (by decide)
      have hsz : n.cps.size = n.length := rfl
      have bad : (1 ≤ n.length → n.length ≤ 6 → (n.cps.toList.all fun c => decide (c ∈ letters)) = false) → nameB (.str n) = false := fun z => by
        show (decide (1 ≤ n.length) && (decide (n.length ≤ 6) && n.cps.toList.all fun c => decide (c ∈ letters))) = false
        by_cases c1 : 1 ≤ n.length
        · by_cases c2 : n.length ≤ 6
          · rw [z c1 c2, Bool.and_false, Bool.and_false]
          · rw [decide_eq_false c2, Bool.false_and, Bool.and_false]
        · rw [decide_eq_false c1, Bool.false_and]
      refine ifF rfl ?_
      refine ⟨_, rfl, n, rfl, hs, _, _, rfl, rfl, _, rfl, ifB (fun c => ⟨_, _, rfl, rfl, _, rfl, ifB (fun c2 => ?_) (fun c2 => ?_)⟩) (fun c => ?_)⟩
      · exact qx (bad fun _ h6 => absurd (show (n.length : Int) ≤ 6 by omega) (by simpa using c2)) _ _ _ .refl X1.refd
      · have c1 : 1 ≤ n.length := by have : (1 : Int) ≤ n.length := of_decide_eq_true c; omega
        have c6 : n.length ≤ 6 := by have : (n.length : Int) ≤ 6 := by simpa using c2
                                     omega
        refine ⟨_, rfl, n, rfl, fun D hD => lc_map walk_str (fun i => .bl (decide (n.cps.toList.getD i 0 ∈ letters))) (by rw [hsz]; omega) hD (fun _ _ => trivial) (fun _ _ _ _ y => by rw [y.1]; exact .refl) (fun i x H2 H3 Qe Z hi f y k => ?_) (fun H2 f hL => ?_)⟩
        · obtain ⟨rfl, c, hc, rfl⟩ := y
          have ec : n.cps.toList.getD i 0 = c := getD_of (by rw [Array.getElem?_toList]; exact hc)
          rw [ec] at k
          exact ⟨rfl, ifT rfl ⟨_, rfl, c, _, rfl, rfl, k _ .refl⟩⟩
        · have eA : (((List.range n.cps.size).map fun i => decide (n.cps.toList.getD i 0 ∈ letters)).all id) = n.cps.toList.all fun c => decide (c ∈ letters) := by
            rw [List.all_map]
            have e1 : n.cps.toList = (List.range n.cps.size).map fun i => n.cps.toList.getD i 0 := by
              refine List.ext_getElem (by rw [List.length_map, List.length_range, Array.length_toList]) fun i h1 h2 => ?_
              rw [List.getElem_map, List.getElem_range, List.getD_eq_getElem?_getD, List.getElem?_eq_getElem h1]
              rfl
            rw [show (n.cps.toList.all fun c => decide (c ∈ letters)) = (((List.range n.cps.size).map fun i => n.cps.toList.getD i 0).all fun c => decide (c ∈ letters)) from by rw [← e1], List.all_map]
            rfl
          refine ⟨D, (List.range n.cps.size).map fun i => decide (n.cps.toList.getD i 0 ∈ letters), rfl, SqL.of (by rw [hL, List.map_map]; rfl), ?_⟩
          rw [eA]
          refine ⟨_, rfl, ifB (fun c3 => ?_) (fun c3 => ?_)⟩
          · exact qx (bad fun _ _ => by simpa using c3) _ _ _ f X1.refd
          · refine qn ?_ _ f
            show (decide (1 ≤ n.length) && (decide (n.length ≤ 6) && n.cps.toList.all fun c => decide (c ∈ letters))) = true
            rw [decide_eq_true c1, decide_eq_true c6]
            simpa using c3
      · refine ⟨_, rfl, ifT rfl (qx (bad fun h1 _ => by have z := of_decide_eq_false c; exact absurd (by omega) z) _ _ _ .refl X1.refd)⟩
    | _ => exact ifT rfl (qx rfl _ _ _ .refl X1.refd)
/-! ### a task, a machine, a run, refused -/
def taskRef (h : HallM) (nd td : PyData) : Option (Str × Int) := if nameB nd = false then some ("BadName", 0) else match taskBad td with
  | some r => some ("BadTask", r)
  | none => if inA h.goals nd = false ∧ h.goals.length = 4 then some ("TooMany", 0) else none
def spTaskX (K : PySem.W.Frag) (mg : Str → Option Value) : Sp := fun vs H Q E => ∃ (A : HA) (d : Int) (h : HallM) (v u : V) (nd td : PyData) (x : Str) (r : Int), vs = [.ref A.a, v, u] ∧ HallAt K H A d h ∧ Dp K H v nd ∧ Dp K H u td ∧ (∀ n, nd = .str n → n.length ≤ 1000) ∧ (∀ t w, td = .tuple [t, w] → SeqAt.shaped t = true) ∧
  taskRef h nd td = some (x, r) ∧ Rfs K mg x r H E
theorem dp_str {K : PySem.W.Frag} {H : Hp} {v : V} {n : Str} (h : Dp K H v (.str n)) : v = .str n := by cases h; rfl
theorem okx_Hall_task_x {P : Program} {w : World} {K : PySem.W.Frag} {mg : Str → Option Value} {base : Heap} (T : Tx K mg) (XD : ExD K) : MDef P w K mg base (L2.CX P w) 7 "Hall" "task" ["self", "name", "task"] (spTaskX K mg) := by
  obtain ⟨fd, F⟩ := T.d_Hall_task
  have GX_need_name_x := okx_need_name_x (P := P) (w := w) (base := base) T XD
  have GX_need_task_x := okx_need_task_x (P := P) (w := w) (base := base) T XD
  refine ⟨_, fd, F.ok sc_Hall_task (fun vs H Q E h => ?_) (fun cdv A outer s H vs Q E hr h => ?_), F.bindsN fun _ _ _ _ _ _ us hl => match us, hl with | [_, _, _], _ => rfl, T.k_Hall, T.m_Hall_task⟩
  · obtain ⟨A, d, h, v, u, nd, td, x, r, rfl, _⟩ := h
    rfl
  · obtain ⟨A, d, h, v, u, nd, td, x, r, rfl, ha, hv, hu, hl, hsh, hb, q⟩ := h
    have X1 := xt_TooMany T XD
    refine ⟨_, (pss_cons (ps_expr (pe_def GX_need_name_x (hr.mono (by omega)) (passes_call (takes_of rfl rfl rfl rfl) fun _ _ _ _ h => h) (pa_cons (pv 1) pa_nil)))
        (pss_cons (ps_expr (pe_def GX_need_task_x (hr.mono (by omega)) (passes_call (takes_of rfl rfl rfl rfl) fun _ _ _ _ h => h) (pa_cons (pv 2) pa_nil)))
        (pss_cons (ps_if (PW.pt (pw_and (pt_cmp (pc_dnotin (hu_of hr) (pv 1) (pe_fld (pv 0) rfl))) (pw_and1 (pt_cmpR op_eq (pe_callB call_lenD (by rfl) T.f_len (by decide +kernel) (pa_cons (pe_fld (pv 0) rfl) pa_nil)) (gC T.c_MOST_TASKS) (nomark _)))))
        (pss_one (ps_raise rfl (takes_of rfl rfl rfl rfl) (pmk_txt (xt_TooMany T XD))))
        pss_nil)
        pssNever))), ?_⟩
    unfold taskRef at hb
    refine ⟨_, rfl, v, nd, rfl, hv, hl, fun hn H1 f1 => ?_, fun hn => by rw [if_pos hn] at hb; cases hb; exact q⟩
    rw [if_neg (by rw [hn]; decide)] at hb
    refine ⟨_, rfl, u, td, rfl, hu.ext f1, hsh, fun ht H2 f2 => ?_, fun r1 hr1 => by rw [hr1] at hb; cases hb; exact q.up f1⟩
    rw [ht] at hb
    have hb : (if inA h.goals nd = false ∧ h.goals.length = 4 then some (("TooMany" : Str), (0 : Int)) else none) = some (x, r) := hb
    have f12 := f1.trans f2
    have ha2 := ha.up f12
    obtain ⟨n, rfl, hno⟩ := nameB_inv hn
    obtain rfl := dp_str hv
    obtain ⟨gk, g1, g2⟩ := ha2.g
    have hgl : gk.length = h.goals.length := by rw [g2.len]; unfold goalsD; rw [List.length_map]
    by_cases c : inA h.goals (.str n) = false ∧ h.goals.length = 4
    · rw [if_pos c] at hb
      cases hb
      have e : (h.goals.lookup n).isSome = false := c.1
      refine ⟨_, rfl, _, rfl, A.a, _, _, _, _, rfl, ha2.i.i, T.k_Hall, T.n_Hall_goals, rfl, A.g, _, rfl, DGet.k (k := .inr n) g1, _, rfl, ?_⟩
      rw [goal_isSome (n := n) g2, e]
      refine ⟨_, rfl, A.a, _, _, _, _, rfl, ha2.i.i, T.k_Hall, T.n_Hall_goals, rfl, A.g, gk, rfl, g1, rd_eqI ⟨_, rfl, ifT ?_ (q _ _ _ f12 X1.refd)⟩⟩
      rw [hgl, c.2]
      rfl
    · rw [if_neg c] at hb
      cases hb
def machRef (h : HallM) (nd md : PyData) : Option (Str × Int) := if nameB nd = false then some ("BadName", 0) else match machBad md with
  | some r => some ("BadMachine", r)
  | none => if inA h.players nd = true then some ("Taken", 0) else if h.players.length = 6 then some ("TooMany", 0) else none
def spMachX (K : PySem.W.Frag) (mg : Str → Option Value) : Sp := fun vs H Q E => ∃ (A : HA) (d : Int) (h : HallM) (v u : V) (nd md : PyData) (x : Str) (r : Int), vs = [.ref A.a, v, u] ∧ HallAt K H A d h ∧ Dp K H v nd ∧ Dp K H u md ∧ (∀ n, nd = .str n → n.length ≤ 1000) ∧ SeqAt.shaped md = true ∧
  machRef h nd md = some (x, r) ∧ Rfs K mg x r H E
theorem okx_Hall_machine_x {P : Program} {w : World} {K : PySem.W.Frag} {mg : Str → Option Value} {base : Heap} (T : Tx K mg) (XD : ExD K) : MDef P w K mg base (L2.CX P w) 7 "Hall" "machine" ["self", "name", "machine"] (spMachX K mg) := by
  obtain ⟨fd, F⟩ := T.d_Hall_machine
  have GX_need_name_x := okx_need_name_x (P := P) (w := w) (base := base) T XD
  have GX_need_machine_x := okx_need_machine_x (P := P) (w := w) (base := base) T XD
  refine ⟨_, fd, F.ok sc_Hall_machine (fun vs H Q E h => ?_) (fun cdv A outer s H vs Q E hr h => ?_), F.bindsN fun _ _ _ _ _ _ us hl => match us, hl with | [_, _, _], _ => rfl, T.k_Hall, T.m_Hall_machine⟩
  · obtain ⟨A, d, h, v, u, nd, td, x, r, rfl, _⟩ := h
    rfl
  · obtain ⟨A, d, h, v, u, nd, md, x, r, rfl, ha, hv, hu, hl, hsh, hb, q⟩ := h
    have X1 := xt_TooMany T XD
    have X2 := xt_Taken T XD
    refine ⟨_, (pss_cons (ps_expr (pe_def GX_need_name_x (hr.mono (by omega)) (passes_call (takes_of rfl rfl rfl rfl) fun _ _ _ _ h => h) (pa_cons (pv 1) pa_nil)))
        (pss_cons (ps_expr (pe_def GX_need_machine_x (hr.mono (by omega)) (passes_call (takes_of rfl rfl rfl rfl) fun _ _ _ _ h => h) (pa_cons (pv 2) pa_nil)))
        (pss_cons (ps_if (pt_cmp (pc_din (hu_of hr) (pv 1) (pe_fld (pv 0) rfl)))
        (pss_one (ps_raise rfl (takes_of rfl rfl rfl rfl) (pmk_txt (xt_Taken T XD))))
        pss_nil)
        (pss_cons (ps_if (pt_cmpR op_eq (pe_callB call_lenD (by rfl) T.f_len (by decide +kernel) (pa_cons (pe_fld (pv 0) rfl) pa_nil)) (gC T.c_MOST_MACHINES) (nomark _))
        (pss_one (ps_raise rfl (takes_of rfl rfl rfl rfl) (pmk_txt (xt_TooMany T XD))))
        pss_nil)
        pssNever)))), ?_⟩
    unfold machRef at hb
    refine ⟨_, rfl, v, nd, rfl, hv, hl, fun hn H1 f1 => ?_, fun hn => by rw [if_pos hn] at hb; cases hb; exact q⟩
    rw [if_neg (by rw [hn]; decide)] at hb
    refine ⟨_, rfl, u, md, rfl, hu.ext f1, hsh, fun ht H2 f2 => ?_, fun r1 hr1 => by rw [hr1] at hb; cases hb; exact q.up f1⟩
    rw [ht] at hb
    have hb : (if inA h.players nd = true then some (("Taken" : Str), (0 : Int)) else if h.players.length = 6 then some ("TooMany", 0) else none) = some (x, r) := hb
    have f12 := f1.trans f2
    have ha2 := ha.up f12
    obtain ⟨n, rfl, hno⟩ := nameB_inv hn
    obtain rfl := dp_str hv
    obtain ⟨pk, p1, p2⟩ := ha2.p
    have hpl := rd_len4 ha2 p1 p2
    refine ⟨_, rfl, _, rfl, A.a, _, _, _, _, rfl, ha2.i.i, T.k_Hall, T.n_Hall_players, rfl, A.p, _, rfl, DGet.k (k := .inr n) p1, _, rfl, ?_⟩
    rw [player_isSome p2]
    refine ifB (fun c => ?_) (fun c => ?_)
    · rw [if_pos (show inA h.players (.str n) = true from c)] at hb
      cases hb
      exact q _ _ _ f12 X2.refd
    · rw [if_neg (show ¬ inA h.players (.str n) = true from fun z => by have z2 : (h.players.lookup n).isSome = true := z; rw [c] at z2; cases z2)] at hb
      by_cases c6 : h.players.length = 6
      · rw [if_pos c6] at hb
        cases hb
        refine ⟨_, rfl, A.a, _, _, _, _, rfl, ha2.i.i, T.k_Hall, T.n_Hall_players, rfl, A.p, pk, rfl, p1, rd_eqI ⟨_, rfl, ifT ?_ (q _ _ _ f12 X1.refd)⟩⟩
        rw [hpl, c6]
        rfl
      · rw [if_neg c6] at hb
        cases hb
end Mh
/-! MhXWr -/
namespace Mh
open PySem PySem.Spec PyProof.Rows L2
theorem sc_written : FnScope ["machine", "test", "answer"] ["machine"] (defScope s_written) := ⟨rfl, rfl, rfl, by decide +kernel, rfl, by decide +kernel, by decide +kernel⟩
def spWrX (K : PySem.W.Frag) (mg : Str → Option Value) : Sp := fun vs H Q E => ∃ v d r, vs = [v] ∧ Dp K H v d ∧ SeqAt.shaped d = true ∧ machBad d = some r ∧ ∀ cls e H', Fx [] H H' → Refd K mg "BadMachine" r cls e H' → E cls e H'
theorem okx_written_x {P : Program} {w : World} {K : PySem.W.Frag} {mg : Str → Option Value} {base : Heap} (T : Tx K mg) (XD : ExD K) : Def P w K mg base (L2.CX P w) 6 "written" ["machine"] (spWrX K mg) := by
  obtain ⟨fd, F⟩ := T.d_written
  have GX_need_machine_x := okx_need_machine_x (P := P) (w := w) (base := base) T XD
  refine ⟨_, fd, F.ok sc_written (fun vs H Q E h => ?_) (fun cdv A outer s H vs Q E hr h => ?_), F.bindsN fun _ _ _ _ _ _ us hl => match us, hl with | [_], _ => rfl, T.g_written, F.kp⟩
  · obtain ⟨v, d, r, rfl, _⟩ := h
    rfl
  · obtain ⟨v, d, r, rfl, hd, hsh, hb, q⟩ := h
    refine ⟨_, (pss_cons (ps_expr (pe_def GX_need_machine_x (hr.mono (by omega)) (passes_call (takes_of rfl rfl rfl rfl) fun _ _ _ _ h => h) (pa_cons (pv 0) pa_nil)))
        pssNever), ?_⟩
    refine ⟨v, rfl, ⟨v, d, rfl, hd, hsh, fun hok => ?_, fun r1 hr1 cls e H' f R => ?_⟩⟩
    · rw [hok] at hb
      cases hb
    · rw [hr1] at hb
      cases hb
      exact q _ _ _ f R
end Mh
/-! MhLaw01 -/
namespace Mh
open PySem PySem.Spec PyProof.Rows L2 LamX
abbrev lawLevel : Nat := 20
def spLaw (K : PySem.W.Frag) : Sp := fun vs H Q _ => ∃ (a : Addr) (ns : List Int), vs = [.ref a] ∧ SqL K H a (ns.map V.int) ∧ ns.length ≤ 63 ∧ LamX.Tabs (tdT K) H ∧ ∀ H', Q (.bl true) H'
theorem n1x {H : Hp} {d : Addr} (h : H d ≠ none) : ∀ z ∈ [d], H z ≠ none := fun z m => by rw [List.mem_singleton.mp m]; exact h
theorem sc_law : FnScope ["_law_script", "_law_d", "_law_machine_here", "_law_at", "_law_far", "_law_tests", "_law_answers", "_law_odd", "_law_bad", "_law_hall", "_law_works", "_law_full", "_law_test_here", "_law_answer_here", "_law_work"] ["_law_script"] (defScope s_law) := ⟨rfl, rfl, rfl, by decide +kernel, rfl, by decide +kernel, by decide +kernel⟩
theorem ok_law {P : Program} {w : World} {K : PySem.W.Frag} {mg : Str → Option Value} {base : Heap} (T : Tx K mg) (XD : ExD K) (TL : TabL K mg base) {fd : FuncData} (F : FunD K "law" "law" (defArgs s_law) (defBody s_law) (defScope s_law) [] [] (He.fAd K ("law", none)) fd) : FnOk P w K mg base CX0 lawLevel (He.fAd K ("law", none)) fd ["_law_script"] (spLaw K) := by
  have G__law_dice := ok_l_dice (P := P) (w := w) (base := base) T
  have G__law_machine := ok_l_machine (P := P) (w := w) (base := base) T
  have G__law_off := ok_l_off (P := P) (w := w) (base := base) T
  have G__law_are := ok_l_are (P := P) (w := w) (base := base) T
  have G_answered := ok_answered (P := P) (w := w) (base := base) T
  have G__law_word_of := ok_l_word_of (P := P) (w := w) (base := base) T
  have M_Hall_init := ok_Hall_init (P := P) (w := w) (base := base) T
  have M_Hall_deeds := ok_Hall_deeds (P := P) (w := w) (base := base) T
  have GX_answered_x := okx_answered_x (P := P) (w := w) (base := base) T XD
  have GX_written_x := okx_written_x (P := P) (w := w) (base := base) T XD
  have GX_right_x := okx_right_x (P := P) (w := w) (base := base) T XD
  have GX_score_x := okx_score_x (P := P) (w := w) (base := base) T XD
  have GX_heart_x := okx_heart_x (P := P) (w := w) (base := base) T XD
  have MX_Hall_machine_x := okx_Hall_machine_x (P := P) (w := w) (base := base) T XD
  have TB := TL.tb ("law", none) (by decide)
  have hmT : ((He.cT K ("law", none)).2, ("law" : PySem.Str) ++ ".<locals>." ++ "<lambda>") ∈ tdT K := List.mem_cons_self
  have huT : ∀ p ∈ tdT K, p.1 = (He.cT K ("law", none)).2 → p.2 = ("law" : PySem.Str) ++ ".<locals>." ++ "<lambda>" := fun p hp _ => by rw [List.mem_singleton.mp hp]
  refine okC F sc_law (fun vs H Q E h => ?_) (fun A outer s H vs Q E hr h => ?_)
  · obtain ⟨a, ns, rfl, _⟩ := h
    rfl
  · obtain ⟨a, ns, rfl, hS, hlen, hT0, q⟩ := h
    refine ⟨_, PSs.nox (pss_cons (ps_set (i := 1) sc_law.nd rfl (by first | exact Or.inl rfl | exact Or.inr rfl) (pe_def G__law_dice (hr.mono (by omega)) pass0 (pa_cons (pv 0) (pa_cons pe_int pa_nil))))
        (pss_cons (ps_set (i := 2) sc_law.nd rfl (by first | exact Or.inl rfl | exact Or.inr rfl) (pe_def G__law_machine (hr.mono (by omega)) pass0 (pa_cons (pv 1) pa_nil)))
        (pss_cons (ps_set (i := 3) sc_law.nd rfl (by first | exact Or.inl rfl | exact Or.inr rfl) (pe_def G__law_off (hr.mono (by omega)) pass0 (pa_cons (pv 1) (pa_cons (pe_op op_add (pe_callB call_len_seq (by rfl) T.f_len (by decide +kernel) (pa_cons (pv 2) pa_nil)) pe_int) pa_nil))))
        (pss_cons (ps_set (i := 4) sc_law.nd rfl (by first | exact Or.inl rfl | exact Or.inr rfl) (pe_ix ix_list (pe_lst (pa_cons pe_int (pa_cons (pe_def G__law_off (hr.mono (by omega)) pass0 (pa_cons (pv 1) (pa_cons (pe_op op_pow pe_int pe_int) pa_nil))) pa_nil))) (pe_def G__law_off (hr.mono (by omega)) pass0 (pa_cons (pv 1) (pa_cons pe_int pa_nil))) (fun _ _ => rfl)))
        (pss_cons (ps_set (i := 5) sc_law.nd rfl (by first | exact Or.inl rfl | exact Or.inr rfl) (pe_lit (K := K) (pds_cons (pd_tup pds_nil) (pds_cons (pd_tup (pds_cons (pd_c pe_str (fun _ => .str _) rfl) (pds_cons (pd_c pe_int (fun _ => .int _) rfl) pds_nil))) (pds_cons (pd_tup (pds_cons (pd_c pe_str (fun _ => .str _) rfl) (pds_cons (pd_ofi (pdi_add (pdi_c pe_int) (pdi_var (pv 4)))) pds_nil))) (pds_cons (pd_tup (pds_cons (pd_c pe_str (fun _ => .str _) rfl) (pds_cons (pd_ofi (pdi_sub (pdi_neg (pdi_c pe_int)) (pdi_var (pv 4)))) pds_nil))) (pds_cons (pd_tup (pds_cons (pd_c pe_str (fun _ => .str _) rfl) pds_nil)) (pds_cons (pd_tup (pds_cons (pd_c pe_str (fun _ => .str _) rfl) (pds_cons (pd_c pe_int (fun _ => .int _) rfl) (pds_cons (pd_c pe_int (fun _ => .int _) rfl) pds_nil)))) pds_nil))))))))
        (pss_cons (ps_expr (pe_bm PySem.F.plainAttrs_list PySem.F.slot_list_append PySem.F.type_list_append mt_append (pv 5) (pa_cons (PD.run (K := K) (pd_tup (pds_cons (pd_c pe_str (fun _ => .str _) rfl) (pds_cons (pd_ofi (pdi_add (pdi_c pe_int) (pdi_var (pv 4)))) (pds_cons (pd_c pe_int (fun _ => .int _) rfl) pds_nil))))) pa_nil)))
        (pss_cons (ps_set (i := 5) sc_law.nd rfl (by first | exact Or.inl rfl | exact Or.inr rfl) (pe_op op_cat (pv 5) (pe_lit (K := K) (pds_cons (pd_tup (pds_cons (pd_c pe_str (fun _ => .str _) rfl) (pds_cons (pd_c pe_int (fun _ => .int _) rfl) (pds_cons (pd_ofi (pdi_add (pdi_c pe_int) (pdi_var (pv 4)))) pds_nil)))) (pds_cons (pd_tup (pds_cons (pd_c pe_str (fun _ => .str _) rfl) (pds_cons (pd_c pe_int (fun _ => .int _) rfl) (pds_cons (pd_ofi (pdi_sub (pdi_neg (pdi_c pe_int)) (pdi_var (pv 4)))) pds_nil)))) (pds_cons (pd_tup (pds_cons (pd_c pe_str (fun _ => .str _) rfl) (pds_cons (pd_c pe_int (fun _ => .int _) rfl) pds_nil))) (pds_cons (pd_tup (pds_cons (pd_c pe_str (fun _ => .str _) rfl) (pds_cons (pd_tup pds_nil) pds_nil))) (pds_cons (pd_tup (pds_cons (pd_c pe_str (fun _ => .str _) rfl) (pds_cons (pd_tup (pds_cons (pd_c pe_int (fun _ => .int _) rfl) (pds_cons (pd_c pe_int (fun _ => .int _) rfl) pds_nil))) pds_nil))) pds_nil))))))))
        (pss_cons (ps_set (i := 5) sc_law.nd rfl (by first | exact Or.inl rfl | exact Or.inr rfl) (pe_op op_cat (pv 5) (pe_lit (K := K) (pds_cons (pd_tup (pds_cons (pd_c pe_str (fun _ => .str _) rfl) (pds_cons (pd_tup (pds_cons (pd_c pe_int (fun _ => .int _) rfl) (pds_cons (pd_c pe_int (fun _ => .int _) rfl) pds_nil))) pds_nil))) (pds_cons (pd_tup (pds_cons (pd_c pe_str (fun _ => .str _) rfl) (pds_cons (pd_tupRg 0 9 (pe_tupRg rfl (by rfl) T.f_tuple (prg_1 (by rfl) T.f_range pe_int)) (fun _ _ _ k => ⟨_, rfl, k⟩) (RgOk.of_le (by decide) (by decide) (by decide) (by decide))) pds_nil))) (pds_cons (pd_tup (pds_cons (pd_c pe_str (fun _ => .str _) rfl) (pds_cons (pd_c pe_int (fun _ => .int _) rfl) pds_nil))) (pds_cons (pd_tup (pds_cons (pd_c pe_str (fun _ => .str _) rfl) (pds_cons (pd_tup (pds_cons (pd_ofi (pdi_add (pdi_c pe_int) (pdi_var (pv 4)))) pds_nil)) pds_nil))) (pds_cons (pd_tup (pds_cons (pd_c pe_str (fun _ => .str _) rfl) pds_nil)) pds_nil))))))))
        (pss_cons (ps_set (i := 5) sc_law.nd rfl (by first | exact Or.inl rfl | exact Or.inr rfl) (pe_op op_cat (pv 5) (pe_lit (K := K) (pds_cons (pd_c pe_int (fun _ => .int _) rfl) (pds_cons (pd_c pe_non (fun _ => .non) rfl) (pds_cons (pd_c pe_str (fun _ => .str _) rfl) (pds_cons (pd_tup (pds_cons (pd_c pe_str (fun _ => .str _) rfl) pds_nil)) (pds_cons (pd_tup (pds_cons (pd_c pe_str (fun _ => .str _) rfl) (pds_cons (pd_c pe_bl (fun _ => .bl _) rfl) pds_nil))) (pds_cons (pd_tup (pds_cons (pd_c pe_str (fun _ => .str _) rfl) (pds_cons (pd_c pe_int (fun _ => .int _) rfl) (pds_cons (pd_c pe_non (fun _ => .non) rfl) pds_nil)))) (pds_cons (pd_tup (pds_cons (pd_c pe_str (fun _ => .str _) rfl) (pds_cons (pd_lst (pds_cons (pd_c pe_int (fun _ => .int _) rfl) pds_nil)) pds_nil))) (pds_cons (pd_tup (pds_cons (pd_c pe_str (fun _ => .str _) rfl) (pds_cons (pd_tup (pds_cons (pd_c pe_bl (fun _ => .bl _) rfl) pds_nil)) pds_nil))) pds_nil)))))))))))
        (pss_cons (ps_set (i := 6) sc_law.nd rfl (by first | exact Or.inl rfl | exact Or.inr rfl) (pe_lit (K := K) (pds_cons (pd_tup pds_nil) (pds_cons (pd_tup (pds_cons (pd_c pe_str (fun _ => .str _) rfl) (pds_cons (pd_ofi (pdi_add (pdi_c pe_int) (pdi_var (pv 4)))) pds_nil))) (pds_cons (pd_tup (pds_cons (pd_c pe_str (fun _ => .str _) rfl) (pds_cons (pd_ofi (pdi_sub (pdi_neg (pdi_c pe_int)) (pdi_var (pv 4)))) pds_nil))) (pds_cons (pd_tup (pds_cons (pd_c pe_str (fun _ => .str _) rfl) pds_nil)) (pds_cons (pd_tup (pds_cons (pd_c pe_str (fun _ => .str _) rfl) (pds_cons (pd_c pe_bl (fun _ => .bl _) rfl) pds_nil))) (pds_cons (pd_tup (pds_cons (pd_c pe_str (fun _ => .str _) rfl) (pds_cons (pd_c pe_non (fun _ => .non) rfl) pds_nil))) (pds_cons (pd_tup (pds_cons (pd_c pe_str (fun _ => .str _) rfl) (pds_cons (pd_c pe_int (fun _ => .int _) rfl) pds_nil))) pds_nil)))))))))
        (pss_cons (ps_set (i := 6) sc_law.nd rfl (by first | exact Or.inl rfl | exact Or.inr rfl) (pe_op op_cat (pv 6) (pe_lit (K := K) (pds_cons (pd_tup (pds_cons (pd_c pe_str (fun _ => .str _) rfl) (pds_cons (pd_ofi (pdi_add (pdi_c pe_int) (pdi_var (pv 4)))) pds_nil))) (pds_cons (pd_tup (pds_cons (pd_c pe_str (fun _ => .str _) rfl) (pds_cons (pd_c pe_int (fun _ => .int _) rfl) pds_nil))) (pds_cons (pd_tup (pds_cons (pd_c pe_str (fun _ => .str _) rfl) pds_nil)) (pds_cons (pd_c pe_int (fun _ => .int _) rfl) (pds_cons (pd_c pe_non (fun _ => .non) rfl) (pds_cons (pd_c pe_str (fun _ => .str _) rfl) (pds_cons (pd_tup (pds_cons (pd_c pe_str (fun _ => .str _) rfl) (pds_cons (pd_c pe_int (fun _ => .int _) rfl) pds_nil))) (pds_cons (pd_tup (pds_cons (pd_c pe_str (fun _ => .str _) rfl) (pds_cons (pd_c pe_int (fun _ => .int _) rfl) (pds_cons (pd_c pe_int (fun _ => .int _) rfl) pds_nil)))) pds_nil)))))))))))
        (pss_cons (ps_set (i := 7) sc_law.nd rfl (by first | exact Or.inl rfl | exact Or.inr rfl) (pe_op op_cat (pe_lc (own := [("_law_test_here", 12)]) (g := (gName 12)) (tt := tYes) rfl sc_law.nd (pi_list (pv 5)) (blkOk_by (own := [("_law_test_here", 12)]) (N := ["_law_script", "_law_d", "_law_machine_here", "_law_at", "_law_far", "_law_tests", "_law_answers", "_law_odd", "_law_bad", "_law_hall", "_law_works", "_law_full", "_law_test_here", "_law_answer_here", "_law_work"]) (sc := defScope s_law) (by decide +kernel)) (fun _ _ _ _ _ => pg_name (i := 12) sc_law.nd rfl (by first | exact Or.inl rfl | exact Or.inr rfl)) (fun _ _ _ _ _ => pts_nil) (fun _ _ _ _ _ => (pe_tup (pa_cons (pv 12) (pa_cons (pe_tup (pa_cons pe_str pa_nil)) pa_nil))))) (pe_lc (own := [("_law_answer_here", 13)]) (g := (gName 13)) (tt := tYes) rfl sc_law.nd (pi_list (pv 6)) (blkOk_by (own := [("_law_answer_here", 13)]) (N := ["_law_script", "_law_d", "_law_machine_here", "_law_at", "_law_far", "_law_tests", "_law_answers", "_law_odd", "_law_bad", "_law_hall", "_law_works", "_law_full", "_law_test_here", "_law_answer_here", "_law_work"]) (sc := defScope s_law) (by decide +kernel)) (fun _ _ _ _ _ => pg_name (i := 13) sc_law.nd rfl (by first | exact Or.inl rfl | exact Or.inr rfl)) (fun _ _ _ _ _ => pts_nil) (fun _ _ _ _ _ => (pe_tup (pa_cons (pe_tup (pa_cons pe_str pa_nil)) (pa_cons (pv 13) pa_nil)))))))
        (pss_cons (ps_set (i := 7) sc_law.nd rfl (by first | exact Or.inl rfl | exact Or.inr rfl) (pe_op op_cat (pv 7) (pe_lit (K := K) (pds_cons (pd_tup pds_nil) (pds_cons (pd_tup (pds_cons (pd_tup (pds_cons (pd_c pe_str (fun _ => .str _) rfl) pds_nil)) pds_nil)) (pds_cons (pd_tup (pds_cons (pd_tup (pds_cons (pd_c pe_str (fun _ => .str _) rfl) pds_nil)) (pds_cons (pd_tup (pds_cons (pd_c pe_str (fun _ => .str _) rfl) pds_nil)) (pds_cons (pd_c pe_int (fun _ => .int _) rfl) pds_nil)))) (pds_cons (pd_c pe_int (fun _ => .int _) rfl) (pds_cons (pd_c pe_non (fun _ => .non) rfl) (pds_cons (pd_lst (pds_cons (pd_tup (pds_cons (pd_c pe_str (fun _ => .str _) rfl) pds_nil)) (pds_cons (pd_tup (pds_cons (pd_c pe_str (fun _ => .str _) rfl) pds_nil)) pds_nil))) pds_nil)))))))))
        (pss_cons (ps_set (i := 8) sc_law.nd rfl (by first | exact Or.inl rfl | exact Or.inr rfl) (pe_slice (ksl_tupAny (K := K) rfl) (pe_op (kop_catAny (K := K) rfl) (pe_op (kop_catAny (K := K) rfl) (pe_slice (ksl_tupAny (K := K) rfl) (pv 2) po_none (po_some (pv 3))) (pe_tup (pa_cons (pe_ix ix_list (pv 7) (pe_def G__law_off (hr.mono (by omega)) pass0 (pa_cons (pv 1) (pa_cons (pe_callB call_len_seq (by rfl) T.f_len (by decide +kernel) (pa_cons (pv 7) pa_nil)) pa_nil))) (fun _ _ => rfl)) pa_nil))) (pe_slice (ksl_tupAny (K := K) rfl) (pv 2) (po_some (pv 3)) po_none)) po_none (po_some pe_int)))
        (Evl.pss_cut (ps_if (PW.pt (pw_or (pt_cmpR op_eq (pv 3) pe_int (nomark _)) (pw_or1 (pt_cmpR op_eq (pe_def G__law_off (hr.mono (by omega)) pass0 (pa_cons (pv 1) (pa_cons pe_int pa_nil))) pe_int (nomark _)))))
        (pss_one (ps_asg (pe_tup (pa_cons (pe_slice (ksl_tupAny (K := K) rfl) (pe_op op_repT (pv 2) pe_int) po_none (po_some (pe_op op_add pe_int (pe_def G__law_off (hr.mono (by omega)) pass0 (pa_cons (pv 1) (pa_cons pe_int pa_nil)))))) (pa_cons pe_int pa_nil))) (pg_tup rfl (pgs_cons (pg_name (i := 8) sc_law.nd rfl (by first | exact Or.inl rfl | exact Or.inr rfl)) (pgs_cons (pg_name (i := 3) sc_law.nd rfl (by first | exact Or.inl rfl | exact Or.inr rfl)) pgs_nil)))))
        pss_nil)
        (Evl.pss_cut (ps_if (pt_cmpR op_eq (pe_def G__law_off (hr.mono (by omega)) pass0 (pa_cons (pv 1) (pa_cons pe_int pa_nil))) pe_int (nomark _))
        (pss_one (ps_asg (pe_tup (pa_cons (pe_ix ix_list (pe_lit (K := K) (pds_cons (pd_tup pds_nil) (pds_cons (pd_lst pds_nil) (pds_cons (pd_c pe_int (fun _ => .int _) rfl) (pds_cons (pd_c pe_non (fun _ => .non) rfl) (pds_cons (pd_c pe_str (fun _ => .str _) rfl) (pds_cons (pd_listOf (pe_callTy call_list_of (by rfl) T.f_list (by decide +kernel) (pa_cons (pv 2) pa_nil))) pds_nil))))))) (pe_def G__law_off (hr.mono (by omega)) pass0 (pa_cons (pv 1) (pa_cons pe_int pa_nil))) (fun _ _ => rfl)) (pa_cons (pe_un un_neg pe_int) pa_nil))) (pg_tup rfl (pgs_cons (pg_name (i := 8) sc_law.nd rfl (by first | exact Or.inl rfl | exact Or.inr rfl)) (pgs_cons (pg_name (i := 3) sc_law.nd rfl (by first | exact Or.inl rfl | exact Or.inr rfl)) pgs_nil)))))
        pss_nil)
        (pss_cons (ps_set (i := 9) sc_law.nd rfl (by first | exact Or.inl rfl | exact Or.inr rfl) (pe_mdmk0 M_Hall_init (hr.mono (by omega)) pass0))
        (pss_cons (ps_set (i := 10) sc_law.nd rfl (by first | exact Or.inl rfl | exact Or.inr rfl) (pe_lst (pa_cons (pe_lam0 (k := 14) (fr := ["_law_bad"]) TB rfl hmT huT (by kernel_rfl) (NdefX.nscope_by (by decide +kernel)) ⟨rfl, fun _ _ _ _ _ _ => rfl, fun z => absurd rfl z⟩ rfl (fun cl f c' A outer s H E hr => (pe_defN GX_answered_x (hr.mono (by omega)) (passes_call (takes_of rfl rfl rfl rfl) fun _ _ _ _ h => h) (pa_cons (pv 0) (pa_cons (pe_un un_neg pe_int) pa_nil)) (pk_cons (pe_un un_neg pe_int) pk_nil)))) (pa_cons (pe_lam1 (k := 14) (x := "_law_a") (fr := ["_law_bad"]) TB rfl hmT huT (by kernel_rfl) (NdefX.nscope_by (by decide +kernel)) ⟨rfl, (fun z => nomatch z), fun _ T q cl pm cv ct us hl => match us, hl with | [u], _ => ⟨_, rfl, rfl⟩⟩ rfl pe_int (fun cl f c' A outer s H E hr => (pe_def GX_written_x (hr.mono (by omega)) (passes_call (takes_of rfl rfl rfl rfl) fun _ _ _ _ h => h) (pa_cons (pv 1) pa_nil)))) (pa_cons (pe_lam1 (k := 14) (x := "_law_b") (fr := ["_law_bad"]) TB rfl hmT huT (by kernel_rfl) (NdefX.nscope_by (by decide +kernel)) ⟨rfl, (fun z => nomatch z), fun _ T q cl pm cv ct us hl => match us, hl with | [u], _ => ⟨_, rfl, rfl⟩⟩ rfl pe_int (fun cl f c' A outer s H E hr => (pe_defN GX_right_x (hr.mono (by omega)) (passes_call (takes_of rfl rfl rfl rfl) fun _ _ _ _ h => h) (pa_cons (pv 1) (pa_cons pe_int pa_nil)) (pk_cons (pe_un un_neg pe_int) pk_nil)))) pa_nil)))))
        (pss_cons (ps_set (i := 10) sc_law.nd rfl (by first | exact Or.inl rfl | exact Or.inr rfl) (pe_op op_cat (pv 10) (pe_lst (pa_cons (pe_lam1 (k := 14) (x := "_law_c") (fr := ["_law_bad"]) TB rfl hmT huT (by kernel_rfl) (NdefX.nscope_by (by decide +kernel)) ⟨rfl, (fun z => nomatch z), fun _ T q cl pm cv ct us hl => match us, hl with | [u], _ => ⟨_, rfl, rfl⟩⟩ rfl pe_int (fun cl f c' A outer s H E hr => (pe_defD GX_score_x (hr.mono (by omega)) (passes_call (takes_of rfl rfl rfl rfl) fun _ _ _ _ h => h) (pa_cons (pv 1) (pa_cons pe_int pa_nil))))) (pa_cons (pe_lam1 (k := 14) (x := "_law_e") (fr := ["_law_bad"]) TB rfl hmT huT (by kernel_rfl) (NdefX.nscope_by (by decide +kernel)) ⟨rfl, (fun z => nomatch z), fun _ T q cl pm cv ct us hl => match us, hl with | [u], _ => ⟨_, rfl, rfl⟩⟩ rfl pe_int (fun cl f c' A outer s H E hr => (pe_defD GX_heart_x (hr.mono (by omega)) (passes_call (takes_of rfl rfl rfl rfl) fun _ _ _ _ h => h) (pa_cons (pv 1) (pa_cons pe_int pa_nil))))) (pa_cons (pe_lam1 (k := 14) (x := "_law_f") (fr := ["_law_bad", "_law_hall"]) TB rfl hmT huT (by kernel_rfl) (NdefX.nscope_by (by decide +kernel)) ⟨rfl, (fun z => nomatch z), fun _ T q cl pm cv ct us hl => match us, hl with | [u], _ => ⟨_, rfl, rfl⟩⟩ rfl pe_int (fun cl f c' A outer s H E hr => (kpe_mdef (K := K) rfl MX_Hall_machine_x (hr.mono (by omega)) (passes_call (takes_of rfl rfl rfl rfl) fun _ _ _ _ h => h) (pv 2) (pa_cons pe_str (pa_cons (pv 1) pa_nil))))) pa_nil))))))
        (pss_cons (ps_if (pt_cmpR (op_neD hr.units) (pe_lcP (own := [("_law_work", 14)]) (g := (gName 14)) (tt := _) (caps := [("_law_bad", 8), ("_law_hall", 9)]) rfl rfl rfl sc_law.nd (pi_list (pv 10)) (blkOk_by (own := [("_law_work", 14)]) (N := ["_law_script", "_law_d", "_law_machine_here", "_law_at", "_law_far", "_law_tests", "_law_answers", "_law_odd", "_law_bad", "_law_hall", "_law_works", "_law_full", "_law_test_here", "_law_answer_here", "_law_work"]) (sc := defScope s_law) (by decide +kernel)) (fun _ _ _ _ _ => pg_name (i := 14) sc_law.nd rfl (by first | exact Or.inl rfl | exact Or.inr rfl)) (fun pn _ _ _ _ _ hb => pts_one (pt_cmpR (kop_neD (K := K) rfl hr.units) (pe_defQ (pn := pn) G__law_word_of (hr.mono (by omega)) (fun _ _ _ _ I => pin_blk hb I) (pa_cons (pv 14) pa_nil)) (pe_tup (pa_cons pe_str (pa_cons (pv 3) pa_nil))) (nomark _))) (fun _ _ _ _ _ _ => (pv 14)) (fun _ => rfl) (by kernel_rfl)) (pe_lst pa_nil) (nomark _))
        (pss_one (ps_ret pe_bl))
        pss_nil)
        (pss_cons (ps_set (i := 11) sc_law.nd rfl (by first | exact Or.inl rfl | exact Or.inr rfl) (PD.run (K := K) (pd_tup (pds_cons (pd_tup (pds_cons (pd_tup (pds_cons (pd_c pe_str (fun _ => .str _) rfl) (pds_cons (pd_c pe_int (fun _ => .int _) rfl) (pds_cons (pd_c pe_int (fun _ => .int _) rfl) pds_nil)))) (pds_cons (pd_tup (pds_cons (pd_c pe_str (fun _ => .str _) rfl) (pds_cons (pd_c pe_int (fun _ => .int _) rfl) pds_nil))) pds_nil))) (pds_cons (pd_tup (pds_cons (pd_tup (pds_cons (pd_c pe_str (fun _ => .str _) rfl) (pds_cons (pd_tupRg 9992 10000 (pe_tupRg rfl (by rfl) T.f_tuple (prg_2 (by rfl) T.f_range pe_int pe_int)) (fun _ _ _ k => ⟨_, _, rfl, rfl, k⟩) (RgOk.of_le (by decide) (by decide) (by decide) (by decide))) pds_nil))) (pds_cons (pd_tup (pds_cons (pd_c pe_str (fun _ => .str _) rfl) (pds_cons (pd_ofi (pdi_neg (pdi_c pe_int))) pds_nil))) pds_nil))) pds_nil)))))
        (pss_cons (ps_set (i := 11) sc_law.nd rfl (by first | exact Or.inl rfl | exact Or.inr rfl) (pe_op op_repT (pe_op (kop_catAny (K := K) rfl) (pv 11) (PD.run (K := K) (pd_tup (pds_cons (pd_tup (pds_cons (pd_tup (pds_cons (pd_c pe_str (fun _ => .str _) rfl) (pds_cons (pd_c pe_int (fun _ => .int _) rfl) pds_nil))) (pds_cons (pd_tup (pds_cons (pd_c pe_str (fun _ => .str _) rfl) (pds_cons (pd_c pe_int (fun _ => .int _) rfl) pds_nil))) pds_nil))) pds_nil)))) pe_int))
        (pss_cons (ps_if (pt_not (pt_val (pe_defP (caps := [("_law_bad", 8), ("_law_hall", 9)]) G__law_are (hr.mono (by omega)) (fun _ => rfl) (by kernel_rfl) (pa_cons (pe_lst (pa_cons (pe_lam0 (k := 14) (fr := ["_law_bad", "_law_hall"]) TB rfl hmT huT (by kernel_rfl) (NdefX.nscope_by (by decide +kernel)) ⟨rfl, fun _ _ _ _ _ _ => rfl, fun z => absurd rfl z⟩ rfl (fun cl f c' A outer s H E hr => (kpe_mdef (K := K) rfl MX_Hall_machine_x (hr.mono (by omega)) (passes_call (takes_of rfl rfl rfl rfl) fun _ _ _ _ h => h) (pv 1) (pa_cons pe_str (pa_cons (pv 0) pa_nil))))) pa_nil)) (pa_cons pe_str pa_nil)))))
        (pss_one (ps_ret pe_bl))
        pss_nil)
        (pss_one (ps_ret (pe_and (pe_cmpR op_eq (pe_defD G_answered (hr.mono (by omega)) pass0 (pa_cons (pv 11) (pa_cons pe_int pa_nil))) (pe_un un_neg pe_int) (nomark _)) (pe_one (pe_cmpR (op_eqD hr.units) (pe_mdef0 M_Hall_deeds (hr.mono (by omega)) pass0 (pv 9)) (pe_lst pa_nil) (nomark _))))))))))))))))))))))))))))), ?_⟩
    refine ⟨_, rfl, ⟨a, ns, 0, rfl, hS, hlen, ⟨by decide, by decide⟩, fun H1 dd f1 hn hd => ?_⟩⟩
    have D0 : Dc dd H1 H1 (diceOf 0 ns) := ⟨.refl, hd, diceOf_ok ⟨by decide, by decide⟩ hlen⟩
    have hT1 := Tabs.fx hT0 f1
    refine ⟨_, rfl, ⟨dd, _, rfl, D0.h, D0.ok, fun H4 vm D4 km => ?_⟩⟩
    have hm := gMach_ok D0.ok
    generalize (gMach (diceOf 0 ns)).1 = m at hm km
    generalize (gMach (diceOf 0 ns)).2 = st4 at D4
    obtain ⟨tb, xs, rfl, htb, hxs⟩ := km.tupI
    have hxl : xs.length = m.length := by rw [hxs.len, List.length_map]
    have hml := hm.len
    have hmn : 0 < m.length := List.length_pos_iff.mpr hm.ne
    -- where
    refine ⟨.ref dd, rfl, _, rfl, tb, _, rfl, .inr htb, _, _, rfl, rfl, dd, st4, (xs.length : Int) + 1, rfl, D4.h, D4.ok, by omega, by omega, ?_⟩
    have ra := off_range st4 (n := (xs.length : Int) + 1) (by omega)
    have f6 : Fx [dd] H4 (upd H4 dd (.lst (off st4 ((xs.length : Int) + 1)).2.l)) := Fx.set List.mem_cons_self (Chg.lst D4.h)
    have D6 : Dc dd H1 (upd H4 dd (.lst (off st4 ((xs.length : Int) + 1)).2.l)) (off st4 ((xs.length : Int) + 1)).2 := ⟨D4.f.trans f6, upd_same, off_ok D4.ok _⟩
    generalize upd H4 dd (.lst (off st4 ((xs.length : Int) + 1)).2.l) = H6 at D6 f6 ⊢
    generalize (off st4 ((xs.length : Int) + 1)).2 = st6 at D6
    generalize (off st4 ((xs.length : Int) + 1)).1 = av at ra ⊢
    obtain ⟨ai, rfl⟩ := Int.eq_ofNat_of_zero_le ra.1
    have hai : ai ≤ m.length := by omega
    refine rd_far rfl D6 fun H7 st7 far D7 f7 hf0 hf1 => ?_
    have f67 := f6.trans f7
    have hq7 : SqT K H7 tb xs := f67.sqT htb
    have hx7 := hxs.mv f67 (rows_nol m)
    clear f6 f7 f67 D6 D4 hxs htb km
    -- odd tests
    refine ⟨t1 far, ?_, fun Ha vsa pa fa ha0 ha1 ka => ?_⟩
    · repeat' first | rfl | refine ⟨_, rfl, ?_⟩ | refine ⟨_, _, rfl, ?_, ?_⟩
    dsimp only [gName]
    refine ⟨_, rfl, .inl ⟨rfl, _, SqL.of ha1⟩, t1b far, ?_, fun Hb vd fb kd => ⟨pa, _, _, rfl, rfl, fb.to ha1 (fun z => nomatch z), ltL (m := 6) (show vsa.length = 6 from ka.len) (by decide), ?_⟩⟩
    · repeat' first | rfl | refine ⟨_, rfl, ?_⟩ | refine ⟨_, _, rfl, ?_, ?_⟩
    have kx : DpAll K Hb (vsa ++ [vd]) (t1 far ++ [t1b far]) := DpAll.app (ka.up fb).dp (.cons kd.dp .nil)
    have fe : Fx [pa] Hb (upd Hb pa (.lst (vsa ++ [vd]))) := Fx.set List.mem_cons_self (Chg.lst (fb.to ha1 fun z => nomatch z))
    have g0 : Fx [] H7 (upd Hb pa (.lst (vsa ++ [vd]))) := (fa.trans fb).loc ha0 (Chg.lst (fb.to ha1 fun z => nomatch z))
    have k0 : DpFA K H7 (upd Hb pa (.lst (vsa ++ [vd]))) (vsa ++ [vd]) (t1 far ++ [t1b far]) := DpFA.ofN (kx.mv fe (by rfl)) (by rfl)
    have h0 : upd Hb pa (.lst (vsa ++ [vd])) pa = some (.lst (vsa ++ [vd])) := upd_same
    generalize vsa ++ [vd] = vs0 at g0 k0 h0 ⊢
    generalize upd Hb pa (.lst vs0) = Hc at g0 k0 h0 ⊢
    clear kx fe ka kd fa fb ha0 ha1
    dsimp only [gName]
    refine ⟨_, rfl, t2 far, ?_, fun Hd1 vse1 pe1 fe he0 he1 ke => ?_⟩
    · repeat' first | rfl | refine ⟨_, rfl, ?_⟩ | refine ⟨_, _, rfl, ?_, ?_⟩
    refine ⟨pa, pe1, vs0, vse1, rfl, rfl, fe.to h0 (fun z => nomatch z), he1, by rw [k0.len, ke.len]; show 7 + 5 ≤ sizeLine; decide, fun pf1 hpf => ?_⟩
    have ff : Fx [] Hd1 (upd Hd1 pf1 (.lst (vs0 ++ vse1))) := Fx.new hpf
    have g1 : Fx [] H7 (upd Hd1 pf1 (.lst (vs0 ++ vse1))) := g0.trans (fe.trans ff)
    have k1 : DpFA K H7 (upd Hd1 pf1 (.lst (vs0 ++ vse1))) (vs0 ++ vse1) ((t1 far ++ [t1b far]) ++ t2 far) := (k0.up (fe.trans ff)).app ((ke.since g0).up ff)
    have h1 : upd Hd1 pf1 (.lst (vs0 ++ vse1)) pf1 = some (.lst (vs0 ++ vse1)) := upd_same
    generalize vs0 ++ vse1 = vs1 at g1 k1 h1 ⊢
    generalize upd Hd1 pf1 (.lst vs1) = Hc1 at g1 k1 h1 ⊢
    clear ke he0 he1 fe ff hpf g0 k0 h0
    dsimp only [gName]
    refine ⟨_, rfl, t3 far, ?_, fun Hd2 vse2 pe2 fe he0 he1 ke => ?_⟩
    · repeat' first | rfl | refine ⟨_, rfl, ?_⟩ | refine ⟨_, _, rfl, ?_, ?_⟩
    refine ⟨pf1, pe2, vs1, vse2, rfl, rfl, fe.to h1 (fun z => nomatch z), he1, by rw [k1.len, ke.len]; show 12 + 5 ≤ sizeLine; decide, fun pf2 hpf => ?_⟩
    have ff : Fx [] Hd2 (upd Hd2 pf2 (.lst (vs1 ++ vse2))) := Fx.new hpf
    have g2 : Fx [] H7 (upd Hd2 pf2 (.lst (vs1 ++ vse2))) := g1.trans (fe.trans ff)
    have k2 : DpFA K H7 (upd Hd2 pf2 (.lst (vs1 ++ vse2))) (vs1 ++ vse2) (((t1 far ++ [t1b far]) ++ t2 far) ++ t3 far) := (k1.up (fe.trans ff)).app ((ke.since g1).up ff)
    have h2 : upd Hd2 pf2 (.lst (vs1 ++ vse2)) pf2 = some (.lst (vs1 ++ vse2)) := upd_same
    generalize vs1 ++ vse2 = vs2 at g2 k2 h2 ⊢
    generalize upd Hd2 pf2 (.lst vs2) = Hc2 at g2 k2 h2 ⊢
    clear ke he0 he1 fe ff hpf g1 k1 h1
    dsimp only [gName]
    refine ⟨_, rfl, t4, ?_, fun Hd3 vse3 pe3 fe he0 he1 ke => ?_⟩
    · repeat' first | rfl | refine ⟨_, rfl, ?_⟩ | refine ⟨_, _, rfl, ?_, ?_⟩
    refine ⟨pf2, pe3, vs2, vse3, rfl, rfl, fe.to h2 (fun z => nomatch z), he1, by rw [k2.len, ke.len]; show 17 + 8 ≤ sizeLine; decide, fun pf3 hpf => ?_⟩
    have ff : Fx [] Hd3 (upd Hd3 pf3 (.lst (vs2 ++ vse3))) := Fx.new hpf
    have g3 : Fx [] H7 (upd Hd3 pf3 (.lst (vs2 ++ vse3))) := g2.trans (fe.trans ff)
    have k3 : DpFA K H7 (upd Hd3 pf3 (.lst (vs2 ++ vse3))) (vs2 ++ vse3) ((((t1 far ++ [t1b far]) ++ t2 far) ++ t3 far) ++ t4) := (k2.up (fe.trans ff)).app ((ke.since g2).up ff)
    have h3 : upd Hd3 pf3 (.lst (vs2 ++ vse3)) pf3 = some (.lst (vs2 ++ vse3)) := upd_same
    generalize vs2 ++ vse3 = vs3 at g3 k3 h3 ⊢
    generalize upd Hd3 pf3 (.lst vs3) = Hc3 at g3 k3 h3 ⊢
    clear ke he0 he1 fe ff hpf g2 k2 h2
    have k3 : DpFA K H7 Hc3 vs3 (tests1 far) := k3
    have l3 : vs3.length = 25 := k3.len
    -- odd answers
    dsimp only [gName]
    refine ⟨a1 far, ?_, fun Ha vsa qa fa ha0 ha1 ka => ?_⟩
    · repeat' first | rfl | refine ⟨_, rfl, ?_⟩ | refine ⟨_, _, rfl, ?_, ?_⟩
    dsimp only [gName]
    refine ⟨_, rfl, a2 far, ?_, fun Hd vse pe fe he0 he1 ke => ?_⟩
    · repeat' first | rfl | refine ⟨_, rfl, ?_⟩ | refine ⟨_, _, rfl, ?_, ?_⟩
    refine ⟨qa, pe, vsa, vse, rfl, rfl, fe.to ha1 (fun z => nomatch z), he1, by rw [ka.len, ke.len]; show 7 + 8 ≤ sizeLine; decide, fun qf hqf => ?_⟩
    have ff : Fx [] Hd (upd Hd qf (.lst (vsa ++ vse))) := Fx.new hqf
    have fae := fa.trans (fe.trans ff)
    have k4 : DpFA K H7 (upd Hd qf (.lst (vsa ++ vse))) (vsa ++ vse) (answers1 far) := ((ka.since g3).up (fe.trans ff)).app ((ke.since (g3.trans fa)).up ff)
    have h4 : upd Hd qf (.lst (vsa ++ vse)) qf = some (.lst (vsa ++ vse)) := upd_same
    have l4 : (vsa ++ vse).length = 15 := k4.len
    have k3 := k3.up fae
    have h3 := fae.to h3 fun z => nomatch z
    have g4 := g3.trans fae
    generalize vsa ++ vse = vs4 at g4 k3 k4 h3 h4 l4 ⊢
    generalize upd Hd qf (.lst vs4) = H8 at g4 k3 k4 h3 h4 ⊢
    clear ke he0 he1 fe ff hqf fae fa ka ha0 ha1 g3
    dsimp only [gName]
    -- odd rows by tests
    refine ⟨_, rfl, pf3, rfl, ⟨_, SqL.of h3⟩, fun D hD => lc_rel (walk_list (xs := vs3)) (fun i acc H' => Fx [] H8 H' ∧ ∀ (M : List Addr) (H2 : Hp), (∀ z ∈ M, H7 z ≠ none ∨ H8 z = none) → Fx M H' H2 → DpAll K H2 acc (((tests1 far).take i).map withNone)) ⟨Fx.new hD, fun _ _ _ _ => .nil⟩ (fun i acc H' r => SqL.of (r.1.to h3 fun z => nomatch z)) (fun i acc x H3 H4 hi hl hDa r y => ?_) (fun acc H3 hl hDa r => ?_)⟩
    · obtain ⟨rfl, hx⟩ := y
      obtain ⟨g5, ka⟩ := r
      obtain ⟨d, hd, kd⟩ := k3.get hx
      refine ⟨rfl, rd_yes ⟨_, rfl, by show 1 ≤ sizeLine; decide, fun p0 hp0 => ⟨by show 2 ≤ sizeLine; decide, fun p hp => ?_⟩⟩⟩
      have g40 : Fx [] H4 (upd H4 p0 (.tup [.str "none"])) := Fx.new hp0
      have g41 : Fx [] (upd H4 p0 (.tup [.str "none"])) (upd (upd H4 p0 (.tup [.str "none"])) p (.tup [x, .ref p0])) := Fx.new hp
      have g4' := g40.trans g41
      have hp0' := g41.t _ _ (upd_same (H := H4) (a := p0) (o := .tup [.str "none"]))
      have hp' : upd (upd H4 p0 (.tup [.str "none"])) p (.tup [x, .ref p0]) p = some (.tup [x, .ref p0]) := upd_same
      generalize upd (upd H4 p0 (.tup [.str "none"])) p (.tup [x, .ref p0]) = H6 at g4' hp0' hp' ⊢
      have hD4 := g4'.to hDa fun z => nomatch z
      have gD : Fx [D] H6 (upd H6 D (.lst (acc ++ [.ref p]))) := Fx.set List.mem_cons_self (Chg.lst hD4)
      refine Put.ok hl (by omega) hD4 ⟨(g5.trans g4').loc hD (Chg.lst hD4), fun M H2 hM f => ?_⟩
      have fM : Fx (D :: M) H4 H2 := (g4'.nil.trans (gD.mono fun z m => by rw [List.mem_singleton.mp m]; exact List.mem_cons_self)).trans (f.mono fun z m => List.mem_cons_of_mem _ m)
      have hM2 : ∀ z ∈ D :: M, H7 z ≠ none ∨ H8 z = none := fun z m => by
        rcases List.mem_cons.mp m with rfl | m
        · exact .inr hD
        · exact hM z m
      rw [List.take_add_one, hd, List.map_append]
      refine (ka (D :: M) H2 hM2 fM).snoc ?_
      exact .tup (f.sqT (gD.sqT (SqT.of hp'))) (.cons (kd.but (g5.nil.trans fM) hM2) (.cons (.tup (f.sqT (gD.sqT (SqT.of hp0'))) (.cons (.str _) .nil)) .nil))
    obtain ⟨g5, ka⟩ := r
    rw [l3, show (tests1 far).take 25 = tests1 far from rfl] at ka
    have kA : DpFA K H7 H3 acc ((tests1 far).map withNone) := fun M H2 hM f => ka M H2 (fun z m => .inl (hM z m)) f
    have hA := hDa
    have lA : acc.length = 25 := kA.len
    have g8 := g4.trans g5
    have k4 := k4.up g5
    have h4 := g5.to h4 fun z => nomatch z
    clear k3 h3 ka g5 hl hDa hD g4
    -- odd rows by answers
    refine ⟨_, rfl, qf, rfl, ⟨_, SqL.of h4⟩, fun D2 hD => lc_rel (walk_list (xs := vs4)) (fun i acc H' => Fx [] H3 H' ∧ ∀ (M : List Addr) (H2 : Hp), (∀ z ∈ M, H7 z ≠ none ∨ H3 z = none) → Fx M H' H2 → DpAll K H2 acc (((answers1 far).take i).map withAny)) ⟨Fx.new hD, fun _ _ _ _ => .nil⟩ (fun i acc H' r => SqL.of (r.1.to h4 fun z => nomatch z)) (fun i acc2 x H5 H4 hi hl hDa r y => ?_) (fun acc2 H5 hl hDa r => ?_)⟩
    · obtain ⟨rfl, hx⟩ := y
      obtain ⟨g5, ka⟩ := r
      obtain ⟨d, hd, kd⟩ := k4.get hx
      refine ⟨rfl, rd_yes ⟨by show 1 ≤ sizeLine; decide, fun p0 hp0 => ⟨_, rfl, by show 2 ≤ sizeLine; decide, fun p hp => ?_⟩⟩⟩
      have g40 : Fx [] H4 (upd H4 p0 (.tup [.str "any"])) := Fx.new hp0
      have g41 : Fx [] (upd H4 p0 (.tup [.str "any"])) (upd (upd H4 p0 (.tup [.str "any"])) p (.tup [.ref p0, x])) := Fx.new hp
      have g4' := g40.trans g41
      have hp0' := g41.t _ _ (upd_same (H := H4) (a := p0) (o := .tup [.str "any"]))
      have hp' : upd (upd H4 p0 (.tup [.str "any"])) p (.tup [.ref p0, x]) p = some (.tup [.ref p0, x]) := upd_same
      generalize upd (upd H4 p0 (.tup [.str "any"])) p (.tup [.ref p0, x]) = H6 at g4' hp0' hp' ⊢
      have hD4 := g4'.to hDa fun z => nomatch z
      have gD : Fx [D2] H6 (upd H6 D2 (.lst (acc2 ++ [.ref p]))) := Fx.set List.mem_cons_self (Chg.lst hD4)
      refine Put.ok hl (by omega) hD4 ⟨(g5.trans g4').loc hD (Chg.lst hD4), fun M H2 hM f => ?_⟩
      have fM : Fx (D2 :: M) H4 H2 := (g4'.nil.trans (gD.mono fun z m => by rw [List.mem_singleton.mp m]; exact List.mem_cons_self)).trans (f.mono fun z m => List.mem_cons_of_mem _ m)
      have hM2 : ∀ z ∈ D2 :: M, H7 z ≠ none ∨ H3 z = none := fun z m => by
        rcases List.mem_cons.mp m with rfl | m
        · exact .inr hD
        · exact hM z m
      rw [List.take_add_one, hd, List.map_append]
      refine (ka (D2 :: M) H2 hM2 fM).snoc ?_
      exact .tup (f.sqT (gD.sqT (SqT.of hp'))) (.cons (.tup (f.sqT (gD.sqT (SqT.of hp0'))) (.cons (.str _) .nil)) (.cons (kd.but (g5.nil.trans fM) hM2) .nil))
    obtain ⟨g5, ka⟩ := r
    rw [l4, show (answers1 far).take 15 = answers1 far from rfl] at ka
    have kB : DpFA K H7 H5 acc2 ((answers1 far).map withAny) := fun M H2 hM f => ka M H2 (fun z m => .inl (hM z m)) f
    have lB : acc2.length = 15 := kB.len
    have kA := kA.up g5
    have hA := g5.to hA fun z => nomatch z
    have g9 := g8.trans g5
    clear k4 h4 ka g5 hl hD g8
    refine ⟨D, D2, acc, acc2, rfl, rfl, hA, hDa, by rw [lA, lB]; decide, fun pf0 hpf => ?_⟩
    have ff : Fx [] H5 (upd H5 pf0 (.lst (acc ++ acc2))) := Fx.new hpf
    have g0 : Fx [] H7 (upd H5 pf0 (.lst (acc ++ acc2))) := g9.trans ff
    have k0 : DpFA K H7 (upd H5 pf0 (.lst (acc ++ acc2))) (acc ++ acc2) ((tests1 far).map withNone ++ (answers1 far).map withAny) := (kA.up ff).app (kB.up ff)
    have h0 : upd H5 pf0 (.lst (acc ++ acc2)) pf0 = some (.lst (acc ++ acc2)) := upd_same
    generalize acc ++ acc2 = vs0 at g0 k0 h0 ⊢
    generalize upd H5 pf0 (.lst vs0) = Hc0 at g0 k0 h0 ⊢
    clear ff hpf kA kB hA hDa g9 lA lB
    dsimp only [gName]
    refine ⟨_, rfl, o3, ?_, fun Hd1 vse1 pe1 fe he0 he1 ke => ?_⟩
    · repeat' first | rfl | refine ⟨_, rfl, ?_⟩ | refine ⟨_, _, rfl, ?_, ?_⟩
    refine ⟨pf0, pe1, vs0, vse1, rfl, rfl, fe.to h0 (fun z => nomatch z), he1, by rw [k0.len, ke.len]; show 40 + 6 ≤ sizeLine; decide, fun po hpf => ?_⟩
    have ff : Fx [] Hd1 (upd Hd1 po (.lst (vs0 ++ vse1))) := Fx.new hpf
    have g9 : Fx [] H7 (upd Hd1 po (.lst (vs0 ++ vse1))) := g0.trans (fe.trans ff)
    have ko : DpFA K H7 (upd Hd1 po (.lst (vs0 ++ vse1))) (vs0 ++ vse1) (((tests1 far).map withNone ++ (answers1 far).map withAny) ++ o3) := (k0.up (fe.trans ff)).app ((ke.since g0).up ff)
    have hpo1 : upd Hd1 po (.lst (vs0 ++ vse1)) po = some (.lst (vs0 ++ vse1)) := upd_same
    generalize vs0 ++ vse1 = vso at g9 ko hpo1 ⊢
    generalize upd Hd1 po (.lst vso) = H9 at g9 ko hpo1 ⊢
    have hpo7 : H7 po = none := (g0.trans fe).d _ hpf
    clear ke he0 he1 fe ff hpf g0 k0 h0
    have ko : DpFA K H7 H9 vso (odd1R far) := ko
    have lo : vso.length = 46 := ko.len
    have D9 := D7.mv g9
    have hq9 : SqT K H9 tb xs := g9.sqT hq7
    have hdd7 : H7 dd ≠ none := by rw [D7.h]; exact fun e => nomatch e
    dsimp only [gName]
    -- the odd row amid
    refine ⟨_, rfl, _, rfl, _, rfl, rd_takeA (n := ai) hq9 (by omega) fun p1 Ha fa s1 => ?_⟩
    refine ⟨_, rfl, _, rfl, _, rfl, po, vso, rfl, .inl (SqL.of (fa.to hpo1 fun z => nomatch z)), ?_⟩
    dsimp only [tNil, List.append_nil]
    refine off_sp (K := K) (E := E0) (D9.mv fa) (n := (vso.length : Int)) ⟨by omega, by omega⟩ fun Hb Db fb => ?_
    have rb := off_range st7 (n := (vso.length : Int)) (by omega)
    generalize (off st7 (vso.length : Int)).1 = jv at rb ⊢
    generalize (off st7 (vso.length : Int)).2 = st10 at Db ⊢
    obtain ⟨j, rfl⟩ := Int.eq_ofNat_of_zero_le rb.1
    have hj : j < vso.length := by omega
    have npo : po ≠ dd := fun z => by rw [z] at hpo7; exact hdd7 hpo7
    obtain ⟨bd, hbd, kbd⟩ := ko.get (List.getElem?_eq_getElem hj)
    have hodd := odd1R_bad hf0 bd (List.mem_of_getElem? hbd)
    have hsm := odd1R_sm far bd (List.mem_of_getElem? hbd)
    have hpob := fb.to (fa.to hpo1 fun z => nomatch z) (n1 npo)
    refine ⟨po, vso, (j : Int), vso[j], rfl, rfl, SqL.of hpob, atI_nat (List.getElem?_eq_getElem hj), by show 1 ≤ sizeLine; decide, fun pt hpt => ?_⟩
    have ft : Fx [] Hb (upd Hb pt (.tup [vso[j]])) := Fx.new hpt
    refine rd_catA (xs := xs.take ai) (ys := [vso[j]]) (ft.sqT (fb.sqT s1)) (SqT.of upd_same) (by rw [List.length_take]; show _ + 1 ≤ sizeLine; rw [sizeLine_eq]; omega) fun p2 Hc fc s2 => ?_
    refine ⟨_, rfl, _, rfl, ?_⟩
    dsimp only [tNoPart, tPart, tVar]
    refine ⟨_, rfl, ?_⟩
    refine rd_dropA (n := ai) (fc.sqT (ft.sqT (fb.sqT (fa.sqT hq9)))) (by omega) fun p3 Hd3 fd3 s3 => ?_
    refine rd_catA (fd3.sqT s2) s3 (by rw [List.length_append, List.length_take, List.length_drop]; show _ + 1 + _ ≤ sizeLine; rw [sizeLine_eq]; omega) fun p4 Hf ff s4 => ?_
    refine ⟨_, rfl, rd_takeN (n := 13) s4 fun p5 Hg fg s5 => ?_⟩
    have fbb : Fx [] Hb Hg := ((((ft.trans fc).trans fd3).trans ff).trans fg)
    have f7g : Fx [dd] H7 Hg := ((g9.trans fa).nil.trans fb).trans fbb.nil
    have Dg := Db.mv fbb
    rw [List.take_of_length_le (by rw [List.length_append, List.length_append, List.length_take, List.length_drop]; show _ + 1 + _ ≤ 13; omega)] at s5
    have e1 : (m.take ai).map rowD = (m.map rowD).take ai := (List.map_take ..)
    have e2 : (m.drop ai).map rowD = (m.map rowD).drop ai := (List.map_drop ..)
    have kA : DpFA K H7 Hg (xs.take ai) ((m.take ai).map rowD) := by
      rw [e1]
      exact (DpFA.ofN (DpAll.takeN ai hx7) (by rw [← e1]; exact rows_nol _)).mv (n1x hdd7) f7g
    have kB : DpFA K H7 Hg (xs.drop ai) ((m.drop ai).map rowD) := by
      rw [e2]
      exact (DpFA.ofN (DpAll.dropN ai hx7) (by rw [← e2]; exact rows_nol _)).mv (n1x hdd7) f7g
    have kO := ((kbd.up fa).mv (n1x hdd7) fb).up fbb
    have kbad : DpF K H7 Hg (.ref p5) (.tuple ((m.take ai).map rowD ++ bd :: (m.drop ai).map rowD)) := by
      refine DpF.tup s5 ?_
      rw [List.append_assoc]
      exact kA.app (.cons kO kB)
    have htl : ((m.take ai).map rowD).length = ai := by rw [List.length_map, List.length_take]; omega
    have hbad : machBad (.tuple ((m.take ai).map rowD ++ bd :: (m.drop ai).map rowD)) = some (ai : Int) := by
      have := machBad_ins (ds := (m.take ai).map rowD) (o := bd) (rest := (m.drop ai).map rowD) (by omega) (fun d hd => mach_rows hm d (by rw [e1] at hd; exact List.mem_of_mem_take hd)) (.inr hodd)
      rw [htl] at this
      exact this
    have hsh : SeqAt.shaped (.tuple ((m.take ai).map rowD ++ bd :: (m.drop ai).map rowD)) = true := by
      refine shapedT fun d hd => ?_
      rcases List.mem_append.mp hd with hd | hd
      · obtain ⟨r, _, rfl⟩ := List.mem_map.mp hd
        exact rowD_small r
      · rcases List.mem_cons.mp hd with rfl | hd
        · exact hsm
        · obtain ⟨r, _, rfl⟩ := List.mem_map.mp hd
          exact rowD_small r
    generalize PyData.tuple ((m.take ai).map rowD ++ bd :: (m.drop ai).map rowD) = bad at kbad hbad hsh
    clear kA kB kO e1 e2 s4 s5 fbb ff fd3 fc ft fb fa s1 s2 s3 hpob hbd kbd hodd hsm hpt Db npo ko hpo1 hq9 D9 g9 fg
    dsimp only [gName]
    -- thirteen rows
    refine ⟨fun σ' H' => ∃ (vb : V) (bd : PyData) (st' : Dice) (r : Int), σ' = [some (.ref a), some (.ref dd), some (.ref tb), some (.int r), some (.int far), some (.ref pf3), some (.ref qf), some (.ref po), some vb, none, none, none, none, none, none] ∧ Dc dd H1 H' st' ∧ Fx [dd] H7 H' ∧ DpF K H7 H' vb bd ∧ machBad bd = some r ∧ SeqAt.shaped bd = true, ?_, fun σ' Hh hM => ?_⟩
    · refine ifOr_J (fun H' => ∃ st', Dc dd H1 H' st' ∧ Fx [dd] H7 H') (fun Hx hx => ?_) (fun hA => ?_)
      · obtain ⟨stx, Dx, fx⟩ := hx
        refine ⟨_, rfl, tb, 13, xs, rfl, rfl, fx.sqT hq7, (fun z => by rw [z] at hxl; simp at hxl; omega), by decide, by decide, by omega, fun p hp => ?_⟩
        have gp : Fx [] Hx (upd Hx p (.tup (List.replicate (13 : Int).toNat xs).flatten)) := Fx.new hp
        have sp13 : SqT K (upd Hx p (.tup (List.replicate (13 : Int).toNat xs).flatten)) p (List.replicate 13 xs).flatten := SqT.of upd_same
        generalize upd Hx p (.tup (List.replicate (13 : Int).toNat xs).flatten) = Hp1 at gp sp13 ⊢
        refine rd_off rfl (Dx.mv gp) ⟨by decide, by decide⟩ fun Hb Db fb => ⟨_, _, rfl, rfl, _, rfl, ?_⟩
        have r3 := off_range stx (n := 3) (by decide)
        obtain ⟨nn, hnn⟩ := Int.eq_ofNat_of_zero_le (show 0 ≤ 13 + (off stx 3).1 by omega)
        rw [hnn]
        have hn13 : 13 ≤ nn ∧ nn ≤ 15 := by omega
        refine rd_takeN (n := nn) (fb.sqT sp13) fun p2 Hc fc sc => ⟨by show 2 ≤ sizeLine; decide, fun l4 hl4 => ⟨l4, _, rfl, SqT.of upd_same, rfl, _, _, rfl, _, _, rfl, rfl, ?_⟩⟩
        have g4 : Fx [] Hc (upd Hc l4 (.tup [.ref p2, .int 12])) := Fx.new hl4
        have fall : Fx [dd] H7 (upd Hc l4 (.tup [.ref p2, .int 12])) := ((fx.trans gp.nil).trans fb).trans (fc.trans g4).nil
        have hml2 : ∀ d ∈ ((List.replicate 13 (m.map rowD)).flatten).take nn, ∃ r ∈ m, d = rowD r := fun d hd => by
          obtain ⟨l, hl, hr⟩ := List.mem_flatten.mp (List.mem_of_mem_take hd)
          rw [List.eq_of_mem_replicate hl] at hr
          obtain ⟨r0, hr0, e0⟩ := List.mem_map.mp hr
          exact ⟨r0, hr0, e0.symm⟩
        have hlen : 13 ≤ (((List.replicate 13 (m.map rowD)).flatten).take nn).length := by
          rw [List.length_take]
          have : (List.replicate 13 (m.map rowD)).flatten.length = 13 * m.length := by
            simp [List.length_flatten, List.replicate]
            omega
          omega
        refine ⟨.ref p2, .tuple (((List.replicate 13 (m.map rowD)).flatten).take nn), _, 12, rfl, (Db.mv fc).mv g4, fall, ?_, machBad_13 hlen (fun d hd => ?_), shapedT fun d hd => ?_⟩
        · refine DpF.ofN (.tup (g4.sqT sc) ((DpAll.takeN nn (DpAll.rep hx7 13)).mv fall ?_)) ?_
          · exact nolA_of fun d hd => by obtain ⟨r, _, rfl⟩ := hml2 d hd; exact row_nol r
          · exact nolA_of fun d hd => by obtain ⟨r, _, rfl⟩ := hml2 d hd; exact row_nol r
        · obtain ⟨r, hr, rfl⟩ := hml2 d hd
          exact mach_rows hm _ (List.mem_map.mpr ⟨r, hr, rfl⟩)
        · obtain ⟨r, _, rfl⟩ := hml2 d hd
          exact rowD_small r
      · refine ⟨_, rfl, rd_eqI ⟨_, rfl, ifB (fun c => ?_) (fun c => ?_)⟩⟩
        · exact ifT rfl (hA _ ⟨_, Dg, f7g⟩)
        · refine rd_off rfl Dg ⟨by decide, by decide⟩ fun Ha Da fa => rd_eqI ⟨_, rfl, ifB (fun c => ?_) (fun c => ?_)⟩
          · exact hA _ ⟨_, Da, f7g.trans fa⟩
          · exact ⟨.ref p5, bad, _, _, rfl, Da, f7g.trans fa, kbad.mv (n1x hdd7) fa, hbad, hsh⟩
    clear kbad hbad hsh f7g Dg
    obtain ⟨vb, bd, st9, r, rfl, D9, f9, kb, hbad, hsh⟩ := hM
    -- what is no tuple of rows
    refine ⟨fun σ' H' => ∃ (vb : V) (bd : PyData) (st' : Dice) (r : Int), σ' = [some (.ref a), some (.ref dd), some (.ref tb), some (.int r), some (.int far), some (.ref pf3), some (.ref qf), some (.ref po), some vb, none, none, none, none, none, none] ∧ Dc dd H1 H' st' ∧ Fx [dd] H7 H' ∧ DpF K H7 H' vb bd ∧ machBad bd = some r ∧ SeqAt.shaped bd = true, ?_, fun σ' Hh hM => ?_⟩
    · refine rd_off rfl D9 ⟨by decide, by decide⟩ fun Ha Da fa => rd_eqI ⟨_, rfl, ifB (fun c => ?_) (fun c => ?_)⟩
      · have hrd : Dp K Ha (.ref tb) (.tuple (m.map rowD)) := .tup (fa.sqT (f9.sqT hq7)) ((hx7.mv f9 (rows_nol m)).mv fa (rows_nol m))
        refine ⟨none6 m, ?_, fun Hb vsb pb fb hb0 hb1 kbb => ?_⟩
        · repeat' first | rfl | exact ⟨_, _, rfl, rfl, hrd, rows_nol m⟩ | refine ⟨_, rfl, ?_⟩ | refine ⟨_, _, rfl, ?_, ?_⟩
        have lb : vsb.length = 6 := by rw [kbb.len]; rfl
        have De := Da.mv fb
        have hdda : Ha dd ≠ none := by rw [Da.h]; exact fun e => nomatch e
        have npe : pb ≠ dd := fun z => by rw [z] at hb0; exact hdda hb0
        refine rd_off rfl De ⟨by decide, by decide⟩ fun Hf Df ff => ?_
        have rf := off_range (off st9 9).2 (n := 6) (by decide)
        generalize (off (off st9 9).2 6).1 = jv at rf ⊢
        obtain ⟨j, rfl⟩ := Int.eq_ofNat_of_zero_le rf.1
        have hj : j < vsb.length := by omega
        obtain ⟨nd, hnd, knd⟩ := kbb.get (List.getElem?_eq_getElem hj)
        obtain ⟨hb1', hsh'⟩ := none6_bad m nd (List.mem_of_getElem? hnd)
        refine ⟨pb, _, (j : Int), _, rfl, rfl, SqL.of (ff.to hb1 (n1 npe)), atI_nat (List.getElem?_eq_getElem hj), _, rfl, by show 2 ≤ sizeLine; decide, fun l4 hl4 => ⟨l4, _, rfl, SqT.of upd_same, rfl, _, _, rfl, _, _, rfl, rfl, ?_⟩⟩
        have g4 : Fx [] Hf (upd Hf l4 (.tup [vsb[j], .int (-1)])) := Fx.new hl4
        have fab : Fx [dd] H7 Hf := ((f9.trans fa).trans fb.nil).trans ff
        exact ⟨_, nd, _, -1, rfl, Df.mv g4, fab.trans g4.nil, ((knd.since (M := [dd]) (f9.trans fa)).mv (n1x hdd7) ff).up g4, hb1', hsh'⟩
      · exact ⟨vb, bd, _, r, rfl, Da, f9.trans fa, kb.mv (n1x hdd7) fa, hbad, hsh⟩
    clear kb hbad hsh f9 D9
    obtain ⟨vb, bd, st9, r, rfl, D9, f9, kb, hbad, hsh⟩ := hM
    -- the hall
    have hT9 := Tabs.lst hT1 D0.h D9.f
    have hT7 := Tabs.lst hT1 D0.h D7.f
    have hpt7 : ∀ z ∈ [(He.cT K ("law", none)).2], H7 z ≠ none := fun z m e => by
      rw [List.mem_singleton.mp m] at e
      obtain ⟨qs, e2, _⟩ := hT7 _ hmT
      have e2 : H7 (He.cT K ("law", none)).2 = some (.tbl qs) := e2
      rw [e] at e2
      cases e2
    clear f9 hT7 hq7 hx7 hT1 D7 hdd7
    intro x dx hx hdx hne
    refine ⟨x, dx, rfl, upd_same, by rw [upd_ne hne]; exact upd_same, fun Hm2 A ea edx hat f2 hf => ⟨rfl, ?_⟩⟩
    have fm : Fx [] Hh (upd (upd Hh dx (.own x)) x (.ins (He.ga K "Hall") dx [])) := (Fx.new hdx).trans (Fx.new (by rw [upd_ne hne.symm]; exact hx))
    have f12 : Fx [] Hh Hm2 := ((fm.mono (N := [x]) fun _ m => nomatch m).trans f2).drop hx
    have hAn : ∀ z ∈ A.foot, Hh z = none := fun z m => by
      rcases hf z m with e | e | e
      · rw [e]; exact hx
      · rw [e]; exact hdx
      · exact fm.free e
    generalize upd (upd Hh dx (.own x)) x (.ins (He.ga K "Hall") dx []) = Hm at *
    subst ea
    have W0 : W11 K Hm2 dd st9 A hall0 := ⟨f12.to D9.h (fun z => nomatch z), D9.ok, hat, fun m => by have := hAn _ m; rw [D9.h] at this; cases this⟩
    have hT10 := Tabs.fx hT9 f12
    have kb10 := kb.up f12
    clear fm hf f2 hat hx hdx hne f12 hT9 hAn D9 D0 kb
    -- the works
    refine ⟨hT10, fun w1 H12 g12 T12 n12 ne12 L1 => ⟨T12, fun w2 H13 g13 T13 n13 ne13 L2 => ⟨T13, fun w3 H14 g14 T14 n14 ne14 L3 => ⟨by show 3 ≤ sizeLine; decide, fun l hl => ?_⟩⟩⟩⟩
    dsimp only [gName]
    have g15 : Fx [] H14 (upd H14 l (.lst [V.ref w1, V.ref w2, V.ref w3])) := Fx.new hl
    have hl15 : upd H14 l (.lst [V.ref w1, V.ref w2, V.ref w3]) l = some (.lst [V.ref w1, V.ref w2, V.ref w3]) := upd_same
    generalize upd H14 l (.lst [V.ref w1, V.ref w2, V.ref w3]) = H15 at g15 hl15 ⊢
    have T15 := Tabs.fx T14 g15
    have L1 := ((L1.upT T12 hmT g13).upT T13 hmT g14).up g15
    have L2 := (L2.upT T13 hmT g14).up g15
    have L3 := L3.up g15
    have W15 := (((W0.tab hT10 hmT g12).tab T12 hmT g13).tab T13 hmT g14).up g15
    have kb15 := (((kb10.mv hpt7 g12).mv hpt7 g13).mv hpt7 g14).up g15
    clear g12 g13 g14 g15 W0 kb10 hT10 T12 T13 T14 n12 n13 n14 ne12 ne13 ne14 hl
    refine ⟨_, rfl, T15, fun w4 H16 g16 T16 n16 ne16 L4 => ⟨T16, fun w5 H17 g17 T17 n17 ne17 L5 => ⟨T17, fun w6 H18 g18 T18 n18 ne18 L6 => ⟨by show 3 ≤ sizeLine; decide, fun l2 hl2 => ?_⟩⟩⟩⟩
    have g19 : Fx [] H18 (upd H18 l2 (.lst [V.ref w4, V.ref w5, V.ref w6])) := Fx.new hl2
    have hl19 := g19.to (g18.lamTo T17 hmT (g17.lamTo T16 hmT (g16.lamTo T15 hmT hl15 fun z q => nomatch q) fun z q => nomatch q) fun z q => nomatch q) (fun z => nomatch z)
    refine ⟨l, l2, _, _, rfl, rfl, hl19, upd_same, by show 3 + 3 ≤ sizeLine; decide, fun l3 hl3 => ?_⟩
    have g20 : Fx [] (upd H18 l2 (.lst [V.ref w4, V.ref w5, V.ref w6])) (upd (upd H18 l2 (.lst [V.ref w4, V.ref w5, V.ref w6])) l3 (.lst ([V.ref w1, V.ref w2, V.ref w3] ++ [V.ref w4, V.ref w5, V.ref w6]))) := Fx.new hl3
    have g68 := g19.trans g20
    have hl21 : upd (upd H18 l2 (.lst [V.ref w4, V.ref w5, V.ref w6])) l3 (.lst ([V.ref w1, V.ref w2, V.ref w3] ++ [V.ref w4, V.ref w5, V.ref w6])) l3 = some (.lst [V.ref w1, V.ref w2, V.ref w3, V.ref w4, V.ref w5, V.ref w6]) := upd_same
    generalize upd (upd H18 l2 (.lst [V.ref w4, V.ref w5, V.ref w6])) l3 (.lst ([V.ref w1, V.ref w2, V.ref w3] ++ [V.ref w4, V.ref w5, V.ref w6])) = H21 at g68 hl21 ⊢
    have T21 := Tabs.fx T18 g68
    have L1 := (((L1.upT T15 hmT g16).upT T16 hmT g17).upT T17 hmT g18).up g68
    have L2 := (((L2.upT T15 hmT g16).upT T16 hmT g17).upT T17 hmT g18).up g68
    have L3 := (((L3.upT T15 hmT g16).upT T16 hmT g17).upT T17 hmT g18).up g68
    have L4 := ((L4.upT T16 hmT g17).upT T17 hmT g18).up g68
    have L5 := (L5.upT T17 hmT g18).up g68
    have L6 := L6.up g68
    have W21 := (((W15.tab T15 hmT g16).tab T16 hmT g17).tab T17 hmT g18).up g68
    have kb21 := (((kb15.mv hpt7 g16).mv hpt7 g17).mv hpt7 g18).up g68
    clear g20 g19 hl19 hl15 W15 kb15 T15 T16 T17 T18 g16 g17 g18 g68 hl2 hl3 n16 n17 n18 ne16 ne17 ne18
    dsimp only [gName]
    refine ⟨_, rfl, l3, rfl, ⟨_, SqL.of hl21⟩, [vb, .ref A.a], rfl, fun pn C n D hD => ?_⟩
    have hwt : wd ("BadMachine" : Str) = "machine" := by decide +kernel
    have hwsh : SeqAt.shaped (.tuple [.str "machine", .int r]) = true := shapedT fun d hd => by
      simp only [List.mem_cons, List.mem_nil_iff, or_false] at hd
      rcases hd with rfl | rfl
      · exact ⟨by decide +kernel, by decide +kernel⟩
      · exact ⟨by simp [PyData.canLay0], by simp [PyData.depth]⟩
    have key : ∀ f ∈ [w1, w2, w3, w4, w5, w6], ∀ (H2 : Hp) (Qx : VK) (Ex : XK), Fx [] H21 H2 → Free H2 pn → (∀ H' p, Fx [] H2 H' → H' p = some (.tup [.str "machine", .int r]) → Qx (.ref p) H') → spWordOf P w K mg base [.ref f] (addP pn H2) (fun v H' => Qx v (delP pn H')) Ex := fun f hf H2 Qx Ex g2 n2 k => by
      have fin : ∀ (E' : XK), (∀ cls d H' x r, Refd K mg x r cls d H' → (∀ H'' p, Fx [] H' H'' → H' p = none → H'' p = some (.tup [.str (wd x), .int r]) → Qx (.ref p) H'') → E' cls d H') → Rfs K mg "BadMachine" r H2 E' := fun E' he cls e H' gf R => he cls e H' _ _ R fun H'' p gg _ hp => k H'' p (gf.trans gg) (by rw [hp, hwt])
      have kb2 := (kb21.up g2).dp
      simp only [List.mem_cons, List.mem_nil_iff, or_false] at hf
      have hrg : ∀ td sd, rgtBad bd td sd = some (("BadMachine" : Str), r) := fun td sd => by unfold rgtBad; rw [hbad]
      rcases hf with rfl | rfl | rfl | rfl | rfl | rfl
      · refine (L1.up g2).word rfl C n2 fun E' Q' _ he => ?_
        exact ⟨vb, rfl, 1, rfl, 1, rfl, rfl, rfl, vb, bd, .int (-1), .int (-1), .int (-1), .int (-1), "BadMachine", r, rfl, kb2, .int _, .int _, hsh, by unfold ansBad; rw [hbad], fin _ he⟩
      · refine (L2.up g2).word rfl C n2 fun E' Q' _ he => ?_
        exact ⟨vb, rfl, vb, bd, r, rfl, kb2, hsh, hbad, fin _ he⟩
      · refine (L3.up g2).word rfl C n2 fun E' Q' _ he => ?_
        exact ⟨vb, rfl, 1, rfl, rfl, rfl, vb, .int 5, .int (-1), rfl, ⟨bd, .int 5, .int (-1), "BadMachine", r, kb2, .int _, .int _, hsh, (fun t w e => nomatch e), hrg _ _, fin _ he⟩⟩
      · refine (L4.up g2).word rfl C n2 fun E' Q' _ he => ?_
        exact ⟨vb, rfl, vb, .int 5, .int 0, rfl, ⟨bd, .int 5, .int 0, "BadMachine", r, kb2, .int _, .int _, hsh, (fun t w e => nomatch e), hrg _ _, fin _ he⟩⟩
      · refine (L5.up g2).word rfl C n2 fun E' Q' _ he => ?_
        exact ⟨vb, rfl, vb, .int 5, .int 0, rfl, ⟨bd, .int 5, .int 0, "BadMachine", r, kb2, .int _, .int _, hsh, (fun t w e => nomatch e), hrg _ _, fin _ he⟩⟩
      · refine (L6.up g2).word rfl C n2 fun E' Q' _ he => ?_
        exact ⟨_, rfl, A.a, A.dx, _, rfl, (W21.a.up g2).i.i, rfl, _, rfl, A, 0, hall0, .str "ada", vb, .str "ada", bd, "BadMachine", r, rfl, W21.a.up g2, .str _, kb2, (fun n e => by cases e; decide +kernel), hsh, by unfold machRef; rw [show nameB (.str "ada") = true from by decide +kernel, if_neg (by decide), hbad], fin _ he⟩
    refine lc_rel (walk_list (xs := [V.ref w1, V.ref w2, V.ref w3, V.ref w4, V.ref w5, V.ref w6])) (fun i acc H' => Fx [] H21 H' ∧ acc = []) ⟨Fx.new hD, rfl⟩ (fun i acc H' q => SqL.of (q.1.to hl21 fun z => nomatch z)) (fun i acc x H3 H4 hi hl hDa r' y => ?_) (fun acc H3 hl hDa r' => ?_)
    · obtain ⟨g3, rfl⟩ := r'
      obtain ⟨rfl, hx⟩ := y
      obtain ⟨f, hf, rfl⟩ : ∃ f ∈ [w1, w2, w3, w4, w5, w6], x = V.ref f := by
        have := List.mem_of_getElem? hx
        simp only [List.mem_cons, List.mem_nil_iff, or_false] at this
        rcases this with rfl | rfl | rfl | rfl | rfl | rfl
        · exact ⟨w1, by simp, rfl⟩
        · exact ⟨w2, by simp, rfl⟩
        · exact ⟨w3, by simp, rfl⟩
        · exact ⟨w4, by simp, rfl⟩
        · exact ⟨w5, by simp, rfl⟩
        · exact ⟨w6, by simp, rfl⟩
      refine ⟨rfl, ?_⟩
      dsimp only [tTest, tOp]
      refine rd_wordQ (f := f) (G := fun v H' => ∃ p, v = .ref p ∧ Fx [] H4 H' ∧ H' p = some (.tup [.str "machine", .int r])) rfl (fun n4 Qx Ex k => key f hf _ Qx Ex g3 n4 fun H' p g hp => k _ _ ⟨p, rfl, g, hp⟩) fun v H5 hG => ?_
      obtain ⟨p5, rfl, g5, h5⟩ := hG
      refine ⟨_, rfl, by show 2 ≤ sizeLine; decide, fun p6 hp6 => ?_⟩
      have g6 : Fx [] H5 (upd H5 p6 (.tup [.str "machine", .int r])) := Fx.new hp6
      have dps : ∀ Hz, DpAll K Hz [V.str "machine", V.int r] [.str "machine", .int r] := fun _ => .cons (.str _) (.cons (.int _) .nil)
      refine rd_neSm K (.tup (SqT.of (g6.t _ _ h5)) (dps _)) (.tup (SqT.of upd_same) (dps _)) hwsh ⟨_, rfl, ifF rfl ?_⟩
      have g56 := g5.trans g6
      exact Pvl.skip hl (g56.to hDa fun z => nomatch z) ⟨g3.trans g56, rfl⟩
    obtain ⟨g3, rfl⟩ := r'
    refine ⟨by show 0 ≤ sizeLine; decide, fun l5 hl5 => ?_⟩
    have g5 : Fx [] H3 (upd H3 l5 (.lst [])) := Fx.new hl5
    refine rd_neSm K (.lst (SqL.of (g5.to hDa fun z => nomatch z)) .nil) (.lst (SqL.of upd_same) .nil) (by decide +kernel) ⟨_, rfl, ifF rfl ?_⟩
    have g35 := g3.trans g5
    generalize upd H3 l5 (.lst []) = H5 at g35 ⊢
    have W5 := W21.up g35
    have T5 := Tabs.fx T21 g35
    have kb5 := kb21.up g35
    clear g5 hl5 hDa g3 g35 W21 T21 kb21 L1 L2 L3 L4 L5 L6 key C n hD hl21
    dsimp only [tNext]
    -- a machine that can be
    refine ⟨.tuple [rowD (.rest 99 98, .num 9999), rowD (.known [9992, 9993, 9994, 9995, 9996, 9997, 9998, 9999], .num (-9999))], ?_, fun H6 v6 f6 k6 => ?_⟩
    · repeat' first | rfl | refine ⟨_, rfl, ?_⟩ | refine ⟨_, _, rfl, ?_, ?_⟩
    dsimp only [gName]
    refine ⟨_, rfl, .tuple [rowD (.below 9999, .rest 99)], ?_, fun H7 v7 f7 k7 => ?_⟩
    · repeat' first | rfl | refine ⟨_, rfl, ?_⟩ | refine ⟨_, _, rfl, ?_, ?_⟩
    obtain ⟨t6, xs6, rfl, hs6, hx6⟩ := (k6.up f7).dp.tupI
    obtain ⟨t7, xs7, rfl, hs7, hx7⟩ := k7.dp.tupI
    have l6 : xs6.length = 2 := hx6.len
    have l7 : xs7.length = 1 := hx7.len
    refine rd_catA hs6 hs7 (by rw [l6, l7]; decide) fun p8 H8 f8 s8 => ?_
    refine ⟨p8, 4, xs6 ++ xs7, rfl, rfl, s8, (fun z => by have := congrArg List.length z; rw [List.length_append, l6, l7] at this; cases this), by decide, by decide, by rw [List.length_append, l6, l7]; decide, fun p9 hp9 => ?_⟩
    have f9 : Fx [] H8 (upd H8 p9 (.tup (List.replicate (4 : Int).toNat (xs6 ++ xs7)).flatten)) := Fx.new hp9
    have kf : Dp K (upd H8 p9 (.tup (List.replicate (4 : Int).toNat (xs6 ++ xs7)).flatten)) (.ref p9) (machD fullM) := by
      rw [fullM_D]
      refine .tup (SqT.of upd_same) ?_
      exact DpAll.rep (ds := fullM3.map rowD) (DpAll.app ((hx6.ext f8).ext f9) ((hx7.ext f8).ext f9)) 4
    have g59 := (f6.trans f7).trans (f8.trans f9)
    generalize upd H8 p9 (.tup (List.replicate (4 : Int).toNat (xs6 ++ xs7)).flatten) = H9 at kf g59 ⊢
    have W9 := W5.up g59
    have T9 := Tabs.fx T5 g59
    have kb9 := kb5.up g59
    clear k6 k7 hx6 hx7 hs6 hs7 s8 f9 f8 f7 f6 hp9 g59 W5 T5 kb5
    dsimp only [gName]
    -- a name that can't be
    refine ⟨T9, fun f1 H12 g12 T12 n12 ne12 L12 => ⟨by show 1 ≤ sizeLine; decide, fun l hl => ?_⟩⟩
    have g13 : Fx [] H12 (upd H12 l (.lst [V.ref f1])) := Fx.new hl
    have hl13 : upd H12 l (.lst [V.ref f1]) l = some (.lst [V.ref f1]) := upd_same
    generalize upd H12 l (.lst [V.ref f1]) = H13 at g13 hl13 ⊢
    have L12 := L12.up g13
    have W13 := (W9.tab T9 hmT g12).up g13
    have kf13 := (kf.mv g12 (mach_nol _)).ext g13
    have kb13 := (kb9.mv hpt7 g12).up g13
    clear W9 kf kb9 g12 g13 T12 n12 ne12
    refine ⟨[vb, .ref A.a], rfl, fun pn C n => ⟨l, [f1], "BadName", are_vs (by decide +kernel), by decide +kernel, are_l n hl13, Nat.le_of_ble_eq_true rfl, fun f hf => ?_, fun Hy gy => ⟨_, rfl, ?_⟩⟩⟩
    · simp only [List.mem_cons, List.mem_nil_iff, or_false] at hf
      subst hf
      refine L12.ref rfl C n fun H2 E2 Q2 g2 k2 => ?_
      exact ⟨_, rfl, A.a, A.dx, _, rfl, (W13.a.up g2).i.i, rfl, _, rfl, A, 0, hall0, .str "Ada", vb, .str "Ada", bd, "BadName", 0, rfl, W13.a.up g2, .str _, (kb13.up g2).dp, (fun n e => by cases e; decide +kernel), hsh, by unfold machRef; rw [show nameB (.str "Ada") = false from by decide +kernel, if_pos rfl], fun cls e H' g R => k2 cls e H' g R⟩
    refine ifF rfl ?_
    have fy := Fx.off n gy
    generalize delP pn Hy = H14 at fy ⊢
    have W14 := W13.up fy
    have kf14 := kf13.ext fy
    clear W13 kf13 kb13 L12 C n gy fy hl13 hl
    dsimp only [tNext, tRet]
    refine ⟨.ref p9, rfl, .ref p9, fullM, 9999, 0, rfl, kf14, fullM_ok, ⟨by decide, by decide⟩, ⟨by decide, by decide⟩, fun H15 f15 => ?_⟩
    rw [fullM_asked]
    refine ⟨_, rfl, rfl, _, rfl, ifT (by decide) ?_⟩
    have W15 := W14.up f15
    refine ⟨_, rfl, A.a, A.dx, _, rfl, W15.a.i.i, rfl, A, 0, hall0, rfl, W15.a, fun H16 p16 f16 hp16 => ?_⟩
    obtain ⟨h160, x16, hx16, dx16⟩ := hp16
    obtain rfl : x16 = [] := by cases dx16; rfl
    refine ⟨by show 0 ≤ sizeLine; decide, fun p17 hp17 => ?_⟩
    have f17 : Fx [] H16 (upd H16 p17 (.lst [])) := Fx.new hp17
    exact rd_eqSame K (.lst (SqL.of (f17.to hx16 fun z => nomatch z)) .nil) (.lst (SqL.of upd_same) .nil) (by decide +kernel) (q _)
end Mh
/-! MhEnd -/
open PySem PySem.W PySem.Calls PyProof.Rows
theorem PySem.Challenge.cw_measurehall_k01_machines_refused_holds : PySem.Challenge.rw_measurehall_k01_machines_refused.Holds := by
  w_on; o_law
  refine HandSHeadRun.head_any (r := OpenLaw.row PySem.Challenge.rw_measurehall_k01_machines_refused) (q := view (OpenLaw.row PySem.Challenge.rw_measurehall_k01_machines_refused).prog [78]) (H := Mh.hk) (ob := Mh.ob) (M := 9000) (loose := Mh.looseN) (d := HandSHeadRun.topDef (OpenLaw.row PySem.Challenge.rw_measurehall_k01_machines_refused).prog 78) (kwd := []) Mh.ob_eq
    (by kernel_rfl) (fun s => by kernel_rfl) Mh.run (by kernel_rfl) (by kernel_rfl) (by kernel_rfl) (by rfl) (by first | assumption | decide +kernel) (by decide +kernel) ⟨rfl, rfl, rfl, rfl, rfl, by decide +kernel⟩ ?hw ?hc
  case hw => w_witness2
  case hc =>
    refine LamX.walk_ofTsE (l := PySem.Challenge.rw_measurehall_k01_machines_refused) (n := 63) (k := Mh.lawLevel) (x := "_law_script") (CX := fun _ => L2.CX0) rfl (by decide) (by kernel_rfl) ⟨rfl, by decide, by decide⟩ ?F (fun _ _ _ _ _ z => z)
    intro w mg fa h Y G hmg0
    obtain ⟨K, KX, S⟩ := Y
    have hmg : mg ("law" : PySem.Str) = some (.ref fa) := by
      have e : (HandSHeadRun.topDef (OpenLaw.row PySem.Challenge.rw_measurehall_k01_machines_refused).prog 78).name = ("law" : PySem.Str) := by kernel_rfl
      rw [← e]
      exact hmg0
    have XD : Mh.ExD K := ⟨S.x⟩
    have T : Mh.Tx K mg := ⟨S.c, h, KX, G⟩
    obtain ⟨fd, F⟩ := T.d_law
    have e := hmg.symm.trans T.g_law
    cases e
    have b := L2.FunD.bindsA (ps := ["_law_script"]) F fun _ _ _ _ _ _ us hl => match us, hl with | [_], _ => rfl
    refine ⟨K, KX, fd, Mh.tdL.map (He.cT K), Mh.spLaw K, fun p hp => ?_, fun p hp => ?_, fun p hp => ?_, fun s v => b s [v] rfl, fun H a ns hl _ hT hS => ⟨a, ns, rfl, hS, hl, ?_, fun _ => rfl⟩, fun base _ _ hB => Mh.ok_law T XD ⟨fun p hp => hB _ (List.mem_map.mpr ⟨p, hp, rfl⟩), S.nd⟩ F⟩
    · obtain ⟨q, hq, rfl⟩ := List.mem_map.mp hp
      exact S.em q hq
    · obtain ⟨q, hq, rfl⟩ := List.mem_map.mp hp
      exact S.out q hq
    · obtain ⟨q, hq, rfl⟩ := List.mem_map.mp hp
      exact PySem.W.codeHd_of_K KX (S.hd q hq)
    · exact Mh.tdT_nil fun p hp => hT _ (List.mem_map.mpr ⟨p, hp, rfl⟩)
#print axioms PySem.Challenge.cw_measurehall_k01_machines_refused_holds
