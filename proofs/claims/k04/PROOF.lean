import PyProof.Rows.All
import Wide.All
import OpenK.AllK
import Wide.FinOn
import HandS.ForMost
import HandS.Exc
import HandS.ExcOwn
import HandS.ExcInit
import HandS.WordsExc
import HandS.Defaults
import HandS.IsInst
import HandS.Zip
import HandS.Strs
import HandS.Flow
import HandS.HeadHook2
import HandS.SetFor
import KE.GoesMore
import HandS.Walk
import HandS.Evl
import HandS.Head2
import HandS.HeadEnd
import HandS.HeadHook3
import PySem.Challenge.RW_measurehall_k04_machines_written
import HandS.DictComp
import KE.KEqDict
import HandS.Text
import KE.IntTextLaws
import HandS.Steps
import KE.GoesZip
import HandS.TupAny
import HandS.TupMul
import HandS.Conv
import HandS.Deep
set_option Elab.async false
set_option linter.all false
set_option maxRecDepth 100000
set_option maxHeartbeats 0
/-! MhBase -/
namespace Mh
open PySem PySem.Spec PyProof.Rows L2

/-! ### frames -/
/-- what is tracked stands as it was, but at the places of M; tuples and locked things stand there too; nothing is lost -/
structure Fx (M : List Addr) (H H' : Hp) : Prop where
  k : ∀ a o, H a = some o → a ∉ M → H' a = some o
  t : ∀ a xs, H a = some (.tup xs) → H' a = some (.tup xs)
  z : ∀ a o u, H a = some (.frz o u) → H' a = some (.frz o u)
  d : ∀ a, H' a = none → H a = none
theorem Fx.refl {M : List Addr} {H : Hp} : Fx M H H := ⟨fun _ _ h _ => h, fun _ _ h => h, fun _ _ _ h => h, fun _ h => h⟩
theorem Fx.trans {M : List Addr} {H H1 H2 : Hp} (a : Fx M H H1) (b : Fx M H1 H2) : Fx M H H2 :=
  ⟨fun c o h n => b.k c o (a.k c o h n) n, fun c o h => b.t c o (a.t c o h), fun c o u h => b.z c o u (a.z c o u h), fun c h => a.d c (b.d c h)⟩
theorem Fx.mono {M N : List Addr} {H H' : Hp} (a : Fx M H H') (h : ∀ x, x ∈ M → x ∈ N) : Fx N H H' := ⟨fun c o e n => a.k c o e fun m => n (h c m), a.t, a.z, a.d⟩
theorem Fx.nil {N : List Addr} {H H' : Hp} (a : Fx [] H H') : Fx N H H' := a.mono fun _ m => nomatch m
theorem Fx.new {M : List Addr} {H : Hp} {p : Addr} {o : HO} (h : H p = none) : Fx M H (upd H p o) :=
  ⟨fun a u e _ => by rw [upd_ne (ne_of_none e h)]; exact e, fun a u e => by rw [upd_ne (ne_of_none e h)]; exact e, fun a u v e => by rw [upd_ne (ne_of_none e h)]; exact e,
    fun a e => by
      by_cases q : a = p
      · rw [q]; exact h
      · rw [upd_ne q] at e; exact e⟩
/-- what is at p may change if it is no tuple and not locked -/
def Chg (H : Hp) (p : Addr) : Prop := (∀ xs, H p ≠ some (.tup xs)) ∧ ∀ o u, H p ≠ some (.frz o u)
theorem Chg.none {H : Hp} {p : Addr} (h : H p = none) : Chg H p := ⟨fun xs e => (by rw [h] at e; cases e), fun o u e => (by rw [h] at e; cases e)⟩
theorem Chg.lst {H : Hp} {p : Addr} {ys : List V} (h : H p = some (.lst ys)) : Chg H p := ⟨fun xs e => (by rw [h] at e; cases e), fun o u e => (by rw [h] at e; cases e)⟩
theorem Chg.dK {H : Hp} {p : Addr} {ys : List (Key × V)} (h : H p = some (.dK ys)) : Chg H p := ⟨fun xs e => (by rw [h] at e; cases e), fun o u e => (by rw [h] at e; cases e)⟩
theorem Chg.ins {H : Hp} {p C dx : Addr} {fs : List (Str × V)} (h : H p = some (.ins C dx fs)) : Chg H p := ⟨fun xs e => (by rw [h] at e; cases e), fun o u e => (by rw [h] at e; cases e)⟩
theorem Fx.set {M : List Addr} {H : Hp} {p : Addr} {o : HO} (m : p ∈ M) (c : Chg H p) : Fx M H (upd H p o) :=
  ⟨fun a u e n => by rw [upd_ne (show a ≠ p from fun z => n (by rw [z]; exact m))]; exact e,
    fun a u e => by rw [upd_ne (show a ≠ p from fun z => c.1 u (by rw [← z]; exact e))]; exact e, fun a u v e => by rw [upd_ne (show a ≠ p from fun z => c.2 u v (by rw [← z]; exact e))]; exact e,
    fun a e => by
      by_cases q : a = p
      · rw [q, upd_same] at e; cases e
      · rw [upd_ne q] at e; exact e⟩
/-- a place that was free ahead needn't be named -/
theorem Fx.drop {M : List Addr} {H H' : Hp} {p : Addr} (a : Fx (p :: M) H H') (h : H p = none) : Fx M H H' :=
  ⟨fun c o e n => a.k c o e fun m => (by
    rcases List.mem_cons.mp m with q | q
    · rw [q, h] at e; cases e
    · exact n q), a.t, a.z, a.d⟩
theorem Fx.free {M : List Addr} {H H' : Hp} {p : Addr} (a : Fx M H H') (h : H' p = none) : H p = none := a.d p h
theorem Fx.same {H H' : Hp} (a : Fx [] H H') : Same H H' := fun b o e => a.k b o e fun m => nomatch m
theorem Fx.to {M : List Addr} {H H' : Hp} {p : Addr} {o : HO} (a : Fx M H H') (h : H p = some o) (n : p ∉ M) : H' p = some o := a.k p o h n
theorem Fx.rdT {M : List Addr} {H H' : Hp} {p : Addr} {xs : List V} (a : Fx M H H') (h : Rd H p (.tup xs)) : Rd H' p (.tup xs) := by
  rcases h with h | ⟨o, h⟩
  · exact .inl (a.t _ _ h)
  · exact .inr ⟨o, a.z _ _ _ h⟩
theorem Fx.sqT {M : List Addr} {H H' : Hp} {K : PySem.W.Frag} {p : Addr} {xs : List V} (a : Fx M H H') (h : SqT K H p xs) : SqT K H' p xs := by
  rcases h with h | h
  · exact .inl (a.rdT h)
  · exact .inr h
theorem Fx.sqL {M : List Addr} {H H' : Hp} {K : PySem.W.Frag} {p : Addr} {xs : List V} (a : Fx M H H') (h : SqL K H p xs) (n : p ∉ M) : SqL K H' p xs := by
  rcases h with (h | ⟨o, h⟩) | h
  · exact .inl (.inl (a.k _ _ h n))
  · exact .inl (.inr ⟨o, a.z _ _ _ h⟩)
  · exact .inr h

/-! ### data that stands in the heap -/
mutual
/-- no list within -/
def nol : PyData → Bool
  | .list _ => false
  | .dict _ => false
  | .tuple xs => nolA xs
  | _ => true
def nolA : List PyData → Bool
  | [] => true
  | x :: xs => nol x && nolA xs
end
end Mh
namespace L2
open PySem PySem.Spec PyProof.Rows Mh
section
variable {K : PySem.W.Frag} {M : List Addr} {H H' : Hp}
mutual
theorem Dp.fx (a : Fx M H H') : ∀ (d : PyData) (v : V), nol d = true → Dp K H v d → Dp K H' v d
  | .none, _, _, h => by cases h; exact .non
  | .bool b, _, _, h => by cases h; exact .bl b
  | .int i, _, _, h => by cases h; exact .int i
  | .str x, _, _, h => by cases h; exact .str x
  | .list ds, _, n, _ => by cases n
  | .tuple ds, _, n, h => by
    cases h with
    | tup hs ha => exact .tup (a.sqT hs) (DpA.fx a ds _ n ha)
  | .dict _, _, _, h => by cases h
theorem DpA.fx (a : Fx M H H') : ∀ (ds : List PyData) (vs : List V), nolA ds = true → DpAll K H vs ds → DpAll K H' vs ds
  | [], _, _, h => by cases h; exact .nil
  | d :: ds, _, n, h => by
    cases h with
    | cons h1 h2 =>
      have n2 : (nol d && nolA ds) = true := n
      obtain ⟨n3, n4⟩ := Bool.and_eq_true_iff.mp n2
      exact .cons (Dp.fx a d _ n3 h1) (DpA.fx a ds _ n4 h2)
end
mutual
theorem Dp.up (a : Fx [] H H') : ∀ (d : PyData) (v : V), Dp K H v d → Dp K H' v d
  | .none, _, h => by cases h; exact .non
  | .bool b, _, h => by cases h; exact .bl b
  | .int i, _, h => by cases h; exact .int i
  | .str x, _, h => by cases h; exact .str x
  | .list ds, _, h => by
    cases h with
    | lst hs ha => exact .lst (a.sqL hs fun m => nomatch m) (DpA.up a ds _ ha)
  | .tuple ds, _, h => by
    cases h with
    | tup hs ha => exact .tup (a.sqT hs) (DpA.up a ds _ ha)
  | .dict _, _, h => by cases h
theorem DpA.up (a : Fx [] H H') : ∀ (ds : List PyData) (vs : List V), DpAll K H vs ds → DpAll K H' vs ds
  | [], _, h => by cases h; exact .nil
  | d :: ds, _, h => by
    cases h with
    | cons h1 h2 => exact .cons (Dp.up a d _ h1) (DpA.up a ds _ h2)
end
theorem Dp.tupI {v : V} {ds : List PyData} (h : Dp K H v (.tuple ds)) : ∃ a xs, v = .ref a ∧ SqT K H a xs ∧ DpAll K H xs ds := by
  cases h with
  | tup hs ha => exact ⟨_, _, rfl, hs, ha⟩
theorem Dp.tup1 {K : PySem.W.Frag} {H : Hp} {v : V} {d1 : PyData} (h : Dp K H v (.tuple [d1])) : ∃ a v1, v = .ref a ∧ SqT K H a [v1] ∧ Dp K H v1 d1 := by
  obtain ⟨a, xs, e, hs, ha⟩ := h.tupI
  cases ha with | cons h1 t => cases t; exact ⟨a, _, e, hs, h1⟩
theorem Dp.tup2 {K : PySem.W.Frag} {H : Hp} {v : V} {d1 d2 : PyData} (h : Dp K H v (.tuple [d1, d2])) : ∃ a v1 v2, v = .ref a ∧ SqT K H a [v1, v2] ∧ Dp K H v1 d1 ∧ Dp K H v2 d2 := by
  obtain ⟨a, xs, e, hs, ha⟩ := h.tupI
  cases ha with | cons h1 t => cases t with | cons h2 t => cases t; exact ⟨a, _, _, e, hs, h1, h2⟩
theorem Dp.tup3 {K : PySem.W.Frag} {H : Hp} {v : V} {d1 d2 d3 : PyData} (h : Dp K H v (.tuple [d1, d2, d3])) : ∃ a v1 v2 v3, v = .ref a ∧ SqT K H a [v1, v2, v3] ∧ Dp K H v1 d1 ∧ Dp K H v2 d2 ∧ Dp K H v3 d3 := by
  obtain ⟨a, xs, e, hs, ha⟩ := h.tupI
  cases ha with | cons h1 t => cases t with | cons h2 t => cases t with | cons h3 t => cases t; exact ⟨a, _, _, _, e, hs, h1, h2, h3⟩
theorem Dp.lstI {v : V} {ds : List PyData} (h : Dp K H v (.list ds)) : ∃ a xs, v = .ref a ∧ SqL K H a xs ∧ DpAll K H xs ds := by
  cases h with
  | lst hs ha => exact ⟨_, _, rfl, hs, ha⟩
theorem Dp.intI {v : V} {i : Int} (h : Dp K H v (.int i)) : v = .int i := by cases h; rfl
theorem Dp.strI {v : V} {i : Str} (h : Dp K H v (.str i)) : v = .str i := by cases h; rfl
theorem Dp.blI {v : V} {i : Bool} (h : Dp K H v (.bool i)) : v = .bl i := by cases h; rfl
theorem Dp.nonI {v : V} (h : Dp K H v .none) : v = .non := by cases h; rfl
theorem Dp.mv {v : V} {d : PyData} (h : Dp K H v d) (a : Fx M H H') (n : nol d = true) : Dp K H' v d := Dp.fx a d v n h
theorem Dp.ext {v : V} {d : PyData} (h : Dp K H v d) (a : Fx [] H H') : Dp K H' v d := Dp.up a d v h
theorem DpAll.mv {vs : List V} {ds : List PyData} (h : DpAll K H vs ds) (a : Fx M H H') (n : nolA ds = true) : DpAll K H' vs ds := DpA.fx a ds vs n h
theorem DpAll.ext {vs : List V} {ds : List PyData} (h : DpAll K H vs ds) (a : Fx [] H H') : DpAll K H' vs ds := DpA.up a ds vs h
theorem DpAll.len : ∀ {vs : List V} {ds : List PyData}, DpAll K H vs ds → vs.length = ds.length
  | _, _, .nil => rfl
  | _, _, .cons _ t => congrArg Nat.succ (DpAll.len t)
theorem DpAll.get : ∀ {vs : List V} {ds : List PyData} {i : Nat} {v : V}, DpAll K H vs ds → vs[i]? = some v → ∃ d, ds[i]? = some d ∧ Dp K H v d
  | _, _, _, _, .nil, e => by simp at e
  | _, _, 0, _, .cons r _, e => by simp at e; subst e; exact ⟨_, rfl, r⟩
  | _, _, i + 1, v, .cons _ t, e => by
    obtain ⟨d, h1, h2⟩ := DpAll.get (i := i) (v := v) t (by simpa using e)
    exact ⟨d, by simpa using h1, h2⟩
theorem DpAll.at : ∀ {vs : List V} {ds : List PyData} {i : Nat} {d : PyData}, DpAll K H vs ds → ds[i]? = some d → ∃ v, vs[i]? = some v ∧ Dp K H v d
  | _, _, _, _, .nil, e => by simp at e
  | _, _, 0, _, .cons r _, e => by simp at e; subst e; exact ⟨_, rfl, r⟩
  | _, _, i + 1, d, .cons _ t, e => by
    obtain ⟨v, h1, h2⟩ := DpAll.at (i := i) (d := d) t (by simpa using e)
    exact ⟨v, by simpa using h1, h2⟩
theorem DpAll.snoc : ∀ {vs : List V} {ds : List PyData} {v : V} {d : PyData}, DpAll K H vs ds → Dp K H v d → DpAll K H (vs ++ [v]) (ds ++ [d])
  | _, _, _, _, .nil, h => .cons h .nil
  | _, _, _, _, .cons r t, h => .cons r (DpAll.snoc t h)
end

end L2
namespace Mh
open PySem PySem.Spec PyProof.Rows L2
/-! ### isinstance of data, a built-in type -/
def isTy (n : String) : PyData → Bool
  | .none => n == "NoneType"
  | .bool _ => n == "bool" || n == "int"
  | .int _ => n == "int"
  | .str _ => n == "str"
  | .list _ => n == "list"
  | .tuple _ => n == "tuple"
  | .dict _ => n == "dict"
def tyD : PyData → String
  | .none => "NoneType"
  | .bool _ => "bool"
  | .int _ => "int"
  | .str _ => "str"
  | .list _ => "list"
  | .tuple _ => "tuple"
  | .dict _ => "dict"
def sixTy : List String := ["int", "bool", "str", "tuple", "list"]
theorem kit_tab : sixTy.all (fun n => ["NoneType", "bool", "int", "str", "list", "tuple"].all fun t => decide (kitB t n = some ((t == n) || (t == "bool" && n == "int")))) = true := by decide +kernel
theorem isTy_eq (n : String) (d : PyData) (hn : n ∈ sixTy) : isTy n d = ((tyD d == n) || (tyD d == "bool" && n == "int")) := by
  simp only [sixTy, List.mem_cons, List.mem_nil_iff, or_false] at hn
  rcases hn with rfl | rfl | rfl | rfl | rfl <;> cases d <;> rfl
section
variable {K : PySem.W.Frag} {H : Hp}
theorem tyx_of {v : V} {d : PyData} (h : Dp K H v d) : TyX K H v (.type (tyD d)) := by
  cases h with
  | non => exact .base .non
  | bl b => exact .base (.bl b)
  | int i => exact .base (.int i)
  | str x => exact .base (.str x)
  | lst hs _ =>
    rcases hs with (h | ⟨o, h⟩) | ⟨o, its, n, hk, hc, _⟩
    · exact .base (.lst h)
    · exact .base (.frz h)
    · exact .kList hk hc
  | tup hs _ =>
    rcases hs with (h | ⟨o, h⟩) | ⟨o, its, n, hk, hc, _⟩
    · exact .base (.tup h)
    · exact .fTuple h
    · exact .kTuple hk hc
theorem tyD_mem {v : V} {d : PyData} (h : Dp K H v d) : tyD d ∈ ["NoneType", "bool", "int", "str", "list", "tuple"] := by
  cases h <;> simp [tyD]
theorem kit_of_tab {t n : String} (ht : t ∈ ["NoneType", "bool", "int", "str", "list", "tuple"]) (hn : n ∈ sixTy) : kitB t n = some ((t == n) || (t == "bool" && n == "int")) := by
  have h := List.all_eq_true.mp (List.all_eq_true.mp kit_tab n hn) t ht
  exact of_decide_eq_true h
/-- isinstance(x, n) -/
def rIsD (K : PySem.W.Frag) : List V → Hp → VK → Prop := fun xs H Q => ∃ (x : V) (n : String) (d : PyData), xs = [x, .ty n] ∧ n ∈ sixTy ∧ Dp K H x d ∧ Q (.bl (isTy n d)) H
theorem call_isiD {X : Cx} : CallR X (.builtin "isinstance") (rIsD X.K) := fun pins s σ H xs us Q I r h => by
  obtain ⟨x, n, d, e, hn, hd, q⟩ := h
  refine call_isi pins s σ H xs us Q I r ⟨x, .ty n, .type (tyD d), .type n, isTy n d, e, .ty n, tyx_of hd, kit_ty ?_, q⟩
  rw [kit_of_tab (tyD_mem hd) hn, isTy_eq n d hn]
end

/-! ### a def of the text, as its callers want it -/
structure Def (P : Program) (w : World) (K : PySem.W.Frag) (mg : Str → Option Value) (base : Heap) (CX : CXT) (k : Nat) (x : Str) (ps : List Str) (sp : Sp) : Prop where
  ex : ∃ (f : Addr) (fd : FuncData), FnOk P w K mg base CX k f fd ps sp ∧ Binds K fd ps [] ∧ mg x = some (.ref f) ∧ PySem.W.keepIn K (.ref f) = true
section
variable {X : Cx} {CX : CXT} {k : Nat} {ps : List Str} {sp : Sp} {E : XK} {x : Str} {p pos : Pos} {e : Expr} {es : List Expr} {t : TA}
theorem pe_def (F : Def X.prog X.w X.K X.mg X.base CX k x ps sp) (hr : Room k X.A) (hx : Passes CX X E) (ha : PA X (e :: es) t) (hg : Gl X x := by rfl) (hdb : (x == ("__debug__" : Str)) = false := by decide)
    (he : starEach (e :: es) X.env = (false, eval e X.env) :: starEach es X.env := by rfl) (hpl : (backTo pos (starEach es X.env)).any (·.1) = false := by rfl) :
    PE X (.Call (.Name x p) (e :: es) [] pos) (tCall sp [] E t) := by
  obtain ⟨f, fd, F1, b, g, kp⟩ := F.ex
  exact pe_call F1 hr hg g kp b .nil hx ha hdb he hpl
theorem pe_def0 (F : Def X.prog X.w X.K X.mg X.base CX k x ps sp) (hr : Room k X.A) (hx : Passes CX X E) (hg : Gl X x := by rfl) (hdb : (x == ("__debug__" : Str)) = false := by decide) :
    PE X (.Call (.Name x p) [] [] pos) (tCall sp [] E tNil) := by
  obtain ⟨f, fd, F1, b, g, kp⟩ := F.ex
  exact pe_call0 F1 hr hg g kp b .nil hx hdb
/-- a module's number, text -/
theorem gC {i : Int} (h : ∃ t, X.mg x = some (.int i t)) (hg : Gl X x := by rfl) (hd : (x == ("__debug__" : Str)) = false := by decide) : PE X (.Name x pos) (tC (.int i)) := by
  obtain ⟨t, h⟩ := h
  exact pe_glob hg h ⟨t, rfl⟩ hd
theorem gS {z : Str} (h : ∃ t, X.mg x = some (.str z t)) (hg : Gl X x := by rfl) (hd : (x == ("__debug__" : Str)) = false := by decide) : PE X (.Name x pos) (tC (.str z)) := by
  obtain ⟨t, h⟩ := h
  exact pe_glob hg h ⟨t, rfl⟩ hd
/-- a built-in type's name as a value -/
theorem gT {n : String} (hm : X.mg x = none) (hg : Gl X x := by rfl) (hv : bootBuiltins x = some (.type n) := by decide +kernel) (hn : x ≠ "__name__" := by decide) (hd : (x == ("__debug__" : Str)) = false := by decide) : PE X (.Name x pos) (tC (.ty n)) :=
  pe_bltn hg hm hv rfl hn hd
end
/-! ### small things -/
theorem ifT {c : Bool} {A B : Prop} (h : c = true) (a : A) : if c = true then A else B := by rw [if_pos h]; exact a
theorem ifF {c : Bool} {A B : Prop} (h : c = false) (b : B) : if c = true then A else B := by rw [if_neg (by rw [h]; decide)]; exact b
theorem ifB {c : Bool} {A B : Prop} (a : c = true → A) (b : c = false → B) : if c = true then A else B := by
  cases h : c with
  | true => exact ifT rfl (a h)
  | false => exact ifF rfl (b h)
theorem sz2 {n : Nat} (h : n ≤ 1000) : n ≤ sizeLine := Nat.le_trans h (by decide)
end Mh
/-! MhSet -/
namespace Mh
open PySem PySem.Spec PyProof.Rows L2

/-! ### set(xs), xs a list of ints, as the hand layer's sets are told (an adaption of the library's own way for a tuple) -/
section
variable {P : Program} {w : World} {A : Around} {E : Value → Shared → Prop} {s : Shared}
abbrev newS (w : World) : Obj := { cls := .type "set", dict := none, data := .set #[] 0 (.fresh 0 0 (!w.params.followText "set-order")) }
set_option maxHeartbeats 8000000 in
theorem set_listI {l : Addr} {items : Array Value} (ns : List Int) {Q : Value → Shared → Prop} (hh : A.handled = none) (hl : s.heap.IsList l items) (hit : IntsAre items.toList ns) (hb : ns.length + 1 < scanBound)
    (h : ∀ (h' : Heap) (tk c : Nat), SetR w h' s.heap.objs.size (fun j => decide (j ∈ ns)) c → c ≤ ns.length → (∀ b o, s.heap.get? b = some o → h'.get? b = some o) → Q (.ref s.heap.objs.size) { s with heap := h', toks := tk }) :
    wpAny (model P w) A (call (.type "set") [.ref l]) Q E s := by
  have sz : items.size = ns.length := by
    have q := IntsAre.length hit
    rw [Array.length_toList] at q
    exact q
  obtain ⟨c, tl, hmro⟩ := F.called_set.mro
  have a1 := F.called_set.made
  have a2 := F.called_set.sub
  refine wpAny_call (codeAny_of_tree ?_)
  show wpAny _ _ (callAny (.type "set") _) _ _ _
  refine wpAny_pure ⟨Code.quiet_builtin _ (by decide +kernel), codeAny_builtin F.entry_type_call ?_⟩
  rw [Around.under_plain (weight_type_call_type "set" [.ref l] []) rfl]
  have a3 := F.called_set.notType
  have a4 := F.called_set.canCreate
  have a5 := F.typeCall_set_1 (.ref l)
  repeat (any_goals (first | assumption | wp_step))
  refine codeAny_mono (code_set_led1 (.ref l) (E := E) (Q₁ := fun obj s₁ => obj = .ref s.heap.objs.size ∧ s₁ = { s with heap := s.heap.push (newS w) }) ⟨rfl, rfl⟩) fun r s₁ hr => ?_
  cases r with
  | error e => exact hr
  | ok fl =>
    cases fl with
    | ret obj =>
      obtain ⟨rfl, rfl⟩ := hr
      have hS : (s.heap.push (newS w)).get? s.heap.objs.size = some (newS w) := Heap.get?_push_size _ rfl
      have hT : Shared.TypeIs { s with heap := s.heap.push (newS w) } (.ref s.heap.objs.size) "set" := ⟨_, hS, rfl⟩
      have a6 := F.called_set.init.lookup
      have a7 := F.called_set.init.bind (.ref s.heap.objs.size)
      repeat (any_goals (first | assumption | wp_step))
      refine codeAny_mono (codeAny_call_builtin (R := wants (fun r s₂ => r = .none ∧ ∃ h' tk c, s₂ = { s with heap := h', toks := tk } ∧ SetR w h' s.heap.objs.size (fun j => decide (j ∈ ns)) c ∧ c ≤ ns.length ∧
          (∀ b o, s.heap.get? b = some o → h'.get? b = some o)) E) F.called_set.init.plain F.entry_set_init (check_set_init_1 hT ?_)) fun r₂ s₂ hr₂ => ?_
      · obtain ⟨ol, hol, hcl, nl, hdl⟩ := hl
        obtain ⟨ocls, odict, odata, oslots⟩ := ol
        simp only at hcl hdl
        subst hcl; subst hdl
        have hol' : (s.heap.push (newS w)).get? l = some { cls := .type "list", dict := odict, data := .seq items nl, slots := oslots } := Heap.get?_push_of_some _ hol
        have b1 := F.sub_list_set
        have b2 := F.sub_list_frozenset
        have b3 : (Value.type "list" == Value.type "dict") = false := by decide
        have hl1 : (s.heap.push (newS w)).IsList l items := ⟨_, hol', rfl, nl, rfl⟩
        unfold Builtin.«set.__init__» noKeywords Builtin.Frozenset.updateFrom
        generalize hPI : pyIter = PI
        wp_walk
        subst hPI
        refine wpAny_pyIter_list hl1 (wpAny_bind (wpAny_runValue ?_))
        have hlS : l < s.heap.objs.size := Heap.lt_size hol
        have hh3 : A.in1.in1.in1.handled = none := by simp [hh]
        have z1 : (s.heap.push (newS w)).objs.size = s.heap.objs.size + 1 := Heap.size_push ..
        have hneI : l ≠ (s.heap.push (newS w)).objs.size := by rw [z1]; exact Nat.ne_of_lt (Nat.lt_succ_of_lt hlS)
        have hSf : s.heap.objs.size ∉ [(s.heap.push (newS w)).objs.size, l] := by
          rw [z1]
          intro m
          rcases List.mem_cons.mp m with m | m
          · exact Nat.ne_of_lt (Nat.lt_succ_self _) m
          · exact Nat.ne_of_gt hlS (List.mem_singleton.mp m)
        have hval : ∀ (i : Nat) (v : Value), items[i]? = some v → ∃ k t, ns[i]? = some k ∧ v = .int k t := fun i v hv => by
          have hi : i < ns.length := by rw [← sz]; exact (Array.getElem?_eq_some_iff.mp hv).1
          obtain ⟨t, e⟩ := PyProof.Rows.IntsAre.int_at hit i v (by rw [Array.getElem?_toList]; exact hv)
          refine ⟨ns[i], t, List.getElem?_eq_getElem hi, ?_⟩
          rw [e, List.getD_eq_getElem?_getD, List.getElem?_eq_getElem hi] <;> rfl
        refine set_update_ints ((Walks.list hh3 _ l hneI items).toS) s.heap.objs.size hSf ns sz hb hval (items.size - 0) 0 _ (by omega) (Nat.zero_le _) ⟨⟨_, Heap.get?_push_size _ rfl, rfl, rfl⟩, (hl1.push _)⟩ ?hS0 ?hR
        case hS0 =>
          have g0 : ((s.heap.push (newS w)).push { cls := .type "list_iterator", data := .fields #[.ref l, .int 0 0] }).get? s.heap.objs.size = some (newS w) := Heap.get?_push_of_some _ hS
          exact ⟨0, Nat.le_refl 0, setR_new_at g0⟩
        case hR =>
          intro s' c' hm hc' hS'
          obtain ⟨h', g2, d', tk', os'⟩ := s'
          have e1 : g2 = s.gens := hm.gens
          have e2 : d' = s.drawn := hm.drawn
          have e3 : os' = s.os := hm.os
          subst e1; subst e2; subst e3
          show wpAny _ _ _ _ _ _
          refine wpAny_pure ?_
          show wpAny _ _ (ret Value.none) _ _ _
          rw [sz] at hc'
          refine wpAny_pure ⟨rfl, h', tk', c', rfl, hS', hc', fun b o e => ?_⟩
          have hb0 : b < s.heap.objs.size := Heap.lt_size e
          have n1 : b ≠ s.heap.objs.size := Nat.ne_of_lt hb0
          have n2 : b ≠ (s.heap.push (newS w)).objs.size := by rw [z1]; exact Nat.ne_of_lt (Nat.lt_succ_of_lt hb0)
          refine hm.heap b o (fun m => ?_) (Heap.get?_push_of_some _ (Heap.get?_push_of_some _ e))
          rcases List.mem_cons.mp m with m | m
          · exact n1 m
          · exact n2 (List.mem_singleton.mp m)
      · cases r₂ with
        | error e => exact hr₂
        | ok fl₂ =>
          cases fl₂ with
          | ret r =>
            obtain ⟨rfl, h', tk, c', rfl, hS', hc', hk'⟩ := hr₂
            repeat (any_goals (first | assumption | wp_step))
            exact h _ _ _ hS' hc' hk'
          | _ => exact hr₂.elim
    | _ => exact hr.elim
end
def rSetL (K : PySem.W.Frag) (w : World) : List V → Hp → VK → Prop := fun xs H Q => ∃ (l : Addr) (ns : List Int), xs = [V.ref l] ∧ SqL K H l (ns.map V.int) ∧ ns.length < 60 ∧
  ∀ a c, H a = none → c ≤ ns.length → Q (.ref a) (upd H a (SetO w a (fun j => decide (j ∈ ns)) c))
theorem cr_setL {X : Cx} (hc : X.calm = true) : CallR X (.type "set") (rSetL X.K X.w) := fun pins s σ H xs us Q I r h => by
  obtain ⟨l, ns, rfl, hq, hn, q⟩ := h
  rw [Vals.ref1 r]
  obtain ⟨its, rv, pl, hz⟩ := I.list hq
  refine set_listI ns (I.ok.hd hc) pl.isList (by simpa using rv.ints) (by unfold scanBound; omega) fun h' tk c R hcn k => ?_
  have fr : H s.heap.objs.size = none := I.hok.fresh (Nat.le_refl _)
  exact ⟨.ref s.heap.objs.size, _, I.laid (t' := tk) (fun b u e => k b u e) (Nat.le_refl _) (setO_new R), rfl, q _ c fr hcn⟩

end Mh
/-! MhRules -/
namespace Mh
open PySem PySem.Spec PyProof.Rows L2

/-! ### for i, x in enumerate(t), t a tuple -/
section
variable {prog : Program} {w : World} {A : Around} {E : Value → Shared → Prop} {s : Shared}
theorem meets_enT (l : Addr) (items : Array Value) (n : Nat) (dct : Option Addr) (sl : Array (Option Value)) :
    Meets (Builtin.«enumerate.__new__» ⟨[.type "enumerate", .ref l], []⟩) (fun _ R s => s.heap.get? l = some { cls := .type "tuple", dict := dct, data := .seq items n, slots := sl } ∧
      R (.ok (.ret (.ref (s.heap.push { cls := .type "tuple_iterator", data := .fields #[.ref l, .int 0 0] }).objs.size)))
        { s with heap := (s.heap.push { cls := .type "tuple_iterator", data := .fields #[.ref l, .int 0 0] }).push { cls := .type "enumerate", data := .fields #[.none, .bool false, .ref s.heap.objs.size, rawInt 0, .none, .none] } }) :=
  .of_wp fun prog w A R s h => by
    obtain ⟨hp, g, d, tk, os⟩ := s
    obtain ⟨hl, h⟩ := h
    have hsub := sub_enumerate
    have hL : Heap.IsTuple (Shared.heap ⟨hp, g, d, tk, os⟩) l items := ⟨_, hl, rfl, n, rfl⟩
    wp_walk using AutoSeq1.wpAny_loadPart' hl
    refine wpAny_stack_any fun st => wpAny_pure ?_
    split
    · rename_i c _ _ _ _ _
      cases (c == Value.type "enumerate") <;> (wp_walk using AutoSeq1.wpAny_loadPart' hl, wpAny_pyIter_tuple hL; exact ⟨_, rfl, h⟩)
    · wp_walk using AutoSeq1.wpAny_loadPart' hl, wpAny_pyIter_tuple hL
      exact ⟨_, rfl, h⟩
theorem call_enT {l : Addr} {items : Array Value} {Q : Value → Shared → Prop} (hL : s.heap.IsTuple l items)
    (h : ∀ h', IsEnum h' (s.heap.objs.size + 1) s.heap.objs.size 0 .none → h'.IsTupleIter s.heap.objs.size l 0 → (∀ b o, s.heap.get? b = some o → h'.get? b = some o) → Q (.ref (s.heap.objs.size + 1)) { s with heap := h' }) :
    wpAny (model prog w) A (call (.type "enumerate") [.ref l]) Q E s := by
  obtain ⟨⟨c, dct, dt, sl⟩, hl, hc, n, hd⟩ := hL
  replace hc : c = .type "tuple" := hc
  replace hd : dt = .seq items n := hd
  subst hc hd
  refine callType_new F.called_enumerate (by decide) (F.typeCall_enumerate_1 _) (F.newCall_enumerate_1 _) (fun obj => F.args_object_init_2 obj _) F.entry_enumerate_new (meets_enT l items n dct sl) ⟨hl, ?_⟩
  have hz : (s.heap.push { cls := .type "tuple_iterator", data := .fields #[.ref l, .int 0 0] }).objs.size = s.heap.objs.size + 1 := Heap.size_push ..
  show _ ∧ _
  rw [hz]
  have he : IsEnum ((s.heap.push { cls := .type "tuple_iterator", data := .fields #[.ref l, .int 0 0] }).push { cls := .type "enumerate", data := .fields #[.none, .bool false, .ref s.heap.objs.size, rawInt 0, .none, .none] }) (s.heap.objs.size + 1) s.heap.objs.size 0 .none := by
    have q := Heap.get?_push_size (s.heap.push { cls := .type "tuple_iterator", data := .fields #[.ref l, .int 0 0] }) (o := { cls := .type "enumerate", data := .fields #[.none, .bool false, .ref s.heap.objs.size, rawInt 0, .none, .none] }) rfl
    rw [hz] at q
    exact q
  exact ⟨⟨_, he, rfl⟩, h _ he ⟨_, Heap.get?_push_of_some _ (Heap.get?_push_size _ rfl), rfl, rfl⟩ fun b o x => Heap.get?_push_of_some _ (Heap.get?_push_of_some _ x)⟩
theorem enT_end {e it l : Addr} {i : Nat} {items : Array Value} {old : Value} {Q : Option Value → Shared → Prop} (hh : A.handled = none)
    (he : IsEnum s.heap e it i old) (hit : s.heap.IsTupleIter it l i) (hl : s.heap.IsTuple l items) (hx : items[i]? = none) (hQ : ∀ h', Heap.ExtBut it s.heap h' → Q none { s with heap := h' }) : wpAny (model prog w) A (pyNext (.ref e)) Q E s := by
  have hT : s.TypeIs (.ref e) "enumerate" := ⟨_, he, rfl⟩
  unfold pyNext
  refine wpAny_bind (wpAny_attempt (wpAny_callSpecial?_slot (name := Str.ofString "__next__") hT F.slot_enumerate_next (wpAny_call_entry F.slot_enumerate_next hT F.entry_enumerate_next ?_ (F.args_enumerate_next_1 _))))
  show wpAny _ _ (field (.ref e) 2 >>= _) _ _ _
  refine wpAny_bind (wpAny_field he rfl (x := .ref it) rfl ?_)
  refine wpAny_bind (RZ.nextOf_tuple_end hh hit hl hx fun h' x he' hx' => ?_)
  obtain ⟨o, ho, hc⟩ := hx'
  exact wpAny_bind (wpAny_isInstance (T := "StopIteration") (b := true) ⟨o, ho, hc⟩ isSubtype_stop (wpAny_pure (hQ _ he')))
end
def IteT (K : PySem.W.Frag) (a : Addr) : It :=
  ⟨fun i H => ∃ (xs : List V) (x : V), SqT K H a xs ∧ xs[i]? = some x, fun i H v H' => ∃ T x, v = .ref T ∧ H T = none ∧ H' = upd H T (.tup [.int (i : Nat), x]) ∧ ∀ xs, SqT K H a xs → xs[i]? = some x, fun i H => ∃ xs : List V, SqT K H a xs ∧ xs.length ≤ i⟩
theorem turn_enT {P : Program} {w : World} {K : PySem.W.Frag} {elts : List Expr} {kk : Nat} {tpos : Pos} (a e it : Addr) :
    Turn P w K (.Tuple elts kk tpos) (IteT K a) [e, it] e (fun i h => (∃ old, IsEnum h e it ((i : Nat) : Int) old) ∧ h.IsTupleIter it a i ∧ e ≠ it) where
  mem := by simp
  obj := fun i h st b hb => by
    obtain ⟨⟨old, he⟩, ⟨o, ho, hc, hd⟩, _⟩ := st
    have e' : b = e ∨ b = it := by simpa using hb
    rcases e' with z | z
    · rw [z]; exact ⟨_, he, fun v q => nomatch q⟩
    · rw [z]; exact ⟨o, ho, fun v q => by rw [hd] at q; cases q⟩
  keep := fun i h h' st k => let ⟨⟨old, he⟩, hi, hne⟩ := st; ⟨⟨old, k e (by simp) _ he⟩, hi.at fun o q => k it (by simp) o q, hne⟩
  item := fun {X} hP hw hK hc i pins s σ H E I hf st hg => by
    subst hP hw hK
    obtain ⟨⟨old, he⟩, hit, hne⟩ := st
    obtain ⟨xs, x, hq, hx⟩ := hg
    obtain ⟨its, rv, p, hz⟩ := I.tuple hq
    obtain ⟨u, hu, ru⟩ := rv.get hx
    have hel : e < s.heap.objs.size := Heap.lt_size he
    have hil : it < s.heap.objs.size := by obtain ⟨_, q, _⟩ := hit; exact Heap.lt_size q
    have hat : a ≠ it := fun z => by
      obtain ⟨o1, q1, c1, _⟩ := hit
      obtain ⟨o2, q2, c2, _⟩ := p
      rw [z, q1] at q2
      rw [← Option.some.inj q2, c1] at c2
      exact absurd (Value.type.inj c2) (by decide)
    have hae : e ≠ a := fun z => by
      obtain ⟨o2, q2, c2, _⟩ := p
      rw [← z, he] at q2
      rw [← Option.some.inj q2] at c2
      exact absurd (Value.type.inj c2) (by decide)
    have hlt : i < its.toArray.size := by
      have := (List.getElem?_eq_some_iff.mp hu).1
      simpa using this
    refine wpAny_pyNext_enum_itemD (Draws.tuple (by rw [show X.A.in1.handled = X.A.handled from rfl]; exact I.ok.hd hc) it a hat its.toArray) he ⟨hit, p⟩ hlt hne (fun m => ?_) fun x1 h' tk hx1 ho hst' hT hsz hk => ?_
    · rcases List.mem_cons.mp m with m | m
      · exact hne m
      · exact hae (List.mem_singleton.mp m)
    obtain ⟨hit', _⟩ := hst'
    have e1 : x1 = u := by
      have q : its[i]? = some x1 := by simpa using hx1
      rw [hu] at q
      exact (Option.some.inj q).symm
    subst e1
    refine ⟨_, rfl, wpAny_letOwnedTupleGo_enum (s := { s with heap := h', toks := tk + 1 }) ho fun h'' he' sb => ?_⟩
    have hT2 : h''.get? s.heap.objs.size = some { cls := .type "tuple", data := .seq #[.int i tk, x1] } := (sb.2 _ (Nat.ne_of_gt hel)).trans hT
    have new : ObjOk X.prog X.w (upd H s.heap.objs.size (.tup [.int (i : Nat), x])) h'' s.heap.objs.size (.tup [.int (i : Nat), x]) :=
      ⟨by show 2 ≤ sizeLine; decide, [.int i tk, x1], .cons ⟨_, rfl⟩ (.cons ru .nil), ⟨_, hT2, rfl, _, rfl⟩⟩
    have I1 : Inv X pins σ (upd H s.heap.objs.size (.tup [.int (i : Nat), x])) { s with heap := h'', toks := tk + 1 } :=
      I.turnedNew (ch := [e, it]) (fun b ob hb q => (sb.2 b (fun z => hb (by simp [z]))).trans (hk b ob (fun z => hb (by simp [z])) (fun z => hb (by simp [z])) q)) hf (Nat.le_refl _) new
    refine ⟨.ref s.heap.objs.size, _, I1, rfl, ⟨_, x, rfl, I.hok.fresh (Nat.le_refl _), rfl, fun ys hy => by rw [I.tuple_inj hy hq]; exact hx⟩, ⟨⟨x1, ?_⟩, hit'.at fun o q => (sb.2 it (Ne.symm hne)).trans q, hne⟩, fun b hb => ?_⟩
    · have e2 : ((i + 1 : Nat) : Int) = (i : Int) + 1 := by omega
      rw [e2]
      exact he'
    · have hb' : b < s.heap.objs.size := by
        have e' : b = e ∨ b = it := by simpa using hb
        rcases e' with z | z
        · rw [z]; exact hel
        · rw [z]; exact hil
      rw [upd_ne (Nat.ne_of_lt hb')]
      exact (hf b hb).1
  done := fun {X} hP hw hK hc i pins s σ H E I hf st hg => by
    subst hP hw hK
    obtain ⟨⟨old, he⟩, hit, hne⟩ := st
    obtain ⟨xs, hq, hx⟩ := hg
    obtain ⟨its, rv, p, hz⟩ := I.tuple hq
    have hl := rv.length
    have hat : a ≠ it := fun z => by
      obtain ⟨o1, q1, c1, _⟩ := hit
      obtain ⟨o2, q2, c2, _⟩ := p
      rw [z, q1] at q2
      rw [← Option.some.inj q2, c1] at c2
      exact absurd (Value.type.inj c2) (by decide)
    obtain ⟨f0, f1, f2, f3, f4, f5⟩ := hf it (by simp)
    refine enT_end (I.ok.hd hc) he hit p (by simp; omega) fun h' eb => ⟨rfl, I.turned (t' := s.toks) (fun b o hb q => eb b o hb q) f0 f1 f3 f4 f5⟩
  self := fun A i s Q E st h => let ⟨⟨_, he⟩, _⟩ := st; wpAny_pyIter_enum he h
def iEnT (K : PySem.W.Frag) (ta : TA) : TI := fun σ H R => ta σ H fun vs H1 => ∃ a xs, vs = [.ref a] ∧ SqT K H1 a xs ∧ R (IteT K a) H1
theorem pi_enumT {X : Cx} {e : Expr} {ta : TA} {p pos tpos : Pos} {elts : List Expr} {kk : Nat} (hg : Gl X "enumerate") (hm : X.mg "enumerate" = none) (ha : PA X [e] ta) (hs : starEach [e] X.env = [(false, eval e X.env)] := by rfl) :
    PI X (.Tuple elts kk tpos) (.Call (.Name "enumerate" p) [e] [] pos) (iEnT X.K ta) := ⟨fun pins s σ H R I h => by
  refine Call_ (ld_blt I hg hm boot_enumerate (PyProof.Rows.callWith_type1 (thn (ha.run pos pins s σ H _ I h) fun us s1 ⟨vs, H1, I1, r1, q1⟩ => ?_) hs rfl))
  obtain ⟨a, xs, ex, hq, q⟩ := q1
  subst ex
  rw [Vals.ref1 r1]
  obtain ⟨its, rv, p', hz⟩ := I1.tuple hq
  refine call_enT p' fun h' he hit hk => wpAny_pyIter_enum he ?_
  have I2 : Inv X pins σ H1 { s1 with heap := h' } := I1.kept (t' := s1.toks) hk
  refine ⟨s1.heap.objs.size + 1, [s1.heap.objs.size + 1, s1.heap.objs.size], _, _, H1, rfl, I2, turn_enT a (s1.heap.objs.size + 1) s1.heap.objs.size, ⟨⟨.none, he⟩, hit, Nat.succ_ne_self _⟩, fun b hb => ?_, q⟩
  have hle : s1.heap.objs.size ≤ b := by
    rcases List.mem_cons.mp hb with z | z
    · rw [z]; exact Nat.le_add_right _ _
    · rw [List.mem_singleton.mp z]; exact Nat.le_refl _
  exact I1.fpOk hle (I1.hok.fresh hle)⟩
/-- a loop over enumerate(t) -/
theorem for_enT {K : PySem.W.Frag} {a : Addr} {xs : List V} {g : TG} {tb : TS} {D : Ends} {σ : L2.St} {H : Hp} (Pv : Nat → L2.St → Hp → Prop) (h0 : Pv 0 σ H) (hq : ∀ i σ H, Pv i σ H → SqT K H a xs)
    (hs : ∀ (i : Nat) (x : V) (T : Addr) (σ : L2.St) (H : Hp), xs[i]? = some x → Pv i σ H → H T = none → g (.ref T) σ (upd H T (.tup [.int (i : Nat), x])) fun σ2 H2 => tb { D with nx := Pv (i + 1), ct := Pv (i + 1), bk := D.nx } σ2 H2) (hd : ∀ σ H, Pv xs.length σ H → D.nx σ H) :
    ∃ W : Nat → Nat → L2.St → Hp → Prop, (∃ m, W 0 m σ H) ∧ ∀ i m σ H, W i m σ H →
      ((IteT K a).stop i H ∧ D.nx σ H) ∨ ((IteT K a).go i H ∧ ∃ N : L2.St → Hp → Prop, (∀ σ' H', N σ' H' → ∃ m', m' < m ∧ W (i + 1) m' σ' H') ∧ ∀ v H', (IteT K a).yld i H v H' → g v σ H' fun σ2 H2 => tb { D with nx := N, ct := N, bk := D.nx } σ2 H2) := by
  refine ⟨fun i m σ H => m = xs.length - i ∧ i ≤ xs.length ∧ Pv i σ H, ⟨xs.length, rfl, Nat.zero_le _, h0⟩, ?_⟩
  rintro i m σ H ⟨rfl, hi, p⟩
  have q := hq i σ H p
  by_cases hlt : i < xs.length
  · refine .inr ⟨⟨xs, xs[i], q, List.getElem?_eq_getElem hlt⟩, Pv (i + 1), fun σ' H' p' => ⟨xs.length - (i + 1), by omega, rfl, hlt, p'⟩, fun v H' y => ?_⟩
    obtain ⟨T, x', rfl, hT, rfl, f1⟩ := y
    exact hs i x' T σ H (f1 xs q) p hT
  · have e : i = xs.length := by omega
    subst e
    exact .inl ⟨⟨xs, q, Nat.le_refl _⟩, hd σ H p⟩
/-- a comprehension over enumerate(t) -/
theorem lc_enT {K : PySem.W.Frag} {a : Addr} {xs : List V} {g : TG} {tt : TT} {te : TE} {vs : List Nat} {σ : L2.St} {H1 : Hp} {D : Addr} {Qd : Hp → Prop} (Pv : Nat → Hp → Prop) (h0 : Pv 0 (upd H1 D (.lst []))) (hl : ∀ i H, Pv i H → SqT K H a xs)
    (hs : ∀ (i : Nat) (x : V) (T : Addr) H, xs[i]? = some x → Pv i H → H T = none → g (.ref T) (wipe σ vs) (upd H T (.tup [.int (i : Nat), x])) fun σ2 H2 => wipe σ2 vs = wipe σ vs ∧ tt σ2 H2 fun b H3 =>
      if b = true then te σ2 H3 fun y H4 => ∃ acc, H4 D = some (.lst acc) ∧ acc.length < sizeLine ∧ Pv (i + 1) (upd H4 D (.lst (acc ++ [y]))) else Pv (i + 1) H3) (hd : ∀ H, Pv xs.length H → Qd H) :
    ∃ W : Nat → Nat → Hp → Prop, (∃ m, W 0 m (upd H1 D (.lst []))) ∧ ∀ i m H, W i m H →
      ((IteT K a).stop i H ∧ Qd H) ∨ ((IteT K a).go i H ∧ ∃ Nx : Hp → Prop, (∀ H', Nx H' → ∃ m', m' < m ∧ W (i + 1) m' H') ∧ ∀ x H', (IteT K a).yld i H x H' → g x (wipe σ vs) H' fun σ2 H2 => wipe σ2 vs = wipe σ vs ∧ tt σ2 H2 fun b H3 =>
        if b = true then te σ2 H3 fun y H4 => ∃ acc, H4 D = some (.lst acc) ∧ acc.length < sizeLine ∧ Nx (upd H4 D (.lst (acc ++ [y]))) else Nx H3) := by
  refine ⟨fun i m H => m = xs.length - i ∧ i ≤ xs.length ∧ Pv i H, ⟨xs.length, by simp, Nat.zero_le _, h0⟩, ?_⟩
  rintro i m H ⟨rfl, hi, p⟩
  have q := hl i H p
  by_cases hlt : i < xs.length
  · refine .inr ⟨⟨xs, xs[i], q, List.getElem?_eq_getElem hlt⟩, Pv (i + 1), fun H' p' => ⟨xs.length - (i + 1), by omega, rfl, hlt, p'⟩, fun x H' y => ?_⟩
    obtain ⟨T, x', rfl, hT, rfl, f1⟩ := y
    exact hs i x' T H (f1 xs q) p hT
  · have e : i = xs.length := by omega
    subst e
    exact .inl ⟨⟨xs, q, Nat.le_refl _⟩, hd H p⟩
end Mh
/-! MhMore -/
namespace Mh
open PySem PySem.Spec PyProof.Rows L2
/-- an object of one's own, new since H0, may change -/
theorem Fx.loc {M : List Addr} {H0 H : Hp} {D : Addr} {o : HO} (a : Fx M H0 H) (h : H0 D = none) (c : Chg H D) : Fx M H0 (upd H D o) :=
  ((a.mono fun x m => List.mem_cons_of_mem _ m).trans (Fx.set (M := D :: M) List.mem_cons_self c)).drop h
theorem Fx.ne {M : List Addr} {H0 H : Hp} {p q : Addr} {o : HO} (a : Fx M H0 H) (h : H0 p = some o) (h2 : H q = none) : p ≠ q := fun z => by
  have := a.free h2
  rw [← z, h] at this
  cases this
theorem execs_app (env : Env) (b : List Stmt) : ∀ a : List Stmt, execs (a ++ b) env = execs a env >>= fun f => match f with | .next => execs b env | f => pure f
  | [] => by
    show execs b env = pure Flow.next >>= _
    rw [pure_bind]
  | st :: r => by
    show (exec st env >>= fun f => match f with | .next => execs (r ++ b) env | f => pure f) = ((exec st env >>= fun f => match f with | .next => execs r env | f => pure f) >>= _)
    rw [bind_assoc]
    congr 1
    funext f
    cases f with
    | next => exact execs_app env b r
    | _ => rw [pure_bind]
/-- a block in two parts, a word between them -/
theorem pss_at {X : Cx} {st : List Stmt} {t u : TS} (n : Nat) (h1 : PSs X (st.take n) t) (h2 : PSs X (st.drop n) u) : PSs X st (Evl.tCut t u) := by
  refine ⟨fun pins s σ H D I h => ?_⟩
  obtain ⟨Mid, hm, hu⟩ := h
  rw [← List.take_append_drop n st, execs_app]
  refine wpAny_bind (thn (h1.run pins s σ H { D with nx := Mid } I hm) fun f s1 q => ?_)
  cases f with
  | next =>
    obtain ⟨σ', H', I', q⟩ := q
    exact h2.run pins s1 σ' H' D I' (hu σ' H' q)
  | ret v => exact wpAny_pure q
  | brk => exact wpAny_pure q
  | cont => exact wpAny_pure q
section
variable {X : Cx} {K : PySem.W.Frag}
theorem kix_list (h : X.K = K) : IxR X (rIxL K) := by rw [← h]; exact ix_list
theorem kix_tup (h : X.K = K) : IxR X (rIxT K) := by rw [← h]; exact ix_tup
theorem kix_seq (h : X.K = K) : IxR X (rIx K) := by rw [← h]; exact ix_seq
theorem kop_in (h : X.K = K) : OpR X (compareOp .In) (rIn K false) := by rw [← h]; exact op_in_seq
theorem kop_notIn (h : X.K = K) : OpR X (compareOp .NotIn) (rIn K true) := by rw [← h]; exact op_notIn_seq
theorem kcall_isi (h : X.K = K) : CallR X (.builtin "isinstance") (rIsD K) := by rw [← h]; exact call_isiD
theorem kcr_all (h : X.K = K) (hc : X.calm = true) : CallR X (.builtin "all") (rAll K) := by rw [← h]; exact cr_all hc
theorem kcr_sum (h : X.K = K) (hc : X.calm = true) : CallR X (.builtin "sum") (rSum K) := by rw [← h]; exact cr_sum hc
theorem kop_eqD (h : X.K = K) (hu : X.A.units + 64 < cLine) : OpR X (compareOp .Eq) (rEqD K) := by rw [← h]; exact op_eqD hu
theorem kop_neD (h : X.K = K) (hu : X.A.units + 64 < cLine) : OpR X (compareOp .NotEq) (rNeD K) := by rw [← h]; exact op_neD hu
theorem ksl_tup (h : X.K = K) : SlR X (rSlT K) := by rw [← h]; exact sl_tup
theorem ksl_list (h : X.K = K) : SlR X (rSlL K) := by rw [← h]; exact sl_list
def rLenK (K : PySem.W.Frag) : List V → Hp → VK → Prop := fun xs H Q => ∃ p ys, xs = [.ref p] ∧ (SqL K H p ys ∨ SqT K H p ys) ∧ Q (.int ys.length) H
theorem kcall_len (h : X.K = K) : CallR X (.builtin "len") (rLenK K) := by rw [← h]; exact call_len_seq
def rTupK (K : PySem.W.Frag) : List V → Hp → VK → Prop := fun xs H Q => ∃ p ys, xs = [.ref p] ∧ ((SqL K H p ys ∧ ∀ l, H l = none → Q (.ref l) (upd H l (.tup ys))) ∨ (SqT K H p ys ∧ Q (.ref p) H))
theorem kcall_tuple (h : X.K = K) : CallR X (.type "tuple") (rTupK K) := by rw [← h]; exact call_tuple_of
def rLstK (K : PySem.W.Frag) : List V → Hp → VK → Prop := fun xs H Q => ∃ p ys, xs = [.ref p] ∧ (SqL K H p ys ∨ SqT K H p ys) ∧ ∀ l, H l = none → Q (.ref l) (upd H l (.lst ys))
theorem kcall_list (h : X.K = K) : CallR X (.type "list") (rLstK K) := by rw [← h]; exact call_list_of
theorem kpi_list {tg l : Expr} {tl : TE} (h : X.K = K) (hl : PE X l tl) : PI X tg l (iList K tl) := by rw [← h]; exact pi_list hl
theorem kpi_tup {tg l : Expr} {tl : TE} (h : X.K = K) (hl : PE X l tl) : PI X tg l (iTup K tl) := by rw [← h]; exact pi_tup hl
end
section
variable {K : PySem.W.Frag} {a b : Addr} {xs ys : List V}
theorem walk_enT : Walk (IteT K a) xs.length (fun H => SqT K H a xs) (YPair (fun i => some (.int (i : Nat))) (fun i => xs[i]?)) := by
  refine ⟨fun i _ hi q => ⟨xs, xs[i], q, List.getElem?_eq_getElem hi⟩, fun _ q => ⟨xs, q, Nat.le_refl _⟩, fun i H v H' _ q y => ?_⟩
  obtain ⟨T, x, h1, h2, h3, h4⟩ := y
  exact ⟨T, .int (i : Nat), x, h1, h2, h3, rfl, h4 xs q⟩
theorem walk_zipT {n : Nat} (hn : n = min xs.length ys.length) : Walk (RZ.ItzT K a b) n (fun H => SqT K H a xs ∧ SqT K H b ys) (YPair (fun i => xs[i]?) (fun i => ys[i]?)) := by
  subst hn
  refine ⟨fun i _ hi q => ?_, fun _ q => ⟨xs, ys, q.1, q.2, by omega⟩, fun i H v H' _ q y => ?_⟩
  · have h1 : i < xs.length := by omega
    have h2 : i < ys.length := by omega
    exact ⟨xs, ys, xs[i], ys[i], q.1, q.2, List.getElem?_eq_getElem h1, List.getElem?_eq_getElem h2⟩
  · obtain ⟨T, x, z, h1, h2, h3, h4, h5⟩ := y
    exact ⟨T, x, z, h1, h2, h3, h4 xs q.1, h5 ys q.2⟩
theorem YAt.fx {M : List Addr} {i : Nat} {H H' : Hp} {x : V} (y : YAt xs i H x H') : Fx M H H' := by rw [y.1]; exact .refl
theorem YFn.fx {M : List Addr} {f : Nat → V} {i : Nat} {H H' : Hp} {x : V} (y : YFn f i H x H') : Fx M H H' := by rw [y.1]; exact .refl
theorem YPair.fx {M : List Addr} {p q : Nat → Option V} {i : Nat} {H H' : Hp} {x : V} (y : YPair p q i H x H') : Fx M H H' := by
  obtain ⟨T, _, _, _, h, e, _⟩ := y
  rw [e]
  exact .new h
theorem YPair.tup {p q : Nat → Option V} {i : Nat} {H H' : Hp} {x : V} (y : YPair p q i H x H') : ∃ T u v, x = .ref T ∧ H' T = some (.tup [u, v]) ∧ p i = some u ∧ q i = some v := by
  obtain ⟨T, u, v, h1, h, e, h2, h3⟩ := y
  exact ⟨T, u, v, h1, by rw [e]; exact upd_same, h2, h3⟩
end
section
variable {J : It} {n : Nat} {G : Hp → Prop} {Y : Nat → Hp → V → Hp → Prop}
/-- what stands while a comprehension runs: R by the turn, what is made so far (it stands at D), the heap -/
def Pvl (R : Nat → List V → Hp → Prop) (D : Addr) (i : Nat) (H : Hp) : Prop := ∃ acc, acc.length ≤ i ∧ H D = some (.lst acc) ∧ R i acc H
def Put (R : Nat → List V → Hp → Prop) (D : Addr) (i : Nat) : VK := fun y H => ∃ acc, H D = some (.lst acc) ∧ acc.length < sizeLine ∧ Pvl R D i (upd H D (.lst (acc ++ [y])))
theorem Put.ok {R : Nat → List V → Hp → Prop} {D : Addr} {i : Nat} {y : V} {H : Hp} {acc : List V} (hl : acc.length ≤ i) (hi : i < 1000000) (hD : H D = some (.lst acc)) (r : R (i + 1) (acc ++ [y]) (upd H D (.lst (acc ++ [y])))) : Put R D (i + 1) y H :=
  ⟨acc, hD, Nat.lt_of_lt_of_le (show acc.length < 1000000 by omega) (by decide), acc ++ [y], by rw [List.length_append]; exact Nat.succ_le_succ hl, upd_same, r⟩
theorem Pvl.skip {R : Nat → List V → Hp → Prop} {D : Addr} {i : Nat} {H : Hp} {acc : List V} (hl : acc.length ≤ i) (hD : H D = some (.lst acc)) (r : R (i + 1) acc H) : Pvl R D (i + 1) H := ⟨acc, Nat.le_succ_of_le hl, hD, r⟩
theorem lc_rel (w : Walk J n G Y) {g : TG} {tt : TT} {te : TE} {vs : List Nat} {σ : L2.St} {H1 : Hp} {D : Addr} {Qd : Hp → Prop} (R : Nat → List V → Hp → Prop) (h0 : R 0 [] (upd H1 D (.lst []))) (hG : ∀ i acc H, R i acc H → G H)
    (hs : ∀ i acc x H H', i < n → acc.length ≤ i → H D = some (.lst acc) → R i acc H → Y i H x H' → g x (wipe σ vs) H' fun σ2 H2 => wipe σ2 vs = wipe σ vs ∧ tt σ2 H2 fun b H3 =>
      if b = true then te σ2 H3 (Put R D (i + 1)) else Pvl R D (i + 1) H3)
    (hd : ∀ acc H, acc.length ≤ n → H D = some (.lst acc) → R n acc H → Qd H) :
    ∃ W : Nat → Nat → Hp → Prop, (∃ m, W 0 m (upd H1 D (.lst []))) ∧ ∀ i m H, W i m H →
      (J.stop i H ∧ Qd H) ∨ (J.go i H ∧ ∃ Nx : Hp → Prop, (∀ H', Nx H' → ∃ m', m' < m ∧ W (i + 1) m' H') ∧ ∀ x H', J.yld i H x H' → g x (wipe σ vs) H' fun σ2 H2 => wipe σ2 vs = wipe σ vs ∧ tt σ2 H2 fun b H3 =>
        if b = true then te σ2 H3 fun y H4 => ∃ acc, H4 D = some (.lst acc) ∧ acc.length < sizeLine ∧ Nx (upd H4 D (.lst (acc ++ [y]))) else Nx H3) :=
  lc_it w (Pvl R D) ⟨[], Nat.le_refl _, upd_same, h0⟩ (fun i H _ ⟨acc, _, _, r⟩ => hG i acc H r) (fun i x H H' hi ⟨acc, hl, hD, r⟩ y => hs i acc x H H' hi hl hD r y) (fun H ⟨acc, hl, hD, r⟩ => hd acc H hl hD r)
/-- a comprehension without a test whose i-th item is f i, that leaves what stood -/
theorem lc_map (w : Walk J n G Y) {g : TG} {te : TE} {vs : List Nat} {σ : L2.St} {H1 : Hp} {D : Addr} {Qd : Hp → Prop} (f : Nat → V) (hn : n < 1000000) (hD : H1 D = none) (hG : ∀ H, Fx [] H1 H → G H) (hY : ∀ i H x H', Y i H x H' → Fx [] H H')
    (hs : ∀ i x H H' (Qe : VK) (Z : Hp → Prop), i < n → Fx [] H1 H → Y i H x H' → (∀ H4, Fx [] H' H4 → Qe (f i) H4) → g x (wipe σ vs) H' fun σ2 H2 => wipe σ2 vs = wipe σ vs ∧ (if true = true then te σ2 H2 Qe else Z H2))
    (hd : ∀ H, Fx [] H1 H → H D = some (.lst ((List.range n).map f)) → Qd H) :
    ∃ W : Nat → Nat → Hp → Prop, (∃ m, W 0 m (upd H1 D (.lst []))) ∧ ∀ i m H, W i m H →
      (J.stop i H ∧ Qd H) ∨ (J.go i H ∧ ∃ Nx : Hp → Prop, (∀ H', Nx H' → ∃ m', m' < m ∧ W (i + 1) m' H') ∧ ∀ x H', J.yld i H x H' → g x (wipe σ vs) H' fun σ2 H2 => wipe σ2 vs = wipe σ vs ∧ tYes σ2 H2 fun b H3 =>
        if b = true then te σ2 H3 fun y H4 => ∃ acc, H4 D = some (.lst acc) ∧ acc.length < sizeLine ∧ Nx (upd H4 D (.lst (acc ++ [y]))) else Nx H3) :=
  lc_rel w (fun i acc H => Fx [] H1 H ∧ acc = (List.range i).map f) ⟨Fx.new hD, rfl⟩ (fun i acc H r => hG H r.1) (fun i acc x H H' hi hl hDa r y =>
    hs i x H H' _ (Pvl (fun i acc H => Fx [] H1 H ∧ acc = (List.range i).map f) D (i + 1)) hi r.1 y fun H4 k => by
      have k2 := (r.1.trans (hY i H x H' y)).trans k
      have hD4 : H4 D = some (.lst acc) := k.to ((hY i H x H' y).to hDa fun m => nomatch m) fun m => nomatch m
      exact Put.ok hl (by omega) hD4 ⟨k2.loc hD (Chg.lst hD4), by rw [r.2, List.range_succ, List.map_append]; rfl⟩)
    (fun acc H _ hDa r => hd H r.1 (by rw [hDa, r.2]))
end
end Mh
/-! MhOrd -/
namespace Mh
open PySem PySem.Spec PyProof.Rows L2
/-! ### orders: just one sorted arrangement -/
theorem perm_uniq {α : Type} {R : α → α → Prop} (anti : ∀ x y, R x y → R y x → x = y) : ∀ {l m : List α}, l.Pairwise R → m.Pairwise R → l.Perm m → l = m
  | [], m, _, _, h => (List.Perm.eq_nil h.symm).symm
  | x :: l, [], _, _, h => absurd h.length_eq (by simp)
  | x :: l, y :: m, hl, hm, h => by
    have e : x = y := by
      rcases List.mem_cons.mp (h.mem_iff.mp (List.mem_cons_self (a := x) (l := l))) with e | hx
      · exact e
      · rcases List.mem_cons.mp (h.mem_iff.mpr (List.mem_cons_self (a := y) (l := m))) with e | hy
        · exact e.symm
        · exact anti x y ((List.pairwise_cons.mp hl).1 y hy) ((List.pairwise_cons.mp hm).1 x hx)
    subst e
    rw [perm_uniq anti (List.pairwise_cons.mp hl).2 (List.pairwise_cons.mp hm).2 h.cons_inv]
def leS (x y : Str) : Bool := !ltCps y.cps.toList x.cps.toList
theorem leS_iff {x y : Str} : leS x y = true ↔ x.cps.toList ≤ y.cps.toList := by
  unfold leS
  rw [ltCps_eq]
  simp only [Bool.not_eq_true', decide_eq_false_iff_not, List.not_lt]
theorem leS_trans (x y z : Str) (h1 : leS x y = true) (h2 : leS y z = true) : leS x z = true := leS_iff.mpr (List.le_trans (leS_iff.mp h1) (leS_iff.mp h2))
theorem leS_total (x y : Str) : (leS x y || leS y x) = true := by
  rw [Bool.or_eq_true, leS_iff, leS_iff]
  exact List.le_total _ _
theorem leS_anti (x y : Str) (h1 : leS x y = true) (h2 : leS y x = true) : x = y := by
  have e := List.le_antisymm (leS_iff.mp h1) (leS_iff.mp h2)
  cases x
  cases y
  simp only at e
  rw [Array.toList_inj.mp e]
def sortS (xs : List Str) : List Str := xs.mergeSort leS
theorem sortS_perm (xs : List Str) : (sortS xs).Perm xs := List.mergeSort_perm _ _
theorem sortS_pw (xs : List Str) : (sortS xs).Pairwise (fun x y => leS x y = true) := List.pairwise_mergeSort leS_trans leS_total xs
theorem risingS_pw : ∀ {r : List Str} {p : Str}, risingS p r = true → (p :: r).Pairwise fun x y => leS x y = true
  | [], p, _ => List.pairwise_singleton _ _
  | x :: r, p, h => by
    obtain ⟨h1, h2⟩ := Bool.and_eq_true_iff.mp (show (leS p x && risingS x r) = true from h)
    have ih := risingS_pw h2
    refine List.pairwise_cons.mpr ⟨fun y hy => ?_, ih⟩
    rcases List.mem_cons.mp hy with e | hy
    · rw [e]; exact h1
    · exact leS_trans p x y h1 ((List.pairwise_cons.mp ih).1 y hy)
theorem sortedS_pw {xs : List Str} (h : sortedS xs = true) : xs.Pairwise fun x y => leS x y = true := by
  cases xs with
  | nil => exact List.Pairwise.nil
  | cons x r => exact risingS_pw h
theorem sortS_uniq {ys xs : List Str} (h1 : ys.Perm xs) (h2 : sortedS ys = true) : ys = sortS xs :=
  perm_uniq leS_anti (sortedS_pw h2) (sortS_pw xs) (h1.trans (sortS_perm xs).symm)
theorem sortS_mem {xs : List Str} {x : Str} : x ∈ sortS xs ↔ x ∈ xs := (sortS_perm xs).mem_iff
theorem sortS_len (xs : List Str) : (sortS xs).length = xs.length := (sortS_perm xs).length_eq
theorem sortS_nodup {xs : List Str} (h : xs.Nodup) : (sortS xs).Nodup := (sortS_perm xs).nodup_iff.mpr h
theorem sortS_congr {xs ys : List Str} (h : xs.Perm ys) : sortS xs = sortS ys :=
  perm_uniq leS_anti (sortS_pw xs) (sortS_pw ys) ((sortS_perm xs).trans (h.trans (sortS_perm ys).symm))

/-! ### rows by a number, then a text -/
def leK (p q : Int × Str) : Bool := if p.1 = q.1 then leS p.2 q.2 else decide (p.1 < q.1)
theorem leK_trans (x y z : Int × Str) (h1 : leK x y = true) (h2 : leK y z = true) : leK x z = true := by
  unfold leK at *
  split at h1
  · rename_i e1
    split at h2
    · rename_i e2
      rw [if_pos (e1.trans e2)]
      exact leS_trans _ _ _ h1 h2
    · rename_i e2
      have h3 := of_decide_eq_true h2
      rw [if_neg (by omega)]
      exact decide_eq_true (by omega)
  · rename_i e1
    have h4 := of_decide_eq_true h1
    split at h2
    · rename_i e2
      rw [if_neg (by omega)]
      exact decide_eq_true (by omega)
    · have h3 := of_decide_eq_true h2
      rw [if_neg (by omega)]
      exact decide_eq_true (by omega)
theorem leK_total (x y : Int × Str) : (leK x y || leK y x) = true := by
  unfold leK
  by_cases e : x.1 = y.1
  · rw [if_pos e, if_pos e.symm]
    exact leS_total _ _
  · rw [if_neg e, if_neg fun z => e z.symm, Bool.or_eq_true, decide_eq_true_iff, decide_eq_true_iff]
    omega
theorem leK_anti (x y : Int × Str) (h1 : leK x y = true) (h2 : leK y x = true) : x = y := by
  unfold leK at *
  by_cases e : x.1 = y.1
  · rw [if_pos e] at h1
    rw [if_pos e.symm] at h2
    exact Prod.ext e (leS_anti _ _ h1 h2)
  · rw [if_neg e] at h1
    rw [if_neg fun z => e z.symm] at h2
    have := of_decide_eq_true h1
    have := of_decide_eq_true h2
    omega
end Mh
/-! MhHead -/
namespace Mh
open PySem PySem.Spec PyProof.Rows L2
def top (i : Nat) : Stmt := PySem.Challenge.pw_measurehall_k04_machines_written.main.body.getD i (.Pass ⟨0, 0, 0, 0⟩)
abbrev s_is_number : Stmt := top 9
abbrev s_is_tagged : Stmt := top 10
abbrev s_is_rest : Stmt := top 11
abbrev s_are_known : Stmt := top 12
abbrev s_is_test : Stmt := top 13
abbrev s_is_answer : Stmt := top 14
abbrev s_need_machine : Stmt := top 15
abbrev s_part_words : Stmt := top 21
abbrev s_written : Stmt := top 22
abbrev s_number_of : Stmt := top 23
abbrev s_thing_of : Stmt := top 24
abbrev s_part_of : Stmt := top 25
abbrev s_row_of : Stmt := top 26
abbrev s_read : Stmt := top 27
abbrev s_l_dice : Stmt := top 29
abbrev s_l_off : Stmt := top 30
abbrev s_l_alike : Stmt := top 31
abbrev s_l_test : Stmt := top 32
abbrev s_l_answer : Stmt := top 33
abbrev s_l_machine : Stmt := top 34
abbrev s_l_words : Stmt := top 35
abbrev s_law : Stmt := top 36
abbrev s_BadMachine_init : Stmt := inClass (top 2) 0
abbrev s_BadText_init : Stmt := inClass (top 3) 0
def fa : List He.Fa := [(.free "int"), (.free "str"), (.free "bool"), (.free "tuple"), (.free "list"), (.free "set"), (.free "len"), (.free "isinstance"), (.free "all"), (.free "sorted"), (.free "abs"), (.free "zip"), (.free "enumerate"), (.free "range"), (.int "MOST_ROWS" 12), (.int "MOST_KNOWN" 8), (.int "MOST_BY" 99), (.int "GREAT" 9999), (.str "FIGURES" "0123456789"), (.int "MOST_FIGURES" 4), (.glo "TESTS"), (.glo "ANSWERS"), (.glo "is_number"), (.glo "is_tagged"), (.glo "is_rest"), (.glo "are_known"), (.glo "is_test"), (.glo "is_answer"), (.glo "need_machine"), (.glo "part_words"), (.glo "written"), (.glo "number_of"), (.glo "thing_of"), (.glo "part_of"), (.glo "row_of"), (.glo "read"), (.glo "_law_dice"), (.glo "_law_off"), (.glo "_law_alike"), (.glo "_law_test"), (.glo "_law_answer"), (.glo "_law_machine"), (.glo "_law_words"), (.glo "law")]
def dd_is_number : He.DefD := ⟨("is_number", none), "is_number", "is_number", defArgs s_is_number, defBody s_is_number, defScope s_is_number, [], []⟩
def dd_is_tagged : He.DefD := ⟨("is_tagged", none), "is_tagged", "is_tagged", defArgs s_is_tagged, defBody s_is_tagged, defScope s_is_tagged, [], []⟩
def dd_is_rest : He.DefD := ⟨("is_rest", none), "is_rest", "is_rest", defArgs s_is_rest, defBody s_is_rest, defScope s_is_rest, [], []⟩
def dd_are_known : He.DefD := ⟨("are_known", none), "are_known", "are_known", defArgs s_are_known, defBody s_are_known, defScope s_are_known, [], []⟩
def dd_is_test : He.DefD := ⟨("is_test", none), "is_test", "is_test", defArgs s_is_test, defBody s_is_test, defScope s_is_test, [], []⟩
def dd_is_answer : He.DefD := ⟨("is_answer", none), "is_answer", "is_answer", defArgs s_is_answer, defBody s_is_answer, defScope s_is_answer, [], []⟩
def dd_need_machine : He.DefD := ⟨("need_machine", none), "need_machine", "need_machine", defArgs s_need_machine, defBody s_need_machine, defScope s_need_machine, [], []⟩
def dd_part_words : He.DefD := ⟨("part_words", none), "part_words", "part_words", defArgs s_part_words, defBody s_part_words, defScope s_part_words, [], []⟩
def dd_written : He.DefD := ⟨("written", none), "written", "written", defArgs s_written, defBody s_written, defScope s_written, [], []⟩
def dd_number_of : He.DefD := ⟨("number_of", none), "number_of", "number_of", defArgs s_number_of, defBody s_number_of, defScope s_number_of, [], []⟩
def dd_thing_of : He.DefD := ⟨("thing_of", none), "thing_of", "thing_of", defArgs s_thing_of, defBody s_thing_of, defScope s_thing_of, [], []⟩
def dd_part_of : He.DefD := ⟨("part_of", none), "part_of", "part_of", defArgs s_part_of, defBody s_part_of, defScope s_part_of, [], []⟩
def dd_row_of : He.DefD := ⟨("row_of", none), "row_of", "row_of", defArgs s_row_of, defBody s_row_of, defScope s_row_of, [], []⟩
def dd_read : He.DefD := ⟨("read", none), "read", "read", defArgs s_read, defBody s_read, defScope s_read, [], []⟩
def dd_l_dice : He.DefD := ⟨("_law_dice", none), "_law_dice", "_law_dice", defArgs s_l_dice, defBody s_l_dice, defScope s_l_dice, [], []⟩
def dd_l_off : He.DefD := ⟨("_law_off", none), "_law_off", "_law_off", defArgs s_l_off, defBody s_l_off, defScope s_l_off, [], []⟩
def dd_l_alike : He.DefD := ⟨("_law_alike", none), "_law_alike", "_law_alike", defArgs s_l_alike, defBody s_l_alike, defScope s_l_alike, [], []⟩
def dd_l_test : He.DefD := ⟨("_law_test", none), "_law_test", "_law_test", defArgs s_l_test, defBody s_l_test, defScope s_l_test, [], []⟩
def dd_l_answer : He.DefD := ⟨("_law_answer", none), "_law_answer", "_law_answer", defArgs s_l_answer, defBody s_l_answer, defScope s_l_answer, [], []⟩
def dd_l_machine : He.DefD := ⟨("_law_machine", none), "_law_machine", "_law_machine", defArgs s_l_machine, defBody s_l_machine, defScope s_l_machine, [], []⟩
def dd_l_words : He.DefD := ⟨("_law_words", none), "_law_words", "_law_words", defArgs s_l_words, defBody s_l_words, defScope s_l_words, [], []⟩
def dd_law : He.DefD := ⟨("law", none), "law", "law", defArgs s_law, defBody s_law, defScope s_law, [], []⟩
def fn : List He.DefD := [dd_is_number, dd_is_tagged, dd_is_rest, dd_are_known, dd_is_test, dd_is_answer, dd_need_machine, dd_part_words, dd_written, dd_number_of, dd_thing_of, dd_part_of, dd_row_of, dd_read, dd_l_dice, dd_l_off, dd_l_alike, dd_l_test, dd_l_answer, dd_l_machine, dd_l_words, dd_law]
/-- what the walk leans on of what the top has left -/
structure Tx (K : PySem.W.Frag) (mg : Str → Option Value) : Prop where
  c : He.SaysD fa fn K
  x : ∃ h : Heap, K.In h ∧ h.Ns mainGlobals mg
section
variable {K : PySem.W.Frag} {mg : Str → Option Value}
theorem Tx.f_int (T : Tx K mg) : mg "int" = none := let ⟨_, X, G⟩ := T.x; He.free_ok X G (T.c.fact 0 rfl)
theorem Tx.f_str (T : Tx K mg) : mg "str" = none := let ⟨_, X, G⟩ := T.x; He.free_ok X G (T.c.fact 1 rfl)
theorem Tx.f_bool (T : Tx K mg) : mg "bool" = none := let ⟨_, X, G⟩ := T.x; He.free_ok X G (T.c.fact 2 rfl)
theorem Tx.f_tuple (T : Tx K mg) : mg "tuple" = none := let ⟨_, X, G⟩ := T.x; He.free_ok X G (T.c.fact 3 rfl)
theorem Tx.f_list (T : Tx K mg) : mg "list" = none := let ⟨_, X, G⟩ := T.x; He.free_ok X G (T.c.fact 4 rfl)
theorem Tx.f_set (T : Tx K mg) : mg "set" = none := let ⟨_, X, G⟩ := T.x; He.free_ok X G (T.c.fact 5 rfl)
theorem Tx.f_len (T : Tx K mg) : mg "len" = none := let ⟨_, X, G⟩ := T.x; He.free_ok X G (T.c.fact 6 rfl)
theorem Tx.f_isinstance (T : Tx K mg) : mg "isinstance" = none := let ⟨_, X, G⟩ := T.x; He.free_ok X G (T.c.fact 7 rfl)
theorem Tx.f_all (T : Tx K mg) : mg "all" = none := let ⟨_, X, G⟩ := T.x; He.free_ok X G (T.c.fact 8 rfl)
theorem Tx.f_sorted (T : Tx K mg) : mg "sorted" = none := let ⟨_, X, G⟩ := T.x; He.free_ok X G (T.c.fact 9 rfl)
theorem Tx.f_abs (T : Tx K mg) : mg "abs" = none := let ⟨_, X, G⟩ := T.x; He.free_ok X G (T.c.fact 10 rfl)
theorem Tx.f_zip (T : Tx K mg) : mg "zip" = none := let ⟨_, X, G⟩ := T.x; He.free_ok X G (T.c.fact 11 rfl)
theorem Tx.f_enumerate (T : Tx K mg) : mg "enumerate" = none := let ⟨_, X, G⟩ := T.x; He.free_ok X G (T.c.fact 12 rfl)
theorem Tx.f_range (T : Tx K mg) : mg "range" = none := let ⟨_, X, G⟩ := T.x; He.free_ok X G (T.c.fact 13 rfl)
theorem Tx.c_MOST_ROWS (T : Tx K mg) : ∃ t, mg "MOST_ROWS" = some (.int 12 t) := let ⟨_, X, G⟩ := T.x; He.int_ok X G (T.c.fact 14 rfl)
theorem Tx.c_MOST_KNOWN (T : Tx K mg) : ∃ t, mg "MOST_KNOWN" = some (.int 8 t) := let ⟨_, X, G⟩ := T.x; He.int_ok X G (T.c.fact 15 rfl)
theorem Tx.c_MOST_BY (T : Tx K mg) : ∃ t, mg "MOST_BY" = some (.int 99 t) := let ⟨_, X, G⟩ := T.x; He.int_ok X G (T.c.fact 16 rfl)
theorem Tx.c_GREAT (T : Tx K mg) : ∃ t, mg "GREAT" = some (.int 9999 t) := let ⟨_, X, G⟩ := T.x; He.int_ok X G (T.c.fact 17 rfl)
theorem Tx.s_FIGURES (T : Tx K mg) : ∃ t, mg "FIGURES" = some (.str "0123456789" t) := let ⟨_, X, G⟩ := T.x; He.str_ok X G (T.c.fact 18 rfl)
theorem Tx.c_MOST_FIGURES (T : Tx K mg) : ∃ t, mg "MOST_FIGURES" = some (.int 4 t) := let ⟨_, X, G⟩ := T.x; He.int_ok X G (T.c.fact 19 rfl)
theorem Tx.g_TESTS (T : Tx K mg) : mg "TESTS" = some (.ref (He.ga K "TESTS")) := let ⟨_, X, G⟩ := T.x; He.glo_ok X G (T.c.fact 20 rfl)
theorem Tx.g_ANSWERS (T : Tx K mg) : mg "ANSWERS" = some (.ref (He.ga K "ANSWERS")) := let ⟨_, X, G⟩ := T.x; He.glo_ok X G (T.c.fact 21 rfl)
theorem Tx.g_is_number (T : Tx K mg) : mg "is_number" = some (.ref (He.ga K "is_number")) := let ⟨_, X, G⟩ := T.x; He.glo_ok X G (T.c.fact 22 rfl)
theorem Tx.g_is_tagged (T : Tx K mg) : mg "is_tagged" = some (.ref (He.ga K "is_tagged")) := let ⟨_, X, G⟩ := T.x; He.glo_ok X G (T.c.fact 23 rfl)
theorem Tx.g_is_rest (T : Tx K mg) : mg "is_rest" = some (.ref (He.ga K "is_rest")) := let ⟨_, X, G⟩ := T.x; He.glo_ok X G (T.c.fact 24 rfl)
theorem Tx.g_are_known (T : Tx K mg) : mg "are_known" = some (.ref (He.ga K "are_known")) := let ⟨_, X, G⟩ := T.x; He.glo_ok X G (T.c.fact 25 rfl)
theorem Tx.g_is_test (T : Tx K mg) : mg "is_test" = some (.ref (He.ga K "is_test")) := let ⟨_, X, G⟩ := T.x; He.glo_ok X G (T.c.fact 26 rfl)
theorem Tx.g_is_answer (T : Tx K mg) : mg "is_answer" = some (.ref (He.ga K "is_answer")) := let ⟨_, X, G⟩ := T.x; He.glo_ok X G (T.c.fact 27 rfl)
theorem Tx.g_need_machine (T : Tx K mg) : mg "need_machine" = some (.ref (He.ga K "need_machine")) := let ⟨_, X, G⟩ := T.x; He.glo_ok X G (T.c.fact 28 rfl)
theorem Tx.g_part_words (T : Tx K mg) : mg "part_words" = some (.ref (He.ga K "part_words")) := let ⟨_, X, G⟩ := T.x; He.glo_ok X G (T.c.fact 29 rfl)
theorem Tx.g_written (T : Tx K mg) : mg "written" = some (.ref (He.ga K "written")) := let ⟨_, X, G⟩ := T.x; He.glo_ok X G (T.c.fact 30 rfl)
theorem Tx.g_number_of (T : Tx K mg) : mg "number_of" = some (.ref (He.ga K "number_of")) := let ⟨_, X, G⟩ := T.x; He.glo_ok X G (T.c.fact 31 rfl)
theorem Tx.g_thing_of (T : Tx K mg) : mg "thing_of" = some (.ref (He.ga K "thing_of")) := let ⟨_, X, G⟩ := T.x; He.glo_ok X G (T.c.fact 32 rfl)
theorem Tx.g_part_of (T : Tx K mg) : mg "part_of" = some (.ref (He.ga K "part_of")) := let ⟨_, X, G⟩ := T.x; He.glo_ok X G (T.c.fact 33 rfl)
theorem Tx.g_row_of (T : Tx K mg) : mg "row_of" = some (.ref (He.ga K "row_of")) := let ⟨_, X, G⟩ := T.x; He.glo_ok X G (T.c.fact 34 rfl)
theorem Tx.g_read (T : Tx K mg) : mg "read" = some (.ref (He.ga K "read")) := let ⟨_, X, G⟩ := T.x; He.glo_ok X G (T.c.fact 35 rfl)
theorem Tx.g_l_dice (T : Tx K mg) : mg "_law_dice" = some (.ref (He.ga K "_law_dice")) := let ⟨_, X, G⟩ := T.x; He.glo_ok X G (T.c.fact 36 rfl)
theorem Tx.g_l_off (T : Tx K mg) : mg "_law_off" = some (.ref (He.ga K "_law_off")) := let ⟨_, X, G⟩ := T.x; He.glo_ok X G (T.c.fact 37 rfl)
theorem Tx.g_l_alike (T : Tx K mg) : mg "_law_alike" = some (.ref (He.ga K "_law_alike")) := let ⟨_, X, G⟩ := T.x; He.glo_ok X G (T.c.fact 38 rfl)
theorem Tx.g_l_test (T : Tx K mg) : mg "_law_test" = some (.ref (He.ga K "_law_test")) := let ⟨_, X, G⟩ := T.x; He.glo_ok X G (T.c.fact 39 rfl)
theorem Tx.g_l_answer (T : Tx K mg) : mg "_law_answer" = some (.ref (He.ga K "_law_answer")) := let ⟨_, X, G⟩ := T.x; He.glo_ok X G (T.c.fact 40 rfl)
theorem Tx.g_l_machine (T : Tx K mg) : mg "_law_machine" = some (.ref (He.ga K "_law_machine")) := let ⟨_, X, G⟩ := T.x; He.glo_ok X G (T.c.fact 41 rfl)
theorem Tx.g_l_words (T : Tx K mg) : mg "_law_words" = some (.ref (He.ga K "_law_words")) := let ⟨_, X, G⟩ := T.x; He.glo_ok X G (T.c.fact 42 rfl)
theorem Tx.g_law (T : Tx K mg) : mg "law" = some (.ref (He.ga K "law")) := let ⟨_, X, G⟩ := T.x; He.glo_ok X G (T.c.fact 43 rfl)
theorem Tx.d_is_number (T : Tx K mg) : ∃ fd, FunD K "is_number" "is_number" (defArgs s_is_number) (defBody s_is_number) (defScope s_is_number) [] [] (He.fAd K ("is_number", none)) fd := T.c.def_ 0 (d := dd_is_number) rfl
theorem Tx.d_is_tagged (T : Tx K mg) : ∃ fd, FunD K "is_tagged" "is_tagged" (defArgs s_is_tagged) (defBody s_is_tagged) (defScope s_is_tagged) [] [] (He.fAd K ("is_tagged", none)) fd := T.c.def_ 1 (d := dd_is_tagged) rfl
theorem Tx.d_is_rest (T : Tx K mg) : ∃ fd, FunD K "is_rest" "is_rest" (defArgs s_is_rest) (defBody s_is_rest) (defScope s_is_rest) [] [] (He.fAd K ("is_rest", none)) fd := T.c.def_ 2 (d := dd_is_rest) rfl
theorem Tx.d_are_known (T : Tx K mg) : ∃ fd, FunD K "are_known" "are_known" (defArgs s_are_known) (defBody s_are_known) (defScope s_are_known) [] [] (He.fAd K ("are_known", none)) fd := T.c.def_ 3 (d := dd_are_known) rfl
theorem Tx.d_is_test (T : Tx K mg) : ∃ fd, FunD K "is_test" "is_test" (defArgs s_is_test) (defBody s_is_test) (defScope s_is_test) [] [] (He.fAd K ("is_test", none)) fd := T.c.def_ 4 (d := dd_is_test) rfl
theorem Tx.d_is_answer (T : Tx K mg) : ∃ fd, FunD K "is_answer" "is_answer" (defArgs s_is_answer) (defBody s_is_answer) (defScope s_is_answer) [] [] (He.fAd K ("is_answer", none)) fd := T.c.def_ 5 (d := dd_is_answer) rfl
theorem Tx.d_need_machine (T : Tx K mg) : ∃ fd, FunD K "need_machine" "need_machine" (defArgs s_need_machine) (defBody s_need_machine) (defScope s_need_machine) [] [] (He.fAd K ("need_machine", none)) fd := T.c.def_ 6 (d := dd_need_machine) rfl
theorem Tx.d_part_words (T : Tx K mg) : ∃ fd, FunD K "part_words" "part_words" (defArgs s_part_words) (defBody s_part_words) (defScope s_part_words) [] [] (He.fAd K ("part_words", none)) fd := T.c.def_ 7 (d := dd_part_words) rfl
theorem Tx.d_written (T : Tx K mg) : ∃ fd, FunD K "written" "written" (defArgs s_written) (defBody s_written) (defScope s_written) [] [] (He.fAd K ("written", none)) fd := T.c.def_ 8 (d := dd_written) rfl
theorem Tx.d_number_of (T : Tx K mg) : ∃ fd, FunD K "number_of" "number_of" (defArgs s_number_of) (defBody s_number_of) (defScope s_number_of) [] [] (He.fAd K ("number_of", none)) fd := T.c.def_ 9 (d := dd_number_of) rfl
theorem Tx.d_thing_of (T : Tx K mg) : ∃ fd, FunD K "thing_of" "thing_of" (defArgs s_thing_of) (defBody s_thing_of) (defScope s_thing_of) [] [] (He.fAd K ("thing_of", none)) fd := T.c.def_ 10 (d := dd_thing_of) rfl
theorem Tx.d_part_of (T : Tx K mg) : ∃ fd, FunD K "part_of" "part_of" (defArgs s_part_of) (defBody s_part_of) (defScope s_part_of) [] [] (He.fAd K ("part_of", none)) fd := T.c.def_ 11 (d := dd_part_of) rfl
theorem Tx.d_row_of (T : Tx K mg) : ∃ fd, FunD K "row_of" "row_of" (defArgs s_row_of) (defBody s_row_of) (defScope s_row_of) [] [] (He.fAd K ("row_of", none)) fd := T.c.def_ 12 (d := dd_row_of) rfl
theorem Tx.d_read (T : Tx K mg) : ∃ fd, FunD K "read" "read" (defArgs s_read) (defBody s_read) (defScope s_read) [] [] (He.fAd K ("read", none)) fd := T.c.def_ 13 (d := dd_read) rfl
theorem Tx.d_l_dice (T : Tx K mg) : ∃ fd, FunD K "_law_dice" "_law_dice" (defArgs s_l_dice) (defBody s_l_dice) (defScope s_l_dice) [] [] (He.fAd K ("_law_dice", none)) fd := T.c.def_ 14 (d := dd_l_dice) rfl
theorem Tx.d_l_off (T : Tx K mg) : ∃ fd, FunD K "_law_off" "_law_off" (defArgs s_l_off) (defBody s_l_off) (defScope s_l_off) [] [] (He.fAd K ("_law_off", none)) fd := T.c.def_ 15 (d := dd_l_off) rfl
theorem Tx.d_l_alike (T : Tx K mg) : ∃ fd, FunD K "_law_alike" "_law_alike" (defArgs s_l_alike) (defBody s_l_alike) (defScope s_l_alike) [] [] (He.fAd K ("_law_alike", none)) fd := T.c.def_ 16 (d := dd_l_alike) rfl
theorem Tx.d_l_test (T : Tx K mg) : ∃ fd, FunD K "_law_test" "_law_test" (defArgs s_l_test) (defBody s_l_test) (defScope s_l_test) [] [] (He.fAd K ("_law_test", none)) fd := T.c.def_ 17 (d := dd_l_test) rfl
theorem Tx.d_l_answer (T : Tx K mg) : ∃ fd, FunD K "_law_answer" "_law_answer" (defArgs s_l_answer) (defBody s_l_answer) (defScope s_l_answer) [] [] (He.fAd K ("_law_answer", none)) fd := T.c.def_ 18 (d := dd_l_answer) rfl
theorem Tx.d_l_machine (T : Tx K mg) : ∃ fd, FunD K "_law_machine" "_law_machine" (defArgs s_l_machine) (defBody s_l_machine) (defScope s_l_machine) [] [] (He.fAd K ("_law_machine", none)) fd := T.c.def_ 19 (d := dd_l_machine) rfl
theorem Tx.d_l_words (T : Tx K mg) : ∃ fd, FunD K "_law_words" "_law_words" (defArgs s_l_words) (defBody s_l_words) (defScope s_l_words) [] [] (He.fAd K ("_law_words", none)) fd := T.c.def_ 20 (d := dd_l_words) rfl
theorem Tx.d_law (T : Tx K mg) : ∃ fd, FunD K "law" "law" (defArgs s_law) (defBody s_law) (defScope s_law) [] [] (He.fAd K ("law", none)) fd := T.c.def_ 21 (d := dd_law) rfl
end
/-! ### dicts of the written part -/
def tabsW : List (PySem.Str × List PySem.Str) := [("TESTS", ["any", "below", "rest", "chance", "known"]), ("ANSWERS", ["num", "plus", "times", "rest", "none"])]
def tabQ : List (PySem.Str × PySem.Str × Option V) := [("TESTS", "any", some (.str "")), ("TESTS", "below", some (.str "n")), ("TESTS", "rest", some (.str "nn")), ("TESTS", "chance", some (.str "nn")), ("TESTS", "known", some (.str "k")), ("ANSWERS", "num", some (.str "n")), ("ANSWERS", "plus", some (.str "n")), ("ANSWERS", "times", some (.str "n")), ("ANSWERS", "rest", some (.str "n")), ("ANSWERS", "none", some (.str ""))]
def valB : V → Value → Bool
  | .int i, .int j _ => decide (i = j)
  | .str x, .str y _ => decide (x = y)
  | _, _ => false
theorem valB_ok {v : V} {u : Value} (h : valB v u = true) : RelV v u := by
  cases v <;> cases u <;> first | exact ⟨_, by rw [of_decide_eq_true h]⟩ | cases h
def tabOk (K : PySem.W.Frag) (t : PySem.Str × PySem.Str × Option V) : Bool := match PySem.W.nsIn K (He.ga K t.1) t.2.1, t.2.2 with
  | some none, none => true
  | some (some u), some v => valB v u
  | _, _ => false
def TabV (K : PySem.W.Frag) (d : Addr) (z : PySem.Str) : Option V → Prop
  | none => PySem.W.nsIn K d z = some none
  | some v => ∃ u, PySem.W.nsIn K d z = some (some u) ∧ RelV v u
structure TabD (K : PySem.W.Frag) (w : World) : Prop where
  t : tabsW.map (fun t => He.dicW K (He.ga K t.1)) = tabsW.map (fun t => some (He.keysIn w.params t.2))
  q : tabQ.all (tabOk K) = true
theorem TabD.dic {K : PySem.W.Frag} {w : World} (c : TabD K w) (i : Nat) {x : PySem.Str} {ks : List PySem.Str} (h : tabsW[i]? = some (x, ks)) : ∃ es n, KDict K w (He.ga K x) es n := by
  have e := c.t
  have e2 : (tabsW.map fun t => He.dicW K (He.ga K t.1))[i]? = (tabsW.map fun t => some (He.keysIn w.params t.2))[i]? := by rw [e]
  rw [List.getElem?_map, List.getElem?_map, h] at e2
  exact He.dicW_ok (Option.some.inj e2)
theorem TabD.val {K : PySem.W.Frag} {w : World} (c : TabD K w) (i : Nat) {x z : PySem.Str} {o : Option V} (h : tabQ[i]? = some (x, z, o)) : TabV K (He.ga K x) z o := by
  have e := List.all_eq_true.mp c.q _ (List.mem_of_getElem? h)
  unfold tabOk at e
  cases hn : PySem.W.nsIn K (He.ga K x) z with
  | none => simp only [hn] at e; cases e
  | some r =>
    cases r with
    | none => cases o with
      | none => exact hn
      | some v => simp only [hn] at e; cases e
    | some u => cases o with
      | none => simp only [hn] at e; cases e
      | some v => simp only [hn] at e; exact ⟨u, hn, valB_ok e⟩
theorem TabD.d_TESTS {K : PySem.W.Frag} {w : World} (c : TabD K w) : ∃ es n, KDict K w (He.ga K "TESTS") es n := c.dic 0 rfl
theorem TabD.d_ANSWERS {K : PySem.W.Frag} {w : World} (c : TabD K w) : ∃ es n, KDict K w (He.ga K "ANSWERS") es n := c.dic 1 rfl
theorem TabD.v_TESTS_any {K : PySem.W.Frag} {w : World} (c : TabD K w) : TabV K (He.ga K "TESTS") "any" (some (.str "")) := c.val 0 rfl
theorem TabD.v_TESTS_below {K : PySem.W.Frag} {w : World} (c : TabD K w) : TabV K (He.ga K "TESTS") "below" (some (.str "n")) := c.val 1 rfl
theorem TabD.v_TESTS_rest {K : PySem.W.Frag} {w : World} (c : TabD K w) : TabV K (He.ga K "TESTS") "rest" (some (.str "nn")) := c.val 2 rfl
theorem TabD.v_TESTS_chance {K : PySem.W.Frag} {w : World} (c : TabD K w) : TabV K (He.ga K "TESTS") "chance" (some (.str "nn")) := c.val 3 rfl
theorem TabD.v_TESTS_known {K : PySem.W.Frag} {w : World} (c : TabD K w) : TabV K (He.ga K "TESTS") "known" (some (.str "k")) := c.val 4 rfl
theorem TabD.v_ANSWERS_num {K : PySem.W.Frag} {w : World} (c : TabD K w) : TabV K (He.ga K "ANSWERS") "num" (some (.str "n")) := c.val 5 rfl
theorem TabD.v_ANSWERS_plus {K : PySem.W.Frag} {w : World} (c : TabD K w) : TabV K (He.ga K "ANSWERS") "plus" (some (.str "n")) := c.val 6 rfl
theorem TabD.v_ANSWERS_times {K : PySem.W.Frag} {w : World} (c : TabD K w) : TabV K (He.ga K "ANSWERS") "times" (some (.str "n")) := c.val 7 rfl
theorem TabD.v_ANSWERS_rest {K : PySem.W.Frag} {w : World} (c : TabD K w) : TabV K (He.ga K "ANSWERS") "rest" (some (.str "n")) := c.val 8 rfl
theorem TabD.v_ANSWERS_none {K : PySem.W.Frag} {w : World} (c : TabD K w) : TabV K (He.ga K "ANSWERS") "none" (some (.str "")) := c.val 9 rfl
end Mh
/-! MhRun -/
namespace Mh
open PySem PySem.Spec PyProof.Rows L2
abbrev R : PySem.W.OpenRow := PySem.W.OpenLaw.row PySem.Challenge.rw_measurehall_k04_machines_written
def lvD (g : Addr → Option Obj) : Nat → List Addr → List Addr
  | 0, as => as
  | n + 1, as => as ++ lvD g n (as.flatMap fun a => match g a with
    | some o => (He.refsD o).filter fun b => !(b == a)
    | none => [])
def obX (K : PySem.W.Frag) := (He.obsD fa fn K, tabsW.map (fun t => He.dicW K (He.ga K t.1)), tabQ.all (tabOk K))
def hkN : PySem.W.Hook where
  α := He.AlD × List (Option (List (Option (PySem.Str × Int)))) × Bool
  obs := fun s => obX (He.frG s.heap.get? (lvD s.heap.get? 5 [mainGlobals]))
  val := fun w => (He.valD fn, tabsW.map (fun t => some (He.keysIn w.params t.2)), true)
  says := fun w h => ∃ K : PySem.W.Frag, K.In h ∧ obX K = (He.valD fn, tabsW.map (fun t => some (He.keysIn w.params t.2)), true)
  of := fun _ _ e => ⟨_, He.frG_in, e⟩
  keeps := fun _ _ _ ⟨K, hK, c⟩ k => ⟨K, PySem.W.Frag.In.keeps hK k, c⟩
abbrev hk : PySem.W.Hook := hkN
def ob (s : PySem.W.SharedT) : hk.α := obX (He.frG (HandSHeadRun.getT s) (lvD (HandSHeadRun.getT s) 5 [mainGlobals]))
theorem ob_eq (s : PySem.W.SharedT) : ob s = hk.obs s.abs := by
  have e : HandSHeadRun.getT s = s.abs.heap.get? := funext (HandSHeadRun.getT_eq s)
  unfold ob
  rw [e]
  rfl
theorem map3 {α β γ δ : Type} {x : Option α} {f : α → β} {g : α → γ} {k : α → δ} {a : β} {b : γ} {c : δ} (h1 : x.map f = some a) (h2 : x.map g = some b) (h3 : x.map k = some c) : x.map (fun s => (f s, g s, k s)) = some (a, b, c) := by
  cases x with
  | none => cases h1
  | some v => exact congrArg some (Prod.ext (Option.some.inj h1) (Prod.ext (Option.some.inj h2) (Option.some.inj h3)))
def looseN : List PySem.Str := (["MOST_ROWS", "MOST_KNOWN", "MOST_BY", "GREAT", "FIGURES", "MOST_FIGURES", "TESTS", "ANSWERS", "HallError", "BadMachine", "BadText", "is_number", "is_tagged", "is_rest", "are_known", "is_test", "is_answer", "need_machine", "part_words", "written", "number_of", "thing_of", "part_of", "row_of", "read", "_law_dice", "_law_off", "_law_alike", "_law_test", "_law_answer"] : List PySem.Str) ++ (["_law_machine", "_law_words"] : List PySem.Str)
noncomputable abbrev EndR (r : PySem.W.OpenRow) (M : Nat) (w : World) (os : OsState) : Option PySem.W.SharedT := HandSHeadRun.endF (HandSHeadRun.stepQ (HandSHeadRun.denQ HandSHeadRun.tabQ) r.prog w) M r.prog w os
def P1 (r : PySem.W.OpenRow) (M : Nat) (w : World) : Prop := ∀ os, (EndR r M w os).map (fun s => HandSHeadRun.looksF r.prog (PySem.W.boot_heap w.params) s.abs) = some true
def P2 (r : PySem.W.OpenRow) (q : Program) (M : Nat) (loose : List PySem.Str) (w : World) : Prop := ∀ os, (EndR r M w os).map (fun s => HandSHeadRun.seenQ q loose (PySem.importedModules r.prog.main.body) (fun s => PySem.W.xlAt q [] s && PySem.W.recOk r.toRowW.records s) s.abs) = some (PySem.W.openGood q loose)
def P3 (r : PySem.W.OpenRow) (H : PySem.W.Hook) (ob : PySem.W.SharedT → H.α) (M : Nat) (w : World) : Prop := ∀ os, (EndR r M w os).map (fun s => ob s) = some (H.val w)
theorem runEq3 {r : PySem.W.OpenRow} {q : Program} {H : PySem.W.Hook} {ob : PySem.W.SharedT → H.α} {M : Nat} {loose : List PySem.Str} {w : World} (h1 : P1 r M w) (h2 : P2 r q M loose w) (h3 : P3 r H ob M w) : HandSHeadRun.RunEq r q H ob M loose w := fun os => map3 (h1 os) (h2 os) (h3 os)
def ftB (b : Bool) (f : String → Bool) : String → Bool := fun s => match decide (s = "special-get-raises") with
  | true => b
  | false => f s
def wB (b : Bool) (w : World) : World := { w with params := { w.params with followText := ftB b w.params.followText } }
theorem ftB_eq {b : Bool} {f : String → Bool} (h : f "special-get-raises" = b) : ftB b f = f := by
  funext s
  unfold ftB
  by_cases e : s = "special-get-raises"
  · rw [decide_eq_true e, e, h]
  · rw [decide_eq_false e]
theorem wB_eq {b : Bool} {w : World} (h : w.params.followText "special-get-raises" = b) : wB b w = w := by
  unfold wB
  rw [ftB_eq h]
theorem run1t (w : World) : P1 R 9000 (wB true w) := by
  intro os
  kernel_rfl
theorem run1f (w : World) : P1 R 9000 (wB false w) := by
  intro os
  kernel_rfl
theorem run1 (w : World) : P1 R 9000 w := by
  cases h : w.params.followText "special-get-raises" with
  | true =>
    have e := run1t w
    rw [wB_eq h] at e
    exact e
  | false =>
    have e := run1f w
    rw [wB_eq h] at e
    exact e
theorem run2t (w : World) : P2 R (PySem.W.view R.prog [36]) 9000 looseN (wB true w) := by
  intro os
  kernel_rfl
theorem run2f (w : World) : P2 R (PySem.W.view R.prog [36]) 9000 looseN (wB false w) := by
  intro os
  kernel_rfl
theorem run2 (w : World) : P2 R (PySem.W.view R.prog [36]) 9000 looseN w := by
  cases h : w.params.followText "special-get-raises" with
  | true =>
    have e := run2t w
    rw [wB_eq h] at e
    exact e
  | false =>
    have e := run2f w
    rw [wB_eq h] at e
    exact e
theorem run3t (w : World) : P3 R hk ob 9000 (wB true w) := by
  intro os
  kernel_rfl
theorem run3f (w : World) : P3 R hk ob 9000 (wB false w) := by
  intro os
  kernel_rfl
theorem run3 (w : World) : P3 R hk ob 9000 w := by
  cases h : w.params.followText "special-get-raises" with
  | true =>
    have e := run3t w
    rw [wB_eq h] at e
    exact e
  | false =>
    have e := run3f w
    rw [wB_eq h] at e
    exact e
theorem run (w : World) : HandSHeadRun.RunEq R (PySem.W.view R.prog [36]) hk ob 9000 looseN w := runEq3 (run1 w) (run2 w) (run3 w)
end Mh
/-! MhMach -/
namespace Mh
open PySem PySem.Spec PyProof.Rows L2

/-! ### what the small looks of machines.py say of data -/
def isNum (d : PyData) (lo hi : Int) : Bool := match d with
  | .int i => decide (lo ≤ i) && decide (i ≤ hi)
  | _ => false
def isTag (n : Nat) : PyData → Bool
  | .tuple (.str _ :: xs) => xs.length + 1 == n
  | _ => false
theorem rd_isD {K : PySem.W.Frag} {σ : L2.St} {H : Hp} {Q : VK} {i : Nat} {v : V} {n : String} {d : PyData} (hv : σ[i]? = some (some v)) (hn : n ∈ sixTy) (hd : Dp K H v d) (q : Q (.bl (isTy n d)) H) :
    tCB (rIsD K) (tCons (tVar i) (tCons (tC (.ty n)) tNil)) σ H Q := ⟨v, hv, v, n, d, rfl, hn, hd, q⟩
theorem sc_is_number : FnScope ["thing", "low", "high"] ["thing", "low", "high"] (defScope s_is_number) := ⟨rfl, rfl, rfl, by decide +kernel, rfl, by decide +kernel, by decide +kernel⟩
def spIsNumber (K : PySem.W.Frag) : Sp := fun vs H Q _ => ∃ v d lo hi, vs = [v, .int lo, .int hi] ∧ Dp K H v d ∧ Q (.bl (isNum d lo hi)) H
theorem ok_is_number {P : Program} {w : World} {K : PySem.W.Frag} {mg : Str → Option Value} {base : Heap} (T : Tx K mg) : Def P w K mg base CX0 1 "is_number" ["thing", "low", "high"] (spIsNumber K) := by
  obtain ⟨fd, F⟩ := T.d_is_number
  refine ⟨_, fd, F.ok sc_is_number (fun vs H Q E h => ?_) (fun cdv A outer s H vs Q E hr h => ?_), F.bindsN fun _ _ _ _ _ _ us hl => match us, hl with | [_, _, _], _ => rfl, T.g_is_number, F.kp⟩
  · obtain ⟨v, d, lo, hi, rfl, _⟩ := h
    rfl
  · obtain ⟨v, d, lo, hi, rfl, hd, q⟩ := h
    refine ⟨_, PSs.nox (pss_one (ps_ret (pe_and (pe_callB call_isiD (by rfl) T.f_isinstance (by decide +kernel) (pa_cons (pv 0) (pa_cons (gT (n := "int") T.f_int) pa_nil))) (pe_and (pe_not (pe_callB call_isiD (by rfl) T.f_isinstance (by decide +kernel) (pa_cons (pv 0) (pa_cons (gT (n := "bool") T.f_bool) pa_nil)))) (pe_one (pe_chain op_le op_le (pv 1) (pv 0) (pv 2))))))), ?_⟩
    refine rd_isD rfl (by decide) hd ⟨_, rfl, ?_⟩
    cases hd with
    | int i =>
      refine ifT rfl (rd_isD rfl (by decide) (.int i) ⟨_, rfl, _, rfl, ifT rfl ?_⟩)
      refine ⟨_, rfl, _, rfl, _, _, rfl, rfl, _, rfl, ?_⟩
      have q2 : Q (.bl (decide (lo ≤ i) && decide (i ≤ hi))) H := q
      refine ifB (fun c => ?_) (fun c => ?_)
      · rw [c] at q2
        exact ⟨_, rfl, _, _, rfl, rfl, q2⟩
      · rw [c] at q2
        exact q2
    | bl b => exact ifT rfl (rd_isD rfl (by decide) (.bl b) ⟨_, rfl, _, rfl, ifF rfl q⟩)
    | _ => exact ifF rfl q

/-- an item of a tuple at a written place -/
theorem rd_ixT {K : PySem.W.Frag} {σ : L2.St} {H : Hp} {Q : VK} {i j : Nat} {a : Addr} {xs : List V} {v : V} (hv : σ[i]? = some (some (.ref a))) (hs : SqT K H a xs) (hj : xs[j]? = some v) (q : Q v H) : tOp (rIxT K) (tVar i) (tC (.int (j : Int))) σ H Q :=
  ⟨_, hv, a, xs, (j : Int), v, rfl, rfl, hs, atI_nat hj, q⟩
theorem isTag_inv {n : Nat} {d : PyData} (h : isTag n d = true) : ∃ z xs, d = .tuple (.str z :: xs) ∧ xs.length + 1 = n := by
  unfold isTag at h
  split at h
  · exact ⟨_, _, rfl, by simpa using h⟩
  · cases h
theorem sc_is_tagged : FnScope ["thing", "many"] ["thing", "many"] (defScope s_is_tagged) := ⟨rfl, rfl, rfl, by decide +kernel, rfl, by decide +kernel, by decide +kernel⟩
def spIsTagged (K : PySem.W.Frag) : Sp := fun vs H Q _ => ∃ v d n, vs = [v, .int ((n + 1 : Nat) : Int)] ∧ Dp K H v d ∧ Q (.bl (isTag (n + 1) d)) H
theorem ok_is_tagged {P : Program} {w : World} {K : PySem.W.Frag} {mg : Str → Option Value} {base : Heap} (T : Tx K mg) : Def P w K mg base CX0 1 "is_tagged" ["thing", "many"] (spIsTagged K) := by
  obtain ⟨fd, F⟩ := T.d_is_tagged
  refine ⟨_, fd, F.ok sc_is_tagged (fun vs H Q E h => ?_) (fun cdv A outer s H vs Q E hr h => ?_), F.bindsN fun _ _ _ _ _ _ us hl => match us, hl with | [_, _], _ => rfl, T.g_is_tagged, F.kp⟩
  · obtain ⟨v, d, n, rfl, _⟩ := h
    rfl
  · obtain ⟨v, d, n, rfl, hd, q⟩ := h
    refine ⟨_, PSs.nox (pss_one (ps_ret (pe_and (pe_callB call_isiD (by rfl) T.f_isinstance (by decide +kernel) (pa_cons (pv 0) (pa_cons (gT (n := "tuple") T.f_tuple) pa_nil))) (pe_and (pe_cmpR op_eq (pe_callB call_len_seq (by rfl) T.f_len (by decide +kernel) (pa_cons (pv 0) pa_nil)) (pv 1) (nomark _)) (pe_one (pe_callB call_isiD (by rfl) T.f_isinstance (by decide +kernel) (pa_cons (pe_ix ix_tup (pv 0) pe_int (fun _ _ => rfl)) (pa_cons (gT (n := "str") T.f_str) pa_nil)))))))), ?_⟩
    refine rd_isD rfl (by decide) hd ⟨_, rfl, ?_⟩
    cases hd with
    | @tup a xs ds hs ha =>
      refine ifT rfl ⟨_, rfl, a, xs, rfl, .inr hs, _, rfl, rfl, _, rfl, ifB (fun c => ?_) (fun c => ?_)⟩
      · have e : ((xs.length : Nat) : Int) = ((n + 1 : Nat) : Int) := V.int.inj (of_decide_eq_true c)
        cases ha with
        | nil => exact absurd e (by simp; omega)
        | @cons x0 xs d0 ds h0 ht =>
          refine rd_ixT (j := 0) rfl hs rfl ⟨x0, "str", d0, rfl, by decide, h0, ?_⟩
          have e2 : ds.length + 1 = n + 1 := by
            rw [← ht.len]
            exact Int.ofNat.inj e
          cases h0 with
          | str z =>
            have e3 : isTag (n + 1) (.tuple (.str z :: ds)) = true := by
              show (ds.length + 1 == n + 1) = true
              rw [e2]
              exact beq_self_eq_true _
            rw [e3] at q
            exact q
          | _ => exact q
      · have c2 := of_decide_eq_false c
        have e3 : isTag (n + 1) (.tuple ds) = false := by
          cases e : isTag (n + 1) (.tuple ds) with
          | false => rfl
          | true =>
            obtain ⟨z, ys, e4, e5⟩ := isTag_inv e
            refine absurd ?_ c2
            have e6 : ds = .str z :: ys := PyData.tuple.inj e4
            rw [ha.len, e6, List.length_cons, e5]
        rw [e3] at q
        exact q
    | _ => exact ifF rfl q

def intOf : PyData → Int
  | .int i => i
  | _ => 0
theorem isNum_inv {d : PyData} {lo hi : Int} (h : isNum d lo hi = true) : ∃ i, d = .int i ∧ lo ≤ i ∧ i ≤ hi := by
  unfold isNum at h
  split at h
  · obtain ⟨h1, h2⟩ := Bool.and_eq_true_iff.mp h
    exact ⟨_, rfl, of_decide_eq_true h1, of_decide_eq_true h2⟩
  · cases h
def isRest : PyData → Bool
  | .tuple [.str _, x, y] => isNum x 2 99 && isNum y 0 (intOf x - 1)
  | _ => false
theorem sc_is_rest : FnScope ["thing"] ["thing"] (defScope s_is_rest) := ⟨rfl, rfl, rfl, by decide +kernel, rfl, by decide +kernel, by decide +kernel⟩
def spIsRest (K : PySem.W.Frag) : Sp := fun vs H Q _ => ∃ v d, vs = [v] ∧ Dp K H v d ∧ Q (.bl (isRest d)) H
theorem ok_is_rest {P : Program} {w : World} {K : PySem.W.Frag} {mg : Str → Option Value} {base : Heap} (T : Tx K mg) : Def P w K mg base CX0 2 "is_rest" ["thing"] (spIsRest K) := by
  obtain ⟨fd, F⟩ := T.d_is_rest
  have G_is_tagged := ok_is_tagged (P := P) (w := w) (base := base) T
  have G_is_number := ok_is_number (P := P) (w := w) (base := base) T
  refine ⟨_, fd, F.ok sc_is_rest (fun vs H Q E h => ?_) (fun cdv A outer s H vs Q E hr h => ?_), F.bindsN fun _ _ _ _ _ _ us hl => match us, hl with | [_], _ => rfl, T.g_is_rest, F.kp⟩
  · obtain ⟨v, d, rfl, _⟩ := h
    rfl
  · obtain ⟨v, d, rfl, hd, q⟩ := h
    refine ⟨_, PSs.nox (pss_one (ps_ret (pe_and (pe_def G_is_tagged (hr.mono (by omega)) pass0 (pa_cons (pv 0) (pa_cons pe_int pa_nil))) (pe_and (pe_def G_is_number (hr.mono (by omega)) pass0 (pa_cons (pe_ix ix_tup (pv 0) pe_int (fun _ _ => rfl)) (pa_cons pe_int (pa_cons (gC T.c_MOST_BY) pa_nil)))) (pe_one (pe_def G_is_number (hr.mono (by omega)) pass0 (pa_cons (pe_ix ix_tup (pv 0) pe_int (fun _ _ => rfl)) (pa_cons pe_int (pa_cons (pe_op op_sub (pe_ix ix_tup (pv 0) pe_int (fun _ _ => rfl)) pe_int) pa_nil))))))))), ?_⟩
    refine ⟨v, rfl, v, d, 2, rfl, hd, _, rfl, ifB (fun c => ?_) (fun c => ?_)⟩
    · obtain ⟨z, xs, rfl, e⟩ := isTag_inv c
      obtain ⟨x, y, rfl⟩ : ∃ x y, xs = [x, y] := by
        match xs, e with
        | [x, y], _ => exact ⟨x, y, rfl⟩
      obtain ⟨a, v0, v1, v2, rfl, hs, h0, h1, h2⟩ := hd.tup3
      have q2 : Q (.bl (isNum x 2 99 && isNum y 0 (intOf x - 1))) H := q
      refine rd_ixT (j := 1) rfl hs rfl ⟨v1, x, 2, 99, rfl, h1, _, rfl, ifB (fun c1 => ?_) (fun c1 => ?_)⟩
      · obtain ⟨m, rfl, _⟩ := isNum_inv c1
        rw [c1, Bool.true_and] at q2
        cases h1
        refine rd_ixT (j := 2) rfl hs rfl ⟨_, rfl, ?_⟩
        exact ⟨a, _, 1, _, rfl, rfl, hs, atI_nat (j := 1) rfl, m, 1, rfl, rfl, v2, y, 0, m - 1, rfl, h2, q2⟩
      · rw [c1, Bool.false_and] at q2
        exact q2
    · have e : isRest d = false := by
        unfold isRest
        split
        · cases c
        · rfl
      rw [e] at q
      exact q
end Mh
/-! MhMach2 -/
namespace Mh
open PySem PySem.Spec PyProof.Rows L2
def rising : List Int → Bool
  | x :: y :: r => decide (x < y) && rising (y :: r)
  | _ => true
def areKnown : PyData → Bool
  | .tuple xs => (decide (1 ≤ xs.length) && decide (xs.length ≤ 8)) && ((xs.all fun x => isNum x 0 9999) && rising (xs.map intOf))
  | _ => false
theorem areKnown_tup (xs : List PyData) : areKnown (.tuple xs) = ((decide (1 ≤ xs.length) && decide (xs.length ≤ 8)) && ((xs.all fun x => isNum x 0 9999) && rising (xs.map intOf))) := rfl
theorem range_all {n : Nat} {p : Nat → Bool} {q : Bool} (h : ((List.range n).all p) = q) : (((List.range n).map fun i => p i).all id) = q := by
  rw [List.all_map]
  exact h
theorem all_range_get {α : Type} (p : α → Bool) (d : α) (xs : List α) : (List.range xs.length).all (fun i => p (xs.getD i d)) = xs.all p := by
  apply Bool.eq_iff_iff.mpr
  rw [List.all_eq_true, List.all_eq_true]
  constructor
  · intro h x hx
    obtain ⟨i, hi, e⟩ := List.getElem_of_mem hx
    have := h i (List.mem_range.mpr hi)
    rw [List.getD_eq_getElem?_getD, List.getElem?_eq_getElem hi] at this
    rw [← e]
    exact this
  · intro h i hi
    have hi := List.mem_range.mp hi
    show p (xs.getD i d) = true
    rw [List.getD_eq_getElem?_getD, List.getElem?_eq_getElem hi]
    exact h _ (List.getElem_mem hi)
theorem rising_range : ∀ xs : List Int, (List.range (xs.length - 1)).all (fun i => decide (xs.getD i 0 < xs.getD (i + 1) 0)) = rising xs
  | [] => rfl
  | [_] => rfl
  | x :: y :: r => by
    have ih := rising_range (y :: r)
    have e : (x :: y :: r).length - 1 = (r.length) + 1 := by simp
    rw [e, List.range_succ_eq_map, List.all_cons, List.all_map]
    show (decide (x < y) && ((List.range r.length).all fun i => decide ((y :: r).getD i 0 < (y :: r).getD (i + 1) 0))) = _
    have e2 : (y :: r).length - 1 = r.length := by simp
    rw [e2] at ih
    rw [ih]
    rfl
theorem getD_of {α : Type} {xs : List α} {i : Nat} {d x : α} (h : xs[i]? = some x) : xs.getD i d = x := by
  rw [List.getD_eq_getElem?_getD, h]
  rfl
theorem sc_are_known : FnScope ["thing", "one", "other"] ["thing"] (defScope s_are_known) := ⟨rfl, rfl, rfl, by decide +kernel, rfl, by decide +kernel, by decide +kernel⟩
def spAreKnown (K : PySem.W.Frag) : Sp := fun vs H Q _ => ∃ v d, vs = [v] ∧ Dp K H v d ∧ ∀ H', Fx [] H H' → Q (.bl (areKnown d)) H'
theorem ok_are_known {P : Program} {w : World} {K : PySem.W.Frag} {mg : Str → Option Value} {base : Heap} (T : Tx K mg) : Def P w K mg base CX0 2 "are_known" ["thing"] (spAreKnown K) := by
  obtain ⟨fd, F⟩ := T.d_are_known
  have G_is_number := ok_is_number (P := P) (w := w) (base := base) T
  refine ⟨_, fd, F.ok sc_are_known (fun vs H Q E h => ?_) (fun cdv A outer s H vs Q E hr h => ?_), F.bindsN fun _ _ _ _ _ _ us hl => match us, hl with | [_], _ => rfl, T.g_are_known, F.kp⟩
  · obtain ⟨v, d, rfl, _⟩ := h
    rfl
  · obtain ⟨v, d, rfl, hd, q⟩ := h
    refine ⟨_, PSs.nox (pss_cons (ps_if (PW.pt (pw_or (pt_not (pt_val (pe_callB call_isiD (by rfl) T.f_isinstance (by decide +kernel) (pa_cons (pv 0) (pa_cons (gT (n := "tuple") T.f_tuple) pa_nil))))) (pw_or1 (pt_not (pt_chain op_le op_le pe_int (pe_callB call_len_seq (by rfl) T.f_len (by decide +kernel) (pa_cons (pv 0) pa_nil)) (gC T.c_MOST_KNOWN))))))
        (pss_one (ps_ret pe_bl))
        pss_nil)
        (pss_cons (ps_if (pt_not (pt_val (pe_callB (cr_all rfl) (by rfl) T.f_all (by decide +kernel) (pa_cons (pe_lc (own := [("one", 1)]) (g := (gName 1)) (tt := tYes) rfl sc_are_known.nd (pi_tup (pv 0)) (blkOk_by (own := [("one", 1)]) (N := ["thing", "one", "other"]) (sc := defScope s_are_known) (by decide +kernel)) (fun _ _ _ _ _ => pg_name (i := 1) sc_are_known.nd rfl (by first | exact Or.inl rfl | exact Or.inr rfl)) (fun _ _ _ _ _ => pts_nil) (fun _ _ _ _ _ => (pe_def G_is_number (hr.mono (by omega)) pass0 (pa_cons (pv 1) (pa_cons pe_int (pa_cons (gC T.c_GREAT) pa_nil)))))) pa_nil))))
        (pss_one (ps_ret pe_bl))
        pss_nil)
        (pss_one (ps_ret (pe_callB (cr_all rfl) (by rfl) T.f_all (by decide +kernel) (pa_cons (pe_lc (own := [("one", 1), ("other", 2)]) (g := (gTup _ 2 (gCons (gName 1) (gCons (gName 2) gNil)))) (tt := tYes) rfl sc_are_known.nd (RZ.pi_zipA (by rfl) T.f_zip (pa_cons (pv 0) (pa_cons (pe_slice sl_tup (pv 0) (po_some pe_int) po_none) pa_nil))) (blkOk_by (own := [("one", 1), ("other", 2)]) (N := ["thing", "one", "other"]) (sc := defScope s_are_known) (by decide +kernel)) (fun _ _ _ _ _ => pg_tup rfl (pgs_cons (pg_name (i := 1) sc_are_known.nd rfl (by first | exact Or.inl rfl | exact Or.inr rfl)) (pgs_cons (pg_name (i := 2) sc_are_known.nd rfl (by first | exact Or.inl rfl | exact Or.inr rfl)) pgs_nil))) (fun _ _ _ _ _ => pts_nil) (fun _ _ _ _ _ => (pe_cmpR op_lt (pv 1) (pv 2) (nomark _)))) pa_nil)))))), ?_⟩
    refine rd_isD rfl (by decide) hd ⟨_, rfl, ?_⟩
    cases hd with
    | @tup a xs ds hs ha =>
      have hl := ha.len
      have qf : areKnown (.tuple ds) = false → Q (.bl false) H := fun e => by
        have := q H Fx.refl
        rw [e] at this
        exact this
      refine ifF rfl ⟨_, rfl, a, xs, rfl, .inr hs, _, _, rfl, rfl, _, rfl, ?_⟩
      refine ifB (fun c1 => ⟨_, _, rfl, rfl, _, rfl, ?_⟩) (fun c1 => ⟨_, rfl, ifT rfl ?_⟩)
      · have c1' : (1 : Int) ≤ (xs.length : Int) := of_decide_eq_true c1
        refine ifB (fun c2 => ?_) (fun c2 => ?_)
        · exact qf (by
            have c2' : decide ((xs.length : Int) ≤ 8) = false := by simpa using c2
            have : ¬ ds.length ≤ 8 := fun z => absurd c2' (by rw [decide_eq_true (by omega)]; decide)
            simp [areKnown_tup, this])
        · have c2' : (xs.length : Int) ≤ 8 := by simpa using c2
          -- all([is_number(one, 0, GREAT) for one in thing])
          refine ⟨_, rfl, a, rfl, ⟨xs, hs⟩, fun D hD => lc_map (walk_tup (xs := xs)) (fun i => .bl (isNum (ds.getD i .none) 0 9999)) (by omega) hD (fun H2 f => f.sqT hs) (fun _ _ _ _ y => YAt.fx y) (fun i x H2 H3 Qe Z hi f y k => ?_) (fun H2 f hL => ?_)⟩
          · refine ⟨rfl, ifT rfl ?_⟩
            obtain ⟨d, h1, h2⟩ := ha.get y.2
            refine ⟨x, rfl, x, d, 0, 9999, rfl, (h2.ext f).ext (YAt.fx y), ?_⟩
            rw [getD_of (d := .none) h1] at k
            exact k _ .refl
          · refine ⟨D, (List.range xs.length).map fun i => isNum (ds.getD i .none) 0 9999, rfl, SqL.of (by rw [hL, List.map_map]; rfl), _, rfl, ?_⟩
            have eA : (((List.range xs.length).map fun i => isNum (ds.getD i .none) 0 9999).all id) = ds.all fun x => isNum x 0 9999 := range_all (by rw [hl]; exact all_range_get (fun x => isNum x 0 9999) .none ds)
            rw [eA]
            refine ifB (fun c3 => ?_) (fun c3 => ?_)
            · have := q H2 f
              have e3 : (ds.all fun x => isNum x 0 9999) = false := by simpa using c3
              have e4 : areKnown (.tuple ds) = false := by
                rw [areKnown_tup]
                rw [e3, Bool.false_and, Bool.and_false]
              rw [e4] at this
              exact this
            · have e3 : (ds.all fun x => isNum x 0 9999) = true := by simpa using c3
              have hs2 := f.sqT hs
              -- all([one < other for one, other in zip(thing, thing[1:])])
              refine ⟨_, rfl, _, rfl, 1, rfl, a, xs, rfl, hs2, ?_, fun p hp => ?_⟩
              · rw [HT.sIx_none, show HT.sIx xs.length 0 (some 1) = min 1 xs.length from HT.sIx_nat xs.length 0 1]
                intro z
                omega
              have f2 : Fx [] H2 (upd H2 p (.tup (cutV xs (some 1) none))) := Fx.new hp
              have ecut : cutV xs (some 1) none = xs.drop 1 := by
                unfold cutV
                rw [HT.sIx_none, show HT.sIx xs.length 0 (some 1) = min 1 xs.length from HT.sIx_nat xs.length 0 1, show min 1 xs.length = 1 by omega]
                exact List.take_of_length_le (by rw [List.length_drop]; exact Nat.le_refl _)
              rw [ecut] at f2 ⊢
              have hs3 := f2.sqT hs2
              have hp3 : SqT K (upd H2 p (.tup (xs.drop 1))) p (xs.drop 1) := SqT.of upd_same
              refine ⟨a, p, xs, xs.drop 1, rfl, .inr ⟨hs3, hp3, fun D2 hD2 => ?_⟩⟩
              have hm : xs.length - 1 = min xs.length (xs.drop 1).length := by rw [List.length_drop]; omega
              refine lc_map (walk_zipT hm) (fun i => .bl (decide ((ds.map intOf).getD i 0 < (ds.map intOf).getD (i + 1) 0))) (by omega) hD2 (fun H4 f4 => ⟨f4.sqT hs3, f4.sqT hp3⟩) (fun _ _ _ _ y => YPair.fx y) (fun i x H4 H5 Qe Z hi f4 y k => ?_) (fun H4 f4 hL4 => ?_)
              · obtain ⟨T, u, v, rfl, hT, hu, hv⟩ := YPair.tup y
                obtain ⟨d1, g1, g2⟩ := ha.get hu
                have hv' : xs[i + 1]? = some v := by
                  rw [List.getElem?_drop, Nat.add_comm] at hv
                  exact hv
                obtain ⟨d2, g3, g4⟩ := ha.get hv'
                have a1 := List.all_eq_true.mp e3 d1 (List.mem_of_getElem? g1)
                have a2 := List.all_eq_true.mp e3 d2 (List.mem_of_getElem? g3)
                obtain ⟨m1, rfl, _⟩ := isNum_inv a1
                obtain ⟨m2, rfl, _⟩ := isNum_inv a2
                cases g2
                cases g4
                refine ⟨T, _, rfl, SqT.of hT, rfl, _, _, rfl, _, _, rfl, rfl, rfl, ifT rfl ⟨_, rfl, _, rfl, m1, m2, rfl, rfl, ?_⟩⟩
                rw [show (ds.map intOf).getD i 0 = m1 from getD_of (by rw [List.getElem?_map, g1]; rfl), show (ds.map intOf).getD (i + 1) 0 = m2 from getD_of (by rw [List.getElem?_map, g3]; rfl)] at k
                exact k _ .refl
              · refine ⟨D2, (List.range (xs.length - 1)).map fun i => decide ((ds.map intOf).getD i 0 < (ds.map intOf).getD (i + 1) 0), rfl, SqL.of (by rw [hL4, List.map_map]; rfl), ?_⟩
                have eB : (((List.range (xs.length - 1)).map fun i => decide ((ds.map intOf).getD i 0 < (ds.map intOf).getD (i + 1) 0)).all id) = rising (ds.map intOf) := range_all (by rw [hl, ← List.length_map (f := intOf)]; exact rising_range _)
                rw [eB]
                have := q H4 ((f.trans f2).trans f4)
                have e4 : areKnown (.tuple ds) = rising (ds.map intOf) := by
                  rw [areKnown_tup]
                  rw [e3, Bool.true_and, decide_eq_true (show 1 ≤ ds.length by omega), decide_eq_true (show ds.length ≤ 8 by omega)]
                  rfl
                rw [e4] at this
                exact this
      · exact qf (by
          have c1' : ¬ (1 : Int) ≤ (xs.length : Int) := of_decide_eq_false c1
          have : ds.length = 0 := by omega
          simp [areKnown_tup, this])
    | _ => exact ifT rfl (q H .refl)
end Mh
/-! MhMach3 -/
namespace Mh
open PySem PySem.Spec PyProof.Rows L2
def isTest : PyData → Bool
  | .tuple [.str z] => z == ("any" : Str)
  | .tuple [.str z, x] => (z == ("below" : Str) && isNum x 0 9999) || (z == ("known" : Str) && areKnown x)
  | .tuple [.str z, x, y] => isRest (.tuple [.str z, x, y]) && inV (.str z) [.str "rest", .str "chance"]
  | _ => false
theorem isTag_no {n : Nat} {d : PyData} (h : isTag n d = false) {z : Str} {xs : List PyData} (e : xs.length + 1 = n) : d ≠ .tuple (.str z :: xs) := fun q => by
  subst q
  have : (xs.length + 1 == n) = false := h
  rw [e] at this
  simp at this
theorem isRest_inv {d : PyData} (h : isRest d = true) : ∃ z x y, d = .tuple [.str z, x, y] := by
  unfold isRest at h
  split at h
  · exact ⟨_, _, _, rfl⟩
  · cases h
/-- x == a written text -/
theorem rd_eqS {σ : L2.St} {H : Hp} {Q : VK} {x : Str} {z : Str} (q : Q (.bl (x == z)) H) : tC (.str z) σ H fun y H2 => rEq (.str x) y H2 Q := ⟨rfl, by rw [dec_str]; exact q⟩
theorem sc_is_test : FnScope ["thing"] ["thing"] (defScope s_is_test) := ⟨rfl, rfl, rfl, by decide +kernel, rfl, by decide +kernel, by decide +kernel⟩
def spIsTest (K : PySem.W.Frag) : Sp := fun vs H Q _ => ∃ v d, vs = [v] ∧ Dp K H v d ∧ ∀ H', Fx [] H H' → Q (.bl (isTest d)) H'
theorem ok_is_test {P : Program} {w : World} {K : PySem.W.Frag} {mg : Str → Option Value} {base : Heap} (T : Tx K mg) : Def P w K mg base CX0 3 "is_test" ["thing"] (spIsTest K) := by
  obtain ⟨fd, F⟩ := T.d_is_test
  have G_is_tagged := ok_is_tagged (P := P) (w := w) (base := base) T
  have G_is_rest := ok_is_rest (P := P) (w := w) (base := base) T
  have G_is_number := ok_is_number (P := P) (w := w) (base := base) T
  have G_are_known := ok_are_known (P := P) (w := w) (base := base) T
  refine ⟨_, fd, F.ok sc_is_test (fun vs H Q E h => ?_) (fun cdv A outer s H vs Q E hr h => ?_), F.bindsN fun _ _ _ _ _ _ us hl => match us, hl with | [_], _ => rfl, T.g_is_test, F.kp⟩
  · obtain ⟨v, d, rfl, _⟩ := h
    rfl
  · obtain ⟨v, d, rfl, hd, q⟩ := h
    refine ⟨_, PSs.nox (pss_cons (ps_if (pt_val (pe_def G_is_tagged (hr.mono (by omega)) pass0 (pa_cons (pv 0) (pa_cons pe_int pa_nil))))
        (pss_one (ps_ret (pe_cmpR op_eq (pe_ix ix_tup (pv 0) pe_int (fun _ _ => rfl)) pe_str (nomark _))))
        pss_nil)
        (pss_cons (ps_if (pt_val (pe_def G_is_tagged (hr.mono (by omega)) pass0 (pa_cons (pv 0) (pa_cons pe_int pa_nil))))
        (pss_one (ps_ret (pe_or (pe_and (pe_cmpR op_eq (pe_ix ix_tup (pv 0) pe_int (fun _ _ => rfl)) pe_str (nomark _)) (pe_one (pe_def G_is_number (hr.mono (by omega)) pass0 (pa_cons (pe_ix ix_tup (pv 0) pe_int (fun _ _ => rfl)) (pa_cons pe_int (pa_cons (gC T.c_GREAT) pa_nil)))))) (pe_one (pe_and (pe_cmpR op_eq (pe_ix ix_tup (pv 0) pe_int (fun _ _ => rfl)) pe_str (nomark _)) (pe_one (pe_def G_are_known (hr.mono (by omega)) pass0 (pa_cons (pe_ix ix_tup (pv 0) pe_int (fun _ _ => rfl)) pa_nil))))))))
        pss_nil)
        (pss_one (ps_ret (pe_and (pe_def G_is_rest (hr.mono (by omega)) pass0 (pa_cons (pv 0) pa_nil)) (pe_one (pe_cmpR op_in_seq (pe_ix ix_tup (pv 0) pe_int (fun _ _ => rfl)) (pe_tup (pa_cons pe_str (pa_cons pe_str pa_nil))) (by rfl)))))))), ?_⟩
    refine ⟨v, rfl, v, d, 0, rfl, hd, _, rfl, ifB (fun c => ?_) (fun c => ?_)⟩
    · obtain ⟨z, xs, rfl, e⟩ := isTag_inv c
      obtain rfl : xs = [] := List.length_eq_zero_iff.mp (by omega)
      obtain ⟨a, v0, rfl, hs, h0⟩ := hd.tup1
      cases h0
      exact rd_ixT (j := 0) rfl hs rfl (rd_eqS (q H .refl))
    refine ⟨v, rfl, v, d, 1, rfl, hd, _, rfl, ifB (fun c2 => ?_) (fun c2 => ?_)⟩
    · obtain ⟨z, xs, rfl, e⟩ := isTag_inv c2
      obtain ⟨x, rfl⟩ : ∃ x, xs = [x] := by
        match xs, e with
        | [x], _ => exact ⟨x, rfl⟩
      obtain ⟨a, v0, v1, rfl, hs, h0, h1⟩ := hd.tup2
      cases h0
      have q2 : ∀ H', Fx [] H H' → Q (.bl ((z == ("below" : Str) && isNum x 0 9999) || (z == ("known" : Str) && areKnown x))) H' := q
      have fin : (z == ("below" : Str) && isNum x 0 9999) = false → tAndV (tOp rEq (tOp (rIxT K) (tVar 0) (tC (.int 0))) (tC (.str "known"))) (tCall (spAreKnown K) [] E0 (tCons (tOp (rIxT K) (tVar 0) (tC (.int 1))) tNil)) [some (.ref a)] H Q := fun e0 => by
        refine rd_ixT (j := 0) rfl hs rfl (rd_eqS ⟨_, rfl, ifB (fun c4 => ?_) (fun c4 => ?_)⟩)
        · refine rd_ixT (j := 1) rfl hs rfl ⟨v1, x, rfl, h1, fun H' f => ?_⟩
          have := q2 H' f
          rw [e0, c4, Bool.false_or, Bool.true_and] at this
          exact this
        · have := q2 H .refl
          rw [e0, c4] at this
          exact this
      refine rd_ixT (j := 0) rfl hs rfl (rd_eqS ⟨_, rfl, ifB (fun c3 => ?_) (fun c3 => ?_)⟩)
      · refine rd_ixT (j := 1) rfl hs rfl ⟨v1, x, 0, 9999, rfl, h1, _, rfl, ifB (fun c4 => ?_) (fun c4 => ?_)⟩
        · have := q2 H .refl
          rw [c3, c4] at this
          exact this
        · exact fin (by rw [c3, c4]; rfl)
      · exact ⟨_, rfl, ifF rfl (fin (by rw [c3]; rfl))⟩
    · refine ⟨v, rfl, v, d, rfl, hd, _, rfl, ifB (fun c3 => ?_) (fun c3 => ?_)⟩
      · obtain ⟨z, x, y, rfl⟩ := isRest_inv c3
        obtain ⟨a, v0, v1, v2, rfl, hs, h0, h1, h2⟩ := hd.tup3
        cases h0
        have q2 : ∀ H', Fx [] H H' → Q (.bl (isRest (.tuple [.str z, x, y]) && inV (.str z) [.str "rest", .str "chance"])) H' := q
        refine rd_ixT (j := 0) rfl hs rfl ⟨by show 2 ≤ sizeLine; decide, fun p hp => ?_⟩
        have := q2 _ (Fx.new (o := .tup [.str "rest", .str "chance"]) hp)
        rw [c3] at this
        exact ⟨p, _, rfl, .inr (SqT.of upd_same), rfl, rfl, this⟩
      · have e : isTest d = false := by
          unfold isTest
          split
          · exact absurd rfl (isTag_no c rfl)
          · exact absurd rfl (isTag_no c2 rfl)
          · rw [c3]; rfl
          · rfl
        have := q H .refl
        rw [e] at this
        exact this

def isAns : PyData → Bool
  | .tuple [.str z] => z == ("none" : Str)
  | .tuple [.str z, x] => if z == ("rest" : Str) then isNum x 2 99 else inV (.str z) [.str "num", .str "plus", .str "times"] && isNum x (-9999) 9999
  | _ => false
theorem sc_is_answer : FnScope ["thing"] ["thing"] (defScope s_is_answer) := ⟨rfl, rfl, rfl, by decide +kernel, rfl, by decide +kernel, by decide +kernel⟩
def spIsAnswer (K : PySem.W.Frag) : Sp := fun vs H Q _ => ∃ v d, vs = [v] ∧ Dp K H v d ∧ ∀ H', Fx [] H H' → Q (.bl (isAns d)) H'
theorem ok_is_answer {P : Program} {w : World} {K : PySem.W.Frag} {mg : Str → Option Value} {base : Heap} (T : Tx K mg) : Def P w K mg base CX0 2 "is_answer" ["thing"] (spIsAnswer K) := by
  obtain ⟨fd, F⟩ := T.d_is_answer
  have G_is_tagged := ok_is_tagged (P := P) (w := w) (base := base) T
  have G_is_number := ok_is_number (P := P) (w := w) (base := base) T
  refine ⟨_, fd, F.ok sc_is_answer (fun vs H Q E h => ?_) (fun cdv A outer s H vs Q E hr h => ?_), F.bindsN fun _ _ _ _ _ _ us hl => match us, hl with | [_], _ => rfl, T.g_is_answer, F.kp⟩
  · obtain ⟨v, d, rfl, _⟩ := h
    rfl
  · obtain ⟨v, d, rfl, hd, q⟩ := h
    refine ⟨_, PSs.nox (pss_cons (ps_if (pt_val (pe_def G_is_tagged (hr.mono (by omega)) pass0 (pa_cons (pv 0) (pa_cons pe_int pa_nil))))
        (pss_one (ps_ret (pe_cmpR op_eq (pe_ix ix_tup (pv 0) pe_int (fun _ _ => rfl)) pe_str (nomark _))))
        pss_nil)
        (pss_cons (ps_if (pt_not (pt_val (pe_def G_is_tagged (hr.mono (by omega)) pass0 (pa_cons (pv 0) (pa_cons pe_int pa_nil)))))
        (pss_one (ps_ret pe_bl))
        pss_nil)
        (pss_cons (ps_if (pt_cmpR op_eq (pe_ix ix_tup (pv 0) pe_int (fun _ _ => rfl)) pe_str (nomark _))
        (pss_one (ps_ret (pe_def G_is_number (hr.mono (by omega)) pass0 (pa_cons (pe_ix ix_tup (pv 0) pe_int (fun _ _ => rfl)) (pa_cons pe_int (pa_cons (gC T.c_MOST_BY) pa_nil))))))
        pss_nil)
        (pss_one (ps_ret (pe_and (pe_cmpR op_in_seq (pe_ix ix_tup (pv 0) pe_int (fun _ _ => rfl)) (pe_tup (pa_cons pe_str (pa_cons pe_str (pa_cons pe_str pa_nil)))) (by rfl)) (pe_one (pe_def G_is_number (hr.mono (by omega)) pass0 (pa_cons (pe_ix ix_tup (pv 0) pe_int (fun _ _ => rfl)) (pa_cons (pe_op op_sub pe_int (gC T.c_GREAT)) (pa_cons (gC T.c_GREAT) pa_nil))))))))))), ?_⟩
    refine ⟨v, rfl, v, d, 0, rfl, hd, _, rfl, ifB (fun c => ?_) (fun c => ?_)⟩
    · obtain ⟨z, xs, rfl, e⟩ := isTag_inv c
      obtain rfl : xs = [] := List.length_eq_zero_iff.mp (by omega)
      obtain ⟨a, v0, rfl, hs, h0⟩ := hd.tup1
      cases h0
      exact rd_ixT (j := 0) rfl hs rfl (rd_eqS (q H .refl))
    refine ⟨v, rfl, v, d, 1, rfl, hd, _, rfl, ifB (fun c2 => ?_) (fun c2 => ?_)⟩
    · have e : isAns d = false := by
        have c2' : isTag 2 d = false := by simpa using c2
        unfold isAns
        split
        · exact absurd rfl (isTag_no c rfl)
        · exact absurd rfl (isTag_no c2' rfl)
        · rfl
      have := q H .refl
      rw [e] at this
      exact this
    · have c2' : isTag 2 d = true := by simpa using c2
      obtain ⟨z, xs, rfl, e⟩ := isTag_inv c2'
      obtain ⟨x, rfl⟩ : ∃ x, xs = [x] := by
        match xs, e with
        | [x], _ => exact ⟨x, rfl⟩
      obtain ⟨a, v0, v1, rfl, hs, h0, h1⟩ := hd.tup2
      cases h0
      have q2 : ∀ H', Fx [] H H' → Q (.bl (if z == ("rest" : Str) then isNum x 2 99 else inV (.str z) [.str "num", .str "plus", .str "times"] && isNum x (-9999) 9999)) H' := q
      refine rd_ixT (j := 0) rfl hs rfl (rd_eqS ⟨_, rfl, ifB (fun c3 => ?_) (fun c3 => ?_)⟩)
      · rw [c3] at q2
        exact rd_ixT (j := 1) rfl hs rfl ⟨v1, x, 2, 99, rfl, h1, q2 H .refl⟩
      · rw [c3] at q2
        refine rd_ixT (j := 0) rfl hs rfl ⟨by show 3 ≤ sizeLine; decide, fun p hp => ?_⟩
        have fp : Fx [] H (upd H p (.tup [.str "num", .str "plus", .str "times"])) := Fx.new hp
        have q3 : Q (.bl (inV (.str z) [.str "num", .str "plus", .str "times"] && isNum x (-9999) 9999)) _ := q2 _ fp
        refine ⟨p, _, rfl, .inr (SqT.of upd_same), rfl, rfl, _, rfl, ifB (fun c4 => ?_) (fun c4 => ?_)⟩
        · have c4' : inV (.str z) [.str "num", .str "plus", .str "times"] = true := c4
          rw [c4', Bool.true_and] at q3
          exact rd_ixT (j := 1) rfl (fp.sqT hs) rfl ⟨0, 9999, rfl, rfl, v1, x, -9999, 9999, rfl, h1.ext fp, q3⟩
        · have c4' : inV (.str z) [.str "num", .str "plus", .str "times"] = false := c4
          rw [c4', Bool.false_and] at q3
          exact q3
end Mh
/-! MhMach4 -/
namespace Mh
open PySem PySem.Spec PyProof.Rows L2
def rowOk : PyData → Bool
  | .tuple [t, a] => isTest t && isAns a
  | _ => false
theorem rowOk_inv {d : PyData} (h : rowOk d = true) : ∃ t a, d = .tuple [t, a] ∧ isTest t = true ∧ isAns a = true := by
  unfold rowOk at h
  split at h
  · obtain ⟨h1, h2⟩ := Bool.and_eq_true_iff.mp h
    exact ⟨_, _, rfl, h1, h2⟩
  · cases h
/-- x == n, n a written number -/
theorem rd_eqI {σ : L2.St} {H : Hp} {Q : VK} {x : Int} {z : Int} (q : Q (.bl (x == z)) H) : tC (.int z) σ H fun y H2 => rEq (.int x) y H2 Q := ⟨rfl, by rw [dec_int]; exact q⟩
theorem sc_need_machine : FnScope ["machine", "row", "one"] ["machine"] (defScope s_need_machine) := ⟨rfl, rfl, rfl, by decide +kernel, rfl, by decide +kernel, by decide +kernel⟩
def spNeedMachine (K : PySem.W.Frag) : Sp := fun vs H Q _ => ∃ v ds, vs = [v] ∧ Dp K H v (.tuple ds) ∧ ds ≠ [] ∧ ds.length ≤ 12 ∧ (∀ d ∈ ds, rowOk d = true) ∧ SeqAt.shaped (.tuple ds) = true ∧ ∀ H', Fx [] H H' → Q .non H'
theorem ok_need_machine {P : Program} {w : World} {K : PySem.W.Frag} {mg : Str → Option Value} {base : Heap} (T : Tx K mg) : Def P w K mg base CX0 4 "need_machine" ["machine"] (spNeedMachine K) := by
  obtain ⟨fd, F⟩ := T.d_need_machine
  have G_is_test := ok_is_test (P := P) (w := w) (base := base) T
  have G_is_answer := ok_is_answer (P := P) (w := w) (base := base) T
  refine ⟨_, fd, F.ok sc_need_machine (fun vs H Q E h => ?_) (fun cdv A outer s H vs Q E hr h => ?_), F.bindsN fun _ _ _ _ _ _ us hl => match us, hl with | [_], _ => rfl, T.g_need_machine, F.kp⟩
  · obtain ⟨v, ds, rfl, _⟩ := h
    rfl
  · obtain ⟨v, ds, rfl, hd, hne, hlen, hrows, hsh, q⟩ := h
    refine ⟨_, PSs.nox (pss_cons (ps_if (PW.pt (pw_or (pt_not (pt_val (pe_callB call_isiD (by rfl) T.f_isinstance (by decide +kernel) (pa_cons (pv 0) (pa_cons (gT (n := "tuple") T.f_tuple) pa_nil))))) (pw_or1 (pt_cmpR (op_eqD hr.units) (pv 0) (pe_tup pa_nil) (nomark _)))))
        (pss_one ps_never)
        pss_nil)
        (pss_one (ps_for PassesOwn.never rfl (pi_enumT (by rfl) T.f_enumerate (pa_cons (pv 0) pa_nil)) (pg_tup rfl (pgs_cons (pg_name (i := 1) sc_need_machine.nd rfl (by first | exact Or.inl rfl | exact Or.inr rfl)) (pgs_cons (pg_name (i := 2) sc_need_machine.nd rfl (by first | exact Or.inl rfl | exact Or.inr rfl)) pgs_nil)))
        (pss_cons (ps_if (PW.pt (pw_or (pt_cmpR op_eq (pv 1) (gC T.c_MOST_ROWS) (nomark _)) (pw_or (pt_not (pt_val (pe_callB call_isiD (by rfl) T.f_isinstance (by decide +kernel) (pa_cons (pv 2) (pa_cons (gT (n := "tuple") T.f_tuple) pa_nil))))) (pw_or1 (pt_cmpR op_ne (pe_callB call_len_seq (by rfl) T.f_len (by decide +kernel) (pa_cons (pv 2) pa_nil)) pe_int (nomark _))))))
        (pss_one ps_never)
        pss_nil)
        (pss_one (ps_if (PW.pt (pw_or (pt_not (pt_val (pe_def G_is_test (hr.mono (by omega)) pass0 (pa_cons (pe_ix ix_tup (pv 2) pe_int (fun _ _ => rfl)) pa_nil)))) (pw_or1 (pt_not (pt_val (pe_def G_is_answer (hr.mono (by omega)) pass0 (pa_cons (pe_ix ix_tup (pv 2) pe_int (fun _ _ => rfl)) pa_nil)))))))
        (pss_one ps_never)
        pss_nil)))))), ?_⟩
    obtain ⟨a, xs, rfl, hs, ha⟩ := hd.tupI
    have hl := ha.len
    refine rd_isD rfl (by decide) hd ⟨_, rfl, ifF rfl ⟨_, rfl, by show 0 ≤ sizeLine; decide, fun p hp => ?_⟩⟩
    have f1 : Fx [] H (upd H p (.tup [])) := Fx.new hp
    refine ⟨.tuple ds, .tuple [], hd.ext f1, .tup (SqT.of upd_same) .nil, hsh, by decide +kernel, _, rfl, ifF ?_ ?_⟩
    · cases ds with
      | nil => exact absurd rfl hne
      | cons d ds => simp [PyData.eqv, PyData.eqvAll]
    refine ⟨_, rfl, a, xs, rfl, f1.sqT hs, for_it walk_enT (fun i σ' H' => ∃ y1 y2, σ' = [some (.ref a), y1, y2] ∧ Fx [] H H') ⟨none, none, rfl, f1⟩ (fun i σ' H' _ ⟨_, _, _, f⟩ => f.sqT hs) (fun i x σ' H2 H3 hi hP y => ?_) (fun σ' H' hP => ?_)⟩
    · obtain ⟨y1, y2, rfl, f⟩ := hP
      obtain ⟨T, u, v, rfl, hT, hu, hv⟩ := YPair.tup y
      cases hu
      have f3 := f.trans (YPair.fx y)
      obtain ⟨d, g1, g2⟩ := ha.get hv
      obtain ⟨t, an, rfl, ht, han⟩ := rowOk_inv (hrows d (List.mem_of_getElem? g1))
      have g3 := g2.ext f3
      obtain ⟨b, w1, w2, rfl, hb, k1, k2⟩ := g3.tup2
      refine ⟨T, _, rfl, SqT.of hT, rfl, _, _, rfl, _, _, rfl, rfl, ?_⟩
      refine ⟨_, rfl, rd_eqI ⟨_, rfl, ifF ?_ ?_⟩⟩
      · have : (i : Int) ≠ 12 := by omega
        simpa using this
      refine rd_isD rfl (by decide) g3 ⟨_, rfl, ifF rfl ⟨_, rfl, b, _, rfl, .inr hb, rfl, _, rfl, ifF rfl ?_⟩⟩
      refine rd_ixT (j := 0) rfl hb rfl ⟨w1, t, rfl, k1, fun H4 f4 => ⟨_, rfl, ifF (by rw [ht]; rfl) ?_⟩⟩
      refine rd_ixT (j := 1) rfl (f4.sqT hb) rfl ⟨w2, an, rfl, k2.ext f4, fun H5 f5 => ⟨_, rfl, ifF (by rw [han]; rfl) ?_⟩⟩
      exact ⟨_, _, rfl, (f3.trans f4).trans f5⟩
    · obtain ⟨y1, y2, rfl, f⟩ := hP
      exact q H' f

/-! ### good tests, answers, machines as data of Lean -/
inductive Tst where
  | any | below (n : Int) | rest (m r : Int) | chance (m r : Int) | known (ns : List Int)
inductive Ans where
  | num (n : Int) | plus (n : Int) | times (n : Int) | rest (m : Int) | none
def Tst.d : Tst → PyData
  | .any => .tuple [.str "any"]
  | .below n => .tuple [.str "below", .int n]
  | .rest m r => .tuple [.str "rest", .int m, .int r]
  | .chance m r => .tuple [.str "chance", .int m, .int r]
  | .known ns => .tuple [.str "known", .tuple (ns.map .int)]
def Ans.d : Ans → PyData
  | .num n => .tuple [.str "num", .int n]
  | .plus n => .tuple [.str "plus", .int n]
  | .times n => .tuple [.str "times", .int n]
  | .rest m => .tuple [.str "rest", .int m]
  | .none => .tuple [.str "none"]
def Tst.ok : Tst → Prop
  | .any => True
  | .below n => 0 ≤ n ∧ n ≤ 9999
  | .rest m r => 2 ≤ m ∧ m ≤ 99 ∧ 0 ≤ r ∧ r < m
  | .chance m r => 2 ≤ m ∧ m ≤ 99 ∧ 0 ≤ r ∧ r < m
  | .known ns => 1 ≤ ns.length ∧ ns.length ≤ 8 ∧ (∀ n ∈ ns, 0 ≤ n ∧ n ≤ 9999) ∧ rising ns = true
def Ans.ok : Ans → Prop
  | .num n => -9999 ≤ n ∧ n ≤ 9999
  | .plus n => -9999 ≤ n ∧ n ≤ 9999
  | .times n => -9999 ≤ n ∧ n ≤ 9999
  | .rest m => 2 ≤ m ∧ m ≤ 99
  | .none => True
abbrev Mch := List (Tst × Ans)
def rowD (r : Tst × Ans) : PyData := .tuple [r.1.d, r.2.d]
def machD (m : Mch) : PyData := .tuple (m.map rowD)
structure Mch.ok (m : Mch) : Prop where
  ne : m ≠ []
  len : m.length ≤ 12
  rows : ∀ r ∈ m, r.1.ok ∧ r.2.ok
theorem intOf_map (ns : List Int) : (ns.map PyData.int).map intOf = ns := by
  rw [List.map_map]
  exact List.map_id ns
theorem Tst.ok_test {t : Tst} (h : t.ok) : isTest t.d = true := by
  cases t with
  | any => decide +kernel
  | below n =>
    have e : isNum (.int n) 0 9999 = true := by simp [isNum, h.1, h.2]
    have e1 : (("below" : Str) == ("below" : Str)) = true := beq_self_eq_true _
    simp only [Tst.d, isTest, e1, e, Bool.and_self, Bool.true_or]
  | rest m r =>
    obtain ⟨h1, h2, h3, h4⟩ := h
    have e : isRest (.tuple [.str "rest", .int m, .int r]) = true := by
      have h5 : r ≤ m - 1 := by omega
      simp [isRest, isNum, intOf, h1, h2, h3, h5]
    show (isRest (.tuple [.str "rest", .int m, .int r]) && inV (.str "rest") [.str "rest", .str "chance"]) = true
    rw [e, Bool.true_and]
    decide +kernel
  | chance m r =>
    obtain ⟨h1, h2, h3, h4⟩ := h
    have e : isRest (.tuple [.str "chance", .int m, .int r]) = true := by
      have h5 : r ≤ m - 1 := by omega
      simp [isRest, isNum, intOf, h1, h2, h3, h5]
    show (isRest (.tuple [.str "chance", .int m, .int r]) && inV (.str "chance") [.str "rest", .str "chance"]) = true
    rw [e, Bool.true_and]
    decide +kernel
  | known ns =>
    obtain ⟨h1, h2, h3, h4⟩ := h
    have e : areKnown (.tuple (ns.map .int)) = true := by
      rw [areKnown_tup, intOf_map, h4, List.length_map, decide_eq_true h1, decide_eq_true h2, Bool.and_true, Bool.and_true, Bool.true_and]
      refine List.all_eq_true.mpr fun d hd => ?_
      obtain ⟨n, hn, rfl⟩ := List.mem_map.mp hd
      obtain ⟨h5, h6⟩ := h3 n hn
      simp [isNum, h5, h6]
    have e1 : (("known" : Str) == ("known" : Str)) = true := beq_self_eq_true _
    simp only [Tst.d, isTest, e1, e, Bool.and_self, Bool.or_true]
theorem Ans.ok_ans {a : Ans} (h : a.ok) : isAns a.d = true := by
  have key : ∀ (z : Str) (n : Int), -9999 ≤ n ∧ n ≤ 9999 → (z == ("rest" : Str)) = false → inV (.str z) [.str "num", .str "plus", .str "times"] = true → isAns (.tuple [.str z, .int n]) = true := fun z n h e1 e2 => by
    show (if z == ("rest" : Str) then isNum (.int n) 2 99 else inV (.str z) [.str "num", .str "plus", .str "times"] && isNum (.int n) (-9999) 9999) = true
    rw [e1, e2]
    simp [isNum, h.1, h.2]
  cases a with
  | num n => exact key _ n h (by decide +kernel) (by decide +kernel)
  | plus n => exact key _ n h (by decide +kernel) (by decide +kernel)
  | times n => exact key _ n h (by decide +kernel) (by decide +kernel)
  | rest m =>
    show (if ("rest" : Str) == ("rest" : Str) then isNum (.int m) 2 99 else inV (.str ("rest" : Str)) [.str "num", .str "plus", .str "times"] && isNum (.int m) (-9999) 9999) = true
    rw [beq_self_eq_true]
    simp [isNum, h.1, h.2]
  | none => decide +kernel
theorem lay_ints : ∀ ns : List Int, PyData.canLayAll0 (ns.map .int) = true ∧ PyData.depthAll (ns.map .int) = 0
  | [] => ⟨by simp [PyData.canLayAll0], by simp [PyData.depthAll]⟩
  | n :: ns => by
    obtain ⟨h1, h2⟩ := lay_ints ns
    exact ⟨by simp [PyData.canLayAll0, PyData.canLay0, h1], by simp [PyData.depthAll, PyData.depth, h2]⟩
theorem strOkA : (["any", "below", "rest", "chance", "known", "num", "plus", "times", "none"] : List Str).all (fun z => PyData.canLay0 (.str z)) = true := by decide +kernel
theorem strOk1 {z : Str} (h : z ∈ (["any", "below", "rest", "chance", "known", "num", "plus", "times", "none"] : List Str)) : PyData.canLay0 (.str z) = true := List.all_eq_true.mp strOkA z h
theorem Tst.lay (t : Tst) : t.d.canLay0 = true ∧ t.d.depth ≤ 2 := by
  cases t with
  | known ns =>
    obtain ⟨h1, h2⟩ := lay_ints ns
    have e := strOk1 (z := "known") (by decide +kernel)
    exact ⟨by simp [Tst.d, PyData.canLay0, PyData.canLayAll0, h1] at e ⊢; exact e, by simp [Tst.d, PyData.depth, PyData.depthAll, h2]⟩
  | any => exact ⟨by decide +kernel, by decide +kernel⟩
  | below n =>
    have e := strOk1 (z := "below") (by decide +kernel)
    exact ⟨by simp [Tst.d, PyData.canLay0, PyData.canLayAll0] at e ⊢; exact e, by simp [Tst.d, PyData.depth, PyData.depthAll]⟩
  | rest m r =>
    have e := strOk1 (z := "rest") (by decide +kernel)
    exact ⟨by simp [Tst.d, PyData.canLay0, PyData.canLayAll0] at e ⊢; exact e, by simp [Tst.d, PyData.depth, PyData.depthAll]⟩
  | chance m r =>
    have e := strOk1 (z := "chance") (by decide +kernel)
    exact ⟨by simp [Tst.d, PyData.canLay0, PyData.canLayAll0] at e ⊢; exact e, by simp [Tst.d, PyData.depth, PyData.depthAll]⟩
theorem Ans.lay (a : Ans) : a.d.canLay0 = true ∧ a.d.depth ≤ 2 := by
  have key : ∀ (z : Str) (n : Int), PyData.canLay0 (.str z) = true → (PyData.tuple [.str z, .int n]).canLay0 = true ∧ (PyData.tuple [.str z, .int n]).depth ≤ 2 := fun z n e =>
    ⟨by simp [PyData.canLay0, PyData.canLayAll0] at e ⊢; exact e, by simp [PyData.depth, PyData.depthAll]⟩
  cases a with
  | num n => exact key _ _ (strOk1 (by decide +kernel))
  | plus n => exact key _ _ (strOk1 (by decide +kernel))
  | times n => exact key _ _ (strOk1 (by decide +kernel))
  | rest n => exact key _ _ (strOk1 (by decide +kernel))
  | none => exact ⟨by decide +kernel, by decide +kernel⟩
theorem mach_lay : ∀ m : Mch, PyData.canLayAll0 (m.map rowD) = true ∧ PyData.depthAll (m.map rowD) ≤ 3
  | [] => ⟨by simp [PyData.canLayAll0], by simp [PyData.depthAll]⟩
  | r :: m => by
    obtain ⟨h1, h2⟩ := mach_lay m
    obtain ⟨a1, a2⟩ := r.1.lay
    obtain ⟨b1, b2⟩ := r.2.lay
    refine ⟨by simp [PyData.canLayAll0, PyData.canLay0, rowD, h1, a1, b1], ?_⟩
    simp only [List.map_cons, PyData.depthAll, rowD, PyData.depth]
    omega
theorem mach_shaped (m : Mch) : SeqAt.shaped (machD m) = true := by
  obtain ⟨h1, h2⟩ := mach_lay m
  show (PyData.canLay0 (.tuple (m.map rowD)) && decide (PyData.depth (.tuple (m.map rowD)) ≤ 64)) = true
  rw [Bool.and_eq_true_iff]
  refine ⟨by simp only [PyData.canLay0]; exact h1, decide_eq_true ?_⟩
  simp only [PyData.depth]
  omega
theorem nol_ints : ∀ ns : List Int, nolA (ns.map .int) = true
  | [] => rfl
  | n :: ns => by
    show (nol (.int n) && nolA (ns.map .int)) = true
    rw [nol_ints ns]
    rfl
theorem Tst.nol (t : Tst) : nol t.d = true := by
  cases t with
  | known ns =>
    show (true && ((nolA (ns.map .int)) && true)) = true
    rw [nol_ints]
    rfl
  | _ => rfl
theorem Ans.nol (a : Ans) : Mh.nol a.d = true := by cases a <;> rfl
theorem row_nol (r : Tst × Ans) : nol (rowD r) = true := by
  show (nol r.1.d && (nol r.2.d && true)) = true
  rw [r.1.nol, r.2.nol]
  rfl
theorem rows_nol : ∀ m : Mch, nolA (m.map rowD) = true
  | [] => rfl
  | r :: m => by
    show (nol (rowD r) && nolA (m.map rowD)) = true
    rw [row_nol, rows_nol m]
    rfl
theorem mach_nol (m : Mch) : nol (machD m) = true := rows_nol m
theorem mach_rows {m : Mch} (h : m.ok) : ∀ d ∈ m.map rowD, rowOk d = true := fun d hd => by
  obtain ⟨r, hr, rfl⟩ := List.mem_map.mp hd
  obtain ⟨h1, h2⟩ := h.rows r hr
  show (isTest r.1.d && isAns r.2.d) = true
  rw [Tst.ok_test h1, Ans.ok_ans h2]
  rfl
/-- need_machine of a good machine -/
theorem need_mach {K : PySem.W.Frag} {H : Hp} {Q : VK} {E : XK} {v : V} {m : Mch} (h : m.ok) (hd : Dp K H v (machD m)) (q : ∀ H', Fx [] H H' → Q .non H') : spNeedMachine K [v] H Q E :=
  ⟨v, m.map rowD, rfl, hd, fun z => h.ne (List.map_eq_nil_iff.mp z), by rw [List.length_map]; exact h.len, mach_rows h, mach_shaped m, q⟩
end Mh
/-! MhMach5a -/
namespace Mh
open PySem PySem.Spec PyProof.Rows L2
def holdsFor : Tst → Int → Int → Bool
  | .any, _, _ => true
  | .below n, q, _ => decide (q < n)
  | .rest m r, q, _ => q % m == r
  | .chance m r, q, s => (7 * q + 13 * s) % m == r
  | .known ns, q, _ => inV (.int q) (ns.map V.int)
def answerBy : Ans → Int → Option Int
  | .num n, _ => some n
  | .plus n, q => some (q + n)
  | .times n, q => some (q * n)
  | .rest m, q => some (q % m)
  | .none, _ => none
def askedM : Mch → Int → Int → Option Int
  | [], _, _ => none
  | r :: m, q, s => if holdsFor r.1 q s then answerBy r.2 q else askedM m q s
def oV : Option Int → V
  | some i => .int i
  | none => .non
def oD : Option Int → PyData
  | some i => .int i
  | none => .none
theorem dp_oV {K : PySem.W.Frag} {H : Hp} (o : Option Int) : Dp K H (oV o) (oD o) := by
  cases o with
  | none => exact .non
  | some i => exact .int i
theorem DpAll.intsI {K : PySem.W.Frag} {H : Hp} : ∀ {ns : List Int} {xs : List V}, DpAll K H xs (ns.map .int) → xs = ns.map V.int
  | [], _, h => by cases h; rfl
  | n :: ns, _, h => by
    cases h with
    | cons h1 h2 =>
      cases h1
      rw [DpAll.intsI h2]
      rfl
theorem all_flat (ns : List Int) : (ns.map V.int).all flatV = true := by
  rw [List.all_map]
  exact List.all_eq_true.mpr fun _ _ => rfl
/-- word = test[0], word == z -/
theorem rd_vS {σ : L2.St} {H : Hp} {Q : VK} {i : Nat} {x z : Str} (hv : σ[i]? = some (some (.str x))) (q : Q (.bl (x == z)) H) : tOp rEq (tVar i) (tC (.str z)) σ H Q := ⟨_, hv, rd_eqS (σ := σ) q⟩
theorem sTT {x z : Str} (h : x = z) : (x == z) = true := by rw [h]; exact beq_self_eq_true _
theorem DpAll.drop {K : PySem.W.Frag} {H : Hp} : ∀ {vs : List V} {ds : List PyData} (n : Nat), DpAll K H vs ds → DpAll K H (vs.drop n) (ds.drop n)
  | _, _, 0, h => h
  | _, _, _ + 1, .nil => .nil
  | _, _, n + 1, .cons _ t => DpAll.drop n t
end Mh
/-! MhDice -/
namespace Mh
open PySem PySem.Spec PyProof.Rows L2
/-! ### dice: what the law draws from -/
structure Dice where
  a : Int
  b : Int
  r : List Int
def Dice.l (s : Dice) : List V := .int s.a :: .int s.b :: s.r.map V.int
def Dice.pre (s : Dice) : Dice := match s.r with
  | x :: r => if s.b = 0 then ⟨s.a, x, r⟩ else s
  | [] => s
def Dice.nxt (s : Dice) : Int := (s.a * 48271 + 11) % 2147483647
def off (s : Dice) (n : Int) : Int × Dice := if 0 < s.pre.b then (s.pre.b % n, ⟨s.pre.a, s.pre.b / n, s.pre.r⟩) else (s.pre.nxt / 64 % n, ⟨s.pre.nxt, s.pre.b, s.pre.r⟩)
structure Dice.ok (s : Dice) : Prop where
  a0 : 0 ≤ s.a
  a1 : s.a < 2147483647
  len : s.r.length ≤ 63
theorem Dice.pre_ok {s : Dice} (h : s.ok) : s.pre.ok := by
  obtain ⟨a, b, r⟩ := s
  cases r with
  | nil => exact h
  | cons x r =>
    show (if b = 0 then (⟨a, x, r⟩ : Dice) else ⟨a, b, x :: r⟩).ok
    split
    · exact ⟨h.a0, h.a1, by have := h.len; simp at this; show r.length ≤ 63; omega⟩
    · exact h
theorem off_ok {s : Dice} (h : s.ok) (n : Int) : (off s n).2.ok := by
  have p := Dice.pre_ok h
  unfold off
  split
  · exact ⟨p.a0, p.a1, p.len⟩
  · exact ⟨Int.emod_nonneg _ (by decide), Int.emod_lt_of_pos _ (by decide), p.len⟩
theorem off_range (s : Dice) {n : Int} (hn : 0 < n) : 0 ≤ (off s n).1 ∧ (off s n).1 < n := by
  unfold off
  split
  · exact ⟨Int.emod_nonneg _ (by omega), Int.emod_lt_of_pos _ hn⟩
  · exact ⟨Int.emod_nonneg _ (by omega), Int.emod_lt_of_pos _ hn⟩
theorem upd_self {H : Hp} {a : Addr} {o : HO} (h : H a = some o) : upd H a o = H := by
  funext b
  unfold upd
  split
  · rename_i e
    rw [e, h]
  · rfl
/-- an item of a list of one's own at a written place -/
theorem rd_ixL {K : PySem.W.Frag} {σ : L2.St} {H : Hp} {Q : VK} {i j : Nat} {a : Addr} {xs : List V} {v : V} (hv : σ[i]? = some (some (.ref a))) (hs : SqL K H a xs) (hj : xs[j]? = some v) (q : Q v H) : tOp (rIxL K) (tVar i) (tC (.int (j : Int))) σ H Q :=
  ⟨_, hv, a, xs, (j : Int), v, rfl, rfl, hs, atI_nat hj, q⟩
/-- xs[j] = v -/
theorem rd_setL {σ : L2.St} {H : Hp} {Q : L2.St → Hp → Prop} {i j : Nat} {a : Addr} {xs : List V} {v : V} (hv : σ[i]? = some (some (.ref a))) (hs : H a = some (.lst xs)) (hj : j < xs.length) (q : Q σ (upd H a (.lst (xs.set j v)))) : gSub (tVar i) (tC (.int (j : Int))) L2.rSetL v σ H Q :=
  ⟨_, hv, a, xs, (j : Int), j, rfl, rfl, hs, (by
    have h2 : (j : Int) < (xs.length : Int) := by omega
    have h1 : (0 : Int) ≤ (j : Int) := by omega
    show (if 0 ≤ (j : Int) then (if (j : Int) < (xs.length : Int) then some (j : Int).toNat else none) else _) = some j
    rw [if_pos h1, if_pos h2]
    rfl), q⟩
theorem sc_l_off : FnScope ["_law_d", "_law_upto", "_law_found"] ["_law_d", "_law_upto"] (defScope s_l_off) := ⟨rfl, rfl, rfl, by decide +kernel, rfl, by decide +kernel, by decide +kernel⟩
def spOff (_K : PySem.W.Frag) : Sp := fun vs H Q _ => ∃ dd s n, vs = [.ref dd, .int n] ∧ H dd = some (.lst (Dice.l s)) ∧ s.ok ∧ 0 < n ∧ n < 1073741824 ∧ Q (.int (off s n).1) (upd H dd (.lst (off s n).2.l))
theorem dice_len (s : Dice) : s.l.length = s.r.length + 2 := by simp [Dice.l]
theorem ok_l_off {P : Program} {w : World} {K : PySem.W.Frag} {mg : Str → Option Value} {base : Heap} (T : Tx K mg) : Def P w K mg base CX0 1 "_law_off" ["_law_d", "_law_upto"] (spOff K) := by
  obtain ⟨fd, F⟩ := T.d_l_off
  refine ⟨_, fd, F.ok sc_l_off (fun vs H Q E h => ?_) (fun cdv A outer s H vs Q E hr h => ?_), F.bindsN fun _ _ _ _ _ _ us hl => match us, hl with | [_, _], _ => rfl, T.g_l_off, F.kp⟩
  · obtain ⟨d, s, n, rfl, _⟩ := h
    rfl
  · obtain ⟨dd, s, n, rfl, hd, hs, hn, hn2, q⟩ := h
    refine ⟨_, PSs.nox (Evl.pss_cut (ps_if (PW.pt (pw_and (pt_cmpR op_eq (pe_ix ix_list (pv 0) pe_int (fun _ _ => rfl)) pe_int (nomark _)) (pw_and1 (pt_cmpR op_gt (pe_callB call_len_seq (by rfl) T.f_len (by decide +kernel) (pa_cons (pv 0) pa_nil)) pe_int (nomark _)))))
        (pss_one (ps_asg (pe_bm PySem.F.plainAttrs_list PySem.F.slot_list_pop PySem.F.type_list_pop mt_popAt (pv 0) (pa_cons pe_int pa_nil)) (pg_sub (pv 0) pe_int set_list)))
        pss_nil)
        (pss_cons (ps_if (pt_cmpR op_gt (pe_ix ix_list (pv 0) pe_int (fun _ _ => rfl)) pe_int (nomark _))
        (pss_cons (ps_set (i := 2) sc_l_off.nd rfl (by first | exact Or.inl rfl | exact Or.inr rfl) (pe_op op_mod (pe_ix ix_list (pv 0) pe_int (fun _ _ => rfl)) (pv 1)))
        (pss_cons (ps_asg (pe_op op_fdiv (pe_ix ix_list (pv 0) pe_int (fun _ _ => rfl)) (pv 1)) (pg_sub (pv 0) pe_int set_list))
        (pss_one (ps_ret (pv 2)))))
        pss_nil)
        (pss_cons (ps_asg (pe_op op_mod (pe_op op_add (pe_op op_mul (pe_ix ix_list (pv 0) pe_int (fun _ _ => rfl)) pe_int) pe_int) pe_int) (pg_sub (pv 0) pe_int set_list))
        (pss_one (ps_ret (pe_op op_mod (pe_op op_fdiv (pe_ix ix_list (pv 0) pe_int (fun _ _ => rfl)) pe_int) (pv 1))))))), ?_⟩
    refine ⟨fun σ' H' => σ' = [some (.ref dd), some (.int n), none] ∧ H' = upd H dd (.lst s.pre.l), ?_, fun σ' H' hM => ?_⟩
    · refine rd_ixL (j := 1) rfl (SqL.of hd) rfl (rd_eqI ⟨_, rfl, ifB (fun c => ?_) (fun c => ?_)⟩)
      · have c' : s.b = 0 := by simpa using c
        refine ⟨_, rfl, dd, _, rfl, .inl (SqL.of hd), _, _, rfl, rfl, _, rfl, ifB (fun c2 => ?_) (fun c2 => ?_)⟩
        · have c2' : (2 : Int) < (s.l.length : Int) := of_decide_eq_true c2
          rw [dice_len] at c2'
          obtain ⟨a, b, r⟩ := s
          cases r with
          | nil => simp at c2'
          | cons x r =>
            have c' : b = 0 := c'
            subst c'
            refine ⟨_, rfl, .inl ⟨rfl, _, SqL.of hd⟩, dd, _, 2, 2, .int x, rfl, rfl, hd, by decide, by decide, ?_, rfl, ?_⟩
            · show seqIndex? 2 (List.length _) = some 2
              rw [show (Dice.l ⟨a, 0, x :: r⟩).length = r.length + 3 by simp [Dice.l]]
              obtain ⟨e, _⟩ := ixN_seq (n := r.length + 3) (i := 2) (j := 2) (by
                unfold ixN
                rw [if_pos (by decide), if_pos (by omega)]
                rfl)
              exact e
            · refine rd_setL (j := 1) rfl upd_same (by simp [Dice.l]) ⟨rfl, ?_⟩
              rw [upd_upd]
              rfl
        · have c2' : ¬ (2 : Int) < (s.l.length : Int) := of_decide_eq_false c2
          rw [dice_len] at c2'
          obtain ⟨a, b, r⟩ := s
          cases r with
          | nil => exact ⟨rfl, (upd_self hd).symm⟩
          | cons x r => exact absurd (show (2 : Int) < ((x :: r).length + 2 : Nat) by simp; omega) c2'
      · have c' : s.b ≠ 0 := by simpa using c
        refine ⟨rfl, ?_⟩
        have e : s.pre = s := by
          obtain ⟨a, b, r⟩ := s
          cases r with
          | nil => rfl
          | cons x r => exact if_neg c'
        rw [e, upd_self hd]
    · obtain ⟨rfl, rfl⟩ := hM
      have hp : upd H dd (.lst s.pre.l) dd = some (.lst s.pre.l) := upd_same
      have hpo := Dice.pre_ok hs
      refine rd_ixL (j := 1) rfl (SqL.of hp) rfl ⟨_, _, rfl, rfl, _, rfl, ifB (fun c => ?_) (fun c => ?_)⟩
      · have c' : 0 < s.pre.b := of_decide_eq_true c
        have e : off s n = (s.pre.b % n, ⟨s.pre.a, s.pre.b / n, s.pre.r⟩) := if_pos c'
        refine rd_ixL (j := 1) rfl (SqL.of hp) rfl ⟨_, rfl, _, _, rfl, rfl, hn, ?_⟩
        refine rd_ixL (j := 1) rfl (SqL.of hp) rfl ⟨_, rfl, _, _, rfl, rfl, ⟨hn, hn2⟩, ?_⟩
        refine rd_setL (j := 1) rfl hp (by rw [dice_len]; omega) ⟨_, rfl, ?_⟩
        rw [upd_upd]
        rw [e] at q
        exact q
      · have c' : ¬ 0 < s.pre.b := of_decide_eq_false c
        have e : off s n = (s.pre.nxt / 64 % n, ⟨s.pre.nxt, s.pre.b, s.pre.r⟩) := if_neg c'
        refine rd_ixL (j := 0) rfl (SqL.of hp) rfl ⟨_, _, rfl, rfl, .inr (by decide), _, _, rfl, rfl, _, _, rfl, rfl, (show (0 : Int) < 2147483647 by decide), ?_⟩
        refine rd_setL (j := 0) rfl hp (by rw [dice_len]; omega) ?_
        refine rd_ixL (j := 0) rfl (SqL.of upd_same) rfl ⟨_, _, rfl, rfl, ⟨by decide, by decide⟩, _, rfl, _, _, rfl, rfl, hn, ?_⟩
        rw [upd_upd]
        rw [e] at q
        exact q

/-- the dice of a script -/
def diceFold (k : Int) (ns : List Int) : Int := ns.foldl (fun f c => (f * 31 + (if c < 0 then -c else c)) % 2147483647) k
def diceOf (k : Int) (ns : List Int) : Dice := ⟨diceFold k ns, 0, ns.filter fun c => decide ((10 : Int) ^ 18 ≤ c)⟩
theorem diceFold_range {k : Int} (hk : 0 ≤ k ∧ k < 2147483647) : ∀ ns : List Int, 0 ≤ diceFold k ns ∧ diceFold k ns < 2147483647 := fun ns => by
  unfold diceFold
  induction ns generalizing k with
  | nil => exact hk
  | cons c ns ih => exact ih ⟨Int.emod_nonneg _ (by decide), Int.emod_lt_of_pos _ (by decide)⟩
theorem diceOf_ok {k : Int} (hk : 0 ≤ k ∧ k < 2147483647) {ns : List Int} (hl : ns.length ≤ 63) : (diceOf k ns).ok :=
  ⟨(diceFold_range hk ns).1, (diceFold_range hk ns).2, Nat.le_trans (List.length_filter_le _ _) hl⟩
theorem diceFold_take {k : Int} {ns : List Int} {i : Nat} {x : Int} (h : ns[i]? = some x) : diceFold k (ns.take (i + 1)) = (diceFold k (ns.take i) * 31 + (if x < 0 then -x else x)) % 2147483647 := by
  unfold diceFold
  rw [List.take_add_one, h, List.foldl_append]
  rfl
theorem sc_l_dice : FnScope ["_law_script", "_law_k", "_law_found", "_law_cell"] ["_law_script", "_law_k"] (defScope s_l_dice) := ⟨rfl, rfl, rfl, by decide +kernel, rfl, by decide +kernel, by decide +kernel⟩
def spDice (K : PySem.W.Frag) : Sp := fun vs H Q _ => ∃ a ns k, vs = [.ref a, .int k] ∧ SqL K H a (ns.map V.int) ∧ ns.length ≤ 63 ∧ (0 ≤ k ∧ k < 2147483647) ∧ ∀ H' p, Fx [] H H' → H p = none → H' p = some (.lst (diceOf k ns).l) → Q (.ref p) H'
theorem ok_l_dice {P : Program} {w : World} {K : PySem.W.Frag} {mg : Str → Option Value} {base : Heap} (T : Tx K mg) : Def P w K mg base CX0 1 "_law_dice" ["_law_script", "_law_k"] (spDice K) := by
  obtain ⟨fd, F⟩ := T.d_l_dice
  refine ⟨_, fd, F.ok sc_l_dice (fun vs H Q E h => ?_) (fun cdv A outer s H vs Q E hr h => ?_), F.bindsN fun _ _ _ _ _ _ us hl => match us, hl with | [_, _], _ => rfl, T.g_l_dice, F.kp⟩
  · obtain ⟨a, ns, k, rfl, _⟩ := h
    rfl
  · obtain ⟨a, ns, k, rfl, hS, hlen, hk, q⟩ := h
    refine ⟨_, PSs.nox (pss_cons (ps_set (i := 2) sc_l_dice.nd rfl (by first | exact Or.inl rfl | exact Or.inr rfl) (pv 1))
        (pss_cons (ps_for PassesOwn.never rfl (pi_list (pv 0)) (pg_name (i := 3) sc_l_dice.nd rfl (by first | exact Or.inl rfl | exact Or.inr rfl))
        (pss_one (ps_set (i := 2) sc_l_dice.nd rfl (by first | exact Or.inl rfl | exact Or.inr rfl) (pe_op op_mod (pe_op op_add (pe_op op_mul (pv 2) pe_int) (pe_callB call_abs (by rfl) T.f_abs (by decide +kernel) (pa_cons (pv 3) pa_nil))) pe_int))))
        (pss_one (ps_ret (pe_op op_cat (pe_lst (pa_cons (pv 2) (pa_cons pe_int pa_nil))) (pe_lc (own := [("_law_cell", 3)]) (g := (gName 3)) (tt := _) rfl sc_l_dice.nd (pi_list (pv 0)) (blkOk_by (own := [("_law_cell", 3)]) (N := ["_law_script", "_law_k", "_law_found", "_law_cell"]) (sc := defScope s_l_dice) (by decide +kernel)) (fun _ _ _ _ _ => pg_name (i := 3) sc_l_dice.nd rfl (by first | exact Or.inl rfl | exact Or.inr rfl)) (fun _ _ _ _ _ => pts_one (pt_cmpR op_ge (pv 3) (pe_op op_pow pe_int pe_int) (nomark _))) (fun _ _ _ _ _ => (pv 3)))))))), ?_⟩
    refine ⟨_, rfl, _, rfl, a, rfl, ⟨_, hS⟩, for_it (walk_list (xs := ns.map V.int)) (fun i σ' H' => ∃ y3, σ' = [some (.ref a), some (.int k), some (.int (diceFold k (ns.take i))), y3] ∧ H' = H) ⟨none, rfl, rfl⟩ (fun i σ' H' _ ⟨_, _, e⟩ => by rw [e]; exact hS) (fun i x σ' H2 H3 hi hP y => ?_) (fun σ' H' hP => ?_)⟩
    · obtain ⟨y3, rfl, rfl⟩ := hP
      obtain ⟨rfl, hx⟩ := y
      rw [List.getElem?_map] at hx
      obtain ⟨c, hc, rfl⟩ := Option.map_eq_some_iff.mp hx
      have hr := diceFold_range hk (ns.take i)
      refine ⟨_, rfl, _, _, rfl, rfl, .inl ⟨by omega, by omega⟩, _, rfl, _, rfl, _, _, rfl, rfl, _, _, rfl, rfl, (show (0 : Int) < 2147483647 by decide), ?_⟩
      exact ⟨_, by rw [diceFold_take hc]; rfl, rfl⟩
    · obtain ⟨y3, rfl, rfl⟩ := hP
      rw [List.length_map, List.take_length]
      refine ⟨_, rfl, by show 2 ≤ sizeLine; decide, fun p hp => ?_⟩
      have f1 : Fx [] H' (upd H' p (.lst [.int (diceFold k ns), .int 0])) := Fx.new hp
      refine ⟨_, rfl, a, rfl, ⟨_, f1.sqL hS fun m => nomatch m⟩, fun D hD => lc_rel (walk_list (xs := ns.map V.int)) (fun i acc H2 => Fx [] (upd H' p (.lst [.int (diceFold k ns), .int 0])) H2 ∧ acc = ((ns.take i).filter fun c => decide ((10 : Int) ^ 18 ≤ c)).map V.int) ⟨Fx.new hD, rfl⟩ (fun i acc H2 r => r.1.sqL (f1.sqL hS fun m => nomatch m) fun m => nomatch m) (fun i acc x H2 H3 hi hl hDa r y => ?_) (fun acc H2 hl hDa r => ?_)⟩
      · obtain ⟨rfl, hx⟩ := y
        rw [List.getElem?_map] at hx
        obtain ⟨c, hc, rfl⟩ := Option.map_eq_some_iff.mp hx
        obtain ⟨f2, rfl⟩ := r
        refine ⟨rfl, _, rfl, _, _, rfl, rfl, ⟨by decide, by decide, by decide⟩, _, _, rfl, rfl, _, rfl, ifB (fun c2 => ?_) (fun c2 => ?_)⟩
        · refine ⟨_, rfl, Put.ok hl (by rw [List.length_map] at hi; omega) hDa ⟨f2.loc hD (Chg.lst hDa), ?_⟩⟩
          have c3 : decide ((10 : Int) ^ 18 ≤ c) = true := c2
          have e : [c].filter (fun c => decide ((10 : Int) ^ 18 ≤ c)) = [c] := List.filter_cons_of_pos (p := fun c => decide ((10 : Int) ^ 18 ≤ c)) (l := []) c3
          rw [List.take_add_one, hc, List.filter_append, List.map_append, show (some c).toList = [c] from rfl, e]
          rfl
        · refine Pvl.skip hl hDa ⟨f2, ?_⟩
          have c3 : ¬ decide ((10 : Int) ^ 18 ≤ c) = true := by
            have : decide ((10 : Int) ^ 18 ≤ c) = false := c2
            rw [this]
            decide
          have e : [c].filter (fun c => decide ((10 : Int) ^ 18 ≤ c)) = [] := List.filter_cons_of_neg (p := fun c => decide ((10 : Int) ^ 18 ≤ c)) (l := []) c3
          rw [List.take_add_one, hc, List.filter_append, show (some c).toList = [c] from rfl, e, List.append_nil]
      · obtain ⟨f2, rfl⟩ := r
        have hp2 := f2.to (upd_same (H := H') (a := p) (o := .lst [.int (diceFold k ns), .int 0])) fun m => nomatch m
        rw [List.length_map, List.take_length] at hDa
        refine ⟨p, D, _, _, rfl, rfl, hp2, hDa, ?_, fun l hl2 => ?_⟩
        · have := List.length_filter_le (fun c => decide ((10 : Int) ^ 18 ≤ c)) ns
          rw [List.length_map]
          refine sz2 ?_
          show 2 + _ ≤ 1000
          omega
        · have f3 := (f1.trans f2).trans (Fx.new (M := []) (o := HO.lst ([V.int (diceFold k ns), V.int 0] ++ ((ns.filter fun c => decide ((10 : Int) ^ 18 ≤ c)).map V.int))) hl2)
          exact q _ l f3 ((f1.trans f2).free hl2) upd_same
end Mh
/-! MhGen -/
namespace Mh
open PySem PySem.Spec PyProof.Rows L2
/-- since H0 the dice at dd alone changed; they stand at s -/
structure Dc (dd : Addr) (H0 H : Hp) (s : Dice) : Prop where
  f : Fx [dd] H0 H
  h : H dd = some (.lst s.l)
  ok : s.ok
section
variable {K : PySem.W.Frag} {dd : Addr} {H0 H H' : Hp} {s : Dice} {σ : L2.St} {Q : VK} {i : Nat}
theorem Dc.mv (D : Dc dd H0 H s) (f : Fx [] H H') : Dc dd H0 H' s := ⟨D.f.trans f.nil, f.to D.h (fun m => nomatch m), D.ok⟩
theorem Dc.new {p : Addr} {o : HO} (D : Dc dd H0 H s) (h : H p = none) : Dc dd H0 (upd H p o) s := D.mv (Fx.new h)
theorem Dc.ne {p : Addr} (D : Dc dd H0 H s) (h : H p = none) : p ≠ dd := (ne_of_none D.h h).symm
theorem Dc.go {s' : Dice} (D : Dc dd H0 H s) (E : Dc dd H H' s') : Dc dd H0 H' s' := ⟨D.f.trans E.f, E.h, E.ok⟩
/-- an object of one's own, new since H0, changed -/
theorem Dc.set {p : Addr} {o : HO} (D : Dc dd H0 H s) (h : H0 p = none) (hn : p ≠ dd) (c : Chg H p) : Dc dd H0 (upd H p o) s := ⟨D.f.loc h c, by rw [upd_ne (Ne.symm hn)]; exact D.h, D.ok⟩
theorem rd_off {n : Int} (hv : σ[i]? = some (some (.ref dd))) (D : Dc dd H0 H s) (hn : 0 < n ∧ n < 1073741824) (q : ∀ H', Dc dd H0 H' (off s n).2 → Fx [dd] H H' → Q (.int (off s n).1) H') :
    tCall (spOff K) [] E0 (tCons (tVar i) (tCons (tC (.int n)) tNil)) σ H Q := by
  refine ⟨.ref dd, hv, dd, s, n, rfl, D.h, D.ok, hn.1, hn.2, ?_⟩
  have f : Fx [dd] H (upd H dd (.lst (off s n).2.l)) := Fx.set List.mem_cons_self (Chg.lst D.h)
  exact q _ ⟨D.f.trans f, upd_same, off_ok D.ok n⟩ f
/-- of two the k-th -/
theorem rd_at2 {p : Addr} {x y : V} {k : Int} (h : H p = some (.lst [x, y])) (hk : 0 ≤ k ∧ k < 2) (q : Q (if k = 0 then x else y) H) : rIxL K (.ref p) (.int k) H Q := by
  rcases (show k = 0 ∨ k = 1 by omega) with rfl | rfl
  · exact ⟨p, _, 0, x, rfl, rfl, SqL.of h, atI_nat (j := 0) rfl, q⟩
  · exact ⟨p, _, 1, y, rfl, rfl, SqL.of h, atI_nat (j := 1) rfl, q⟩
end
/-- a turn of a state again and again -/
def drawN {α : Type} (f : Dice → α × Dice) : Nat → Dice → List α × Dice
  | 0, s => ([], s)
  | n + 1, s => ((drawN f n s).1 ++ [(f (drawN f n s).2).1], (f (drawN f n s).2).2)
theorem drawN_len {α : Type} (f : Dice → α × Dice) : ∀ (n : Nat) (s : Dice), (drawN f n s).1.length = n
  | 0, _ => rfl
  | n + 1, s => by
    show ((drawN f n s).1 ++ [_]).length = n + 1
    rw [List.length_append, drawN_len f n s]
    rfl
theorem drawN_ok {α : Type} {f : Dice → α × Dice} (h : ∀ s, s.ok → (f s).2.ok) : ∀ (n : Nat) {s : Dice}, s.ok → (drawN f n s).2.ok
  | 0, _, o => o
  | n + 1, _, o => h _ (drawN_ok h n o)
theorem drawN_all {α : Type} {f : Dice → α × Dice} {P : α → Prop} (hf : ∀ s, s.ok → (f s).2.ok) (h : ∀ s, s.ok → P (f s).1) : ∀ (n : Nat) {s : Dice}, s.ok → ∀ x ∈ (drawN f n s).1, P x
  | 0, _, _, x, m => nomatch m
  | n + 1, s, o, x, m => by
    rcases List.mem_append.mp (show x ∈ (drawN f n s).1 ++ [_] from m) with m | m
    · exact drawN_all hf h n o x m
    · rw [List.mem_singleton.mp m]
      exact h _ (drawN_ok hf n o)
/-! ### the members of a list, rising -/
def insS (x : Int) : List Int → List Int
  | [] => [x]
  | y :: r => if x < y then x :: y :: r else if x = y then y :: r else y :: insS x r
def sset (xs : List Int) : List Int := xs.foldr insS []
theorem mem_insS (x k : Int) : ∀ l : List Int, k ∈ insS x l ↔ k = x ∨ k ∈ l
  | [] => by simp [insS]
  | y :: r => by
    unfold insS
    split
    · simp
    · split
      · rename_i e
        subst e
        simp
      · rw [List.mem_cons, mem_insS x k r, List.mem_cons]
        constructor
        · rintro (h | h | h) <;> simp [h]
        · rintro (h | h | h) <;> simp [h]
theorem insS_up (x : Int) : ∀ {l : List Int}, l.Pairwise (· < ·) → (insS x l).Pairwise (· < ·)
  | [], _ => by simp [insS]
  | y :: r, h => by
    obtain ⟨h1, h2⟩ := List.pairwise_cons.mp h
    unfold insS
    split
    · rename_i c
      refine List.pairwise_cons.mpr ⟨fun z hz => ?_, h⟩
      rcases List.mem_cons.mp hz with e | e
      · omega
      · have := h1 z e
        omega
    · split
      · exact h
      · refine List.pairwise_cons.mpr ⟨fun z hz => ?_, insS_up x h2⟩
        rcases (mem_insS x z r).mp hz with e | e
        · omega
        · exact h1 z e
theorem mem_sset (k : Int) : ∀ l : List Int, k ∈ sset l ↔ k ∈ l
  | [] => by simp [sset]
  | y :: r => by
    show k ∈ insS y (sset r) ↔ _
    rw [mem_insS, mem_sset k r, List.mem_cons]
theorem sset_up : ∀ l : List Int, (sset l).Pairwise (· < ·)
  | [] => .nil
  | y :: r => insS_up y (sset_up r)
theorem up_unique : ∀ {a b : List Int}, a.Pairwise (· < ·) → b.Pairwise (· < ·) → (∀ k, k ∈ a ↔ k ∈ b) → a = b
  | [], [], _, _, _ => rfl
  | [], y :: r, _, _, h => absurd ((h y).mpr List.mem_cons_self) (by simp)
  | x :: r, [], _, _, h => absurd ((h x).mp List.mem_cons_self) (by simp)
  | x :: a, y :: b, h1, h2, h => by
    obtain ⟨p1, p2⟩ := List.pairwise_cons.mp h1
    obtain ⟨q1, q2⟩ := List.pairwise_cons.mp h2
    have e : x = y := by
      rcases List.mem_cons.mp ((h x).mp List.mem_cons_self) with e | e
      · exact e
      · rcases List.mem_cons.mp ((h y).mpr List.mem_cons_self) with e2 | e2
        · exact e2.symm
        · have := q1 x e
          have := p1 y e2
          omega
    subst e
    refine congrArg _ (up_unique p2 q2 fun k => ?_)
    constructor
    · intro m
      rcases List.mem_cons.mp ((h k).mp (List.mem_cons_of_mem _ m)) with e | e
      · have := p1 k m
        omega
      · exact e
    · intro m
      rcases List.mem_cons.mp ((h k).mpr (List.mem_cons_of_mem _ m)) with e | e
      · have := q1 k m
        omega
      · exact e
theorem rising_of : ∀ {l : List Int}, l.Pairwise (· < ·) → rising l = true
  | [], _ => rfl
  | [_], _ => rfl
  | x :: y :: r, h => by
    obtain ⟨h1, h2⟩ := List.pairwise_cons.mp h
    show (decide (x < y) && rising (y :: r)) = true
    rw [rising_of h2, decide_eq_true (h1 y List.mem_cons_self)]
    rfl
theorem insS_len (x : Int) : ∀ l : List Int, (insS x l).length ≤ l.length + 1 ∧ 1 ≤ (insS x l).length
  | [] => ⟨Nat.le_refl _, Nat.le_refl _⟩
  | y :: r => by
    unfold insS
    split
    · simp
    · split
      · simp
      · have := insS_len x r
        simp
        omega
theorem sset_len : ∀ l : List Int, (sset l).length ≤ l.length ∧ (l ≠ [] → 1 ≤ (sset l).length)
  | [] => ⟨Nat.le_refl _, fun h => absurd rfl h⟩
  | y :: r => by
    have h1 := insS_len y (sset r)
    have h2 := sset_len r
    exact ⟨by show (insS y (sset r)).length ≤ _; simp; omega, fun _ => h1.2⟩
/-! ### a drawn test, answer, machine -/
def pick2 (s : Dice) (a b : Int) : Int × Dice := (if (off (off (off s a).2 b).2 2).1 = 0 then (off s a).1 else (off (off s a).2 b).1, (off (off (off s a).2 b).2 2).2)
/-- off(d, [a, b][off(d, 2)]) -/
def offOf (s : Dice) (a b : Int) : Int × Dice := off (off s 2).2 (if (off s 2).1 = 0 then a else b)
def gTest (s : Dice) : Tst × Dice :=
  if (off s 6).1 = 0 then (.below (pick2 (off s 6).2 12 10000).1, (pick2 (off s 6).2 12 10000).2)
  else if (off s 6).1 < 3 then
    (if (off s 6).1 = 1 then .rest (2 + (offOf (off s 6).2 3 98).1) (off (offOf (off s 6).2 3 98).2 (2 + (offOf (off s 6).2 3 98).1)).1 else .chance (2 + (offOf (off s 6).2 3 98).1) (off (offOf (off s 6).2 3 98).2 (2 + (offOf (off s 6).2 3 98).1)).1,
      (off (offOf (off s 6).2 3 98).2 (2 + (offOf (off s 6).2 3 98).1)).2)
  else if (off s 6).1 = 3 then
    (.known (sset (drawN (fun s => off s 12) (1 + (off (off s 6).2 8).1).toNat (off (off s 6).2 8).2).1), (drawN (fun s => off s 12) (1 + (off (off s 6).2 8).1).toNat (off (off s 6).2 8).2).2)
  else (if (off s 6).1 = 4 then .any else .chance 2 (off (off s 6).2 2).1, (off (off s 6).2 2).2)
theorem pick2_ok {s : Dice} (h : s.ok) (a b : Int) : (pick2 s a b).2.ok := off_ok (off_ok (off_ok h a) b) 2
theorem offOf_ok {s : Dice} (h : s.ok) (a b : Int) : (offOf s a b).2.ok := off_ok (off_ok h 2) _
theorem offOf_range (s : Dice) {a b : Int} (ha : 0 < a) (hb : 0 < b) : 0 ≤ (offOf s a b).1 ∧ ((offOf s a b).1 < a ∨ (offOf s a b).1 < b) := by
  unfold offOf
  split
  · have := off_range (off s 2).2 ha
    omega
  · have := off_range (off s 2).2 hb
    omega
theorem pick2_range (s : Dice) {a b : Int} (ha : 0 < a) (hb : 0 < b) : 0 ≤ (pick2 s a b).1 ∧ ((pick2 s a b).1 < a ∨ (pick2 s a b).1 < b) := by
  have h1 := off_range s ha
  have h2 := off_range (off s a).2 hb
  show 0 ≤ (if (off (off (off s a).2 b).2 2).1 = 0 then (off s a).1 else (off (off s a).2 b).1) ∧ _
  unfold pick2
  dsimp only
  split <;> omega
theorem gTest_dice {s : Dice} (h : s.ok) : (gTest s).2.ok := by
  unfold gTest
  split
  · exact pick2_ok (off_ok h 6) _ _
  · split
    · exact off_ok (offOf_ok (off_ok h 6) _ _) _
    · split
      · exact drawN_ok (fun s o => off_ok o 12) _ (off_ok (off_ok h 6) 8)
      · exact off_ok (off_ok h 6) 2
theorem gTest_ok {s : Dice} (h : s.ok) : (gTest s).1.ok := by
  have r6 := off_range s (n := 6) (by decide)
  unfold gTest
  split
  · have := pick2_range (off s 6).2 (a := 12) (b := 10000) (by decide) (by decide)
    show _ ∧ _
    omega
  · split
    · have r := offOf_range (off s 6).2 (a := 3) (b := 98) (by decide) (by decide)
      have r2 := off_range (offOf (off s 6).2 3 98).2 (n := 2 + (offOf (off s 6).2 3 98).1) (by omega)
      dsimp only
      split
      · exact ⟨by omega, by omega, r2.1, r2.2⟩
      · exact ⟨by omega, by omega, r2.1, r2.2⟩
    · split
      · have r := off_range (off s 6).2 (n := 8) (by decide)
        have l := drawN_len (fun s => off s 12) (1 + (off (off s 6).2 8).1).toNat (off (off s 6).2 8).2
        have sl := sset_len (drawN (fun s => off s 12) (1 + (off (off s 6).2 8).1).toNat (off (off s 6).2 8).2).1
        refine ⟨sl.2 fun z => ?_, by omega, fun k hk => ?_, rising_of (sset_up _)⟩
        · rw [z] at l
          have : (0 : Nat) = (1 + (off (off s 6).2 8).1).toNat := l
          omega
        · have a := drawN_all (P := fun x => 0 ≤ x ∧ x < 12) (f := fun s => off s 12) (fun s o => off_ok o 12) (fun s _ => off_range s (by decide)) _ (off_ok (off_ok h 6) 8) k ((mem_sset k _).mp hk)
          omega
      · dsimp only
        split
        · trivial
        · have r2 := off_range (off s 6).2 (n := 2) (by decide)
          exact ⟨by decide, by decide, r2.1, r2.2⟩
end Mh
/-! MhGenB -/
namespace Mh
open PySem PySem.Spec PyProof.Rows L2
section
variable {K : PySem.W.Frag} {dd : Addr} {H0 H H' : Hp} {s : Dice} {σ : L2.St} {Q : VK} {E : XK} {i : Nat}
theorem off_sp {n : Int} (D : Dc dd H0 H s) (hn : 0 < n ∧ n < 1073741824) (q : ∀ H', Dc dd H0 H' (off s n).2 → Fx [dd] H H' → Q (.int (off s n).1) H') : spOff K [.ref dd, .int n] H Q E := by
  refine ⟨dd, s, n, rfl, D.h, D.ok, hn.1, hn.2, ?_⟩
  have f : Fx [dd] H (upd H dd (.lst (off s n).2.l)) := Fx.set List.mem_cons_self (Chg.lst D.h)
  exact q _ ⟨D.f.trans f, upd_same, off_ok D.ok n⟩ f
theorem rd_offV {n : Int} {j : Nat} (hv : σ[i]? = some (some (.ref dd))) (hw : σ[j]? = some (some (.int n))) (D : Dc dd H0 H s) (hn : 0 < n ∧ n < 1073741824) (q : ∀ H', Dc dd H0 H' (off s n).2 → Fx [dd] H H' → Q (.int (off s n).1) H') :
    tCall (spOff K) [] E0 (tCons (tVar i) (tCons (tVar j) tNil)) σ H Q := ⟨.ref dd, hv, .int n, hw, off_sp (K := K) (E := E0) D hn q⟩
theorem rd_yes {A B : Hp → Prop} (h : A H) : tYes σ H fun b H3 => if b = true then A H3 else B H3 := by
  show if true = true then A H else B H
  rw [if_pos rfl]
  exact h
theorem rd_at2I {p : Addr} {a b : Int} {k : Int} (h : H p = some (.lst [.int a, .int b])) (hk : 0 ≤ k ∧ k < 2) (q : Q (.int (if k = 0 then a else b)) H) : rIxL K (.ref p) (.int k) H Q := by
  refine rd_at2 h hk ?_
  split
  · rename_i e
    rw [if_pos e] at q
    exact q
  · rename_i e
    rw [if_neg e] at q
    exact q
/-- [off(d, a), off(d, b)][off(d, 2)] -/
theorem rd_pick2 {a b : Int} (hv : σ[i]? = some (some (.ref dd))) (D : Dc dd H0 H s) (ha : 0 < a ∧ a < 1073741824) (hb : 0 < b ∧ b < 1073741824) (q : ∀ H', Dc dd H0 H' (pick2 s a b).2 → Fx [dd] H H' → Q (.int (pick2 s a b).1) H') :
    tOp (rIxL K) (tLst (tCons (tCall (spOff K) [] E0 (tCons (tVar i) (tCons (tC (.int a)) tNil))) (tCons (tCall (spOff K) [] E0 (tCons (tVar i) (tCons (tC (.int b)) tNil))) tNil))) (tCall (spOff K) [] E0 (tCons (tVar i) (tCons (tC (.int 2)) tNil))) σ H Q := by
  refine rd_off hv D ha fun H1 D1 f1 => rd_off hv D1 hb fun H2 D2 f2 => ⟨by show 2 ≤ sizeLine; decide, fun p hp => ?_⟩
  refine rd_off hv (D2.new hp) ⟨by decide, by decide⟩ fun H3 D3 f3 => ?_
  have f : Fx [dd] H H3 := ((f1.trans f2).trans (Fx.new hp)).trans f3
  exact rd_at2I (f3.to upd_same fun m => D2.ne hp (List.mem_singleton.mp m)) (off_range _ (by decide)) (q H3 D3 f)
/-- off(d, [a, b][off(d, 2)]) -/
theorem rd_offOf {a b : Int} (hv : σ[i]? = some (some (.ref dd))) (D : Dc dd H0 H s) (ha : 0 < a ∧ a < 1073741824) (hb : 0 < b ∧ b < 1073741824) (q : ∀ H', Dc dd H0 H' (offOf s a b).2 → Fx [dd] H H' → Q (.int (offOf s a b).1) H') :
    tCall (spOff K) [] E0 (tCons (tVar i) (tCons (tOp (rIxL K) (tLst (tCons (tC (.int a)) (tCons (tC (.int b)) tNil))) (tCall (spOff K) [] E0 (tCons (tVar i) (tCons (tC (.int 2)) tNil)))) tNil)) σ H Q := by
  refine ⟨.ref dd, hv, ⟨by show 2 ≤ sizeLine; decide, fun p hp => ?_⟩⟩
  refine rd_off hv (D.new hp) ⟨by decide, by decide⟩ fun H3 D3 f3 => ?_
  refine rd_at2I (f3.to upd_same fun m => D.ne hp (List.mem_singleton.mp m)) (off_range _ (by decide)) (off_sp (K := K) (E := E0) D3 ?_ fun H4 D4 f4 => q H4 D4 (((Fx.new hp).trans f3).trans f4))
  split
  · exact ha
  · exact hb
end
theorem Dp.ints {K : PySem.W.Frag} {H : Hp} : ∀ ns : List Int, DpAll K H (ns.map V.int) (ns.map .int)
  | [] => .nil
  | n :: ns => .cons (.int n) (Dp.ints ns)
theorem rd_tup {σ : L2.St} {H : Hp} {Q : VK} {xs : List V} {n : Nat} (h : xs.length ≤ n) (hn : n ≤ 1000) (q : ∀ p, H p = none → Q (.ref p) (upd H p (.tup xs))) : xs.length ≤ sizeLine ∧ ∀ p, H p = none → Q (.ref p) (upd H p (.tup xs)) := ⟨sz2 (Nat.le_trans h hn), q⟩
theorem floor_rest (w m : Int) (hm : 0 < m) : w - w / m * m = w % m := by
  have := Int.mul_ediv_add_emod w m
  rw [Int.mul_comm] at this
  omega
theorem DpAll.two {K : PySem.W.Frag} {H : Hp} {xs : List V} {d1 d2 : PyData} (h : DpAll K H xs [d1, d2]) : ∃ v1 v2, xs = [v1, v2] ∧ Dp K H v1 d1 ∧ Dp K H v2 d2 := by
  cases h with | cons h1 t => cases t with | cons h2 t => cases t; exact ⟨_, _, rfl, h1, h2⟩
theorem ltL {n m : Nat} (h : n = m) (hm : m ≤ 1000) : n < sizeLine := Nat.lt_of_le_of_lt (h ▸ hm) (by decide)
abbrev kS (z : Str) : Key := .inr z
theorem shaped_ints (ns : List Int) : SeqAt.shaped (.list (ns.map .int)) = true := by
  obtain ⟨h1, h2⟩ := lay_ints ns
  show (PyData.canLay0 (.list (ns.map .int)) && decide (PyData.depth (.list (ns.map .int)) ≤ 64)) = true
  rw [Bool.and_eq_true_iff]
  refine ⟨by simp only [PyData.canLay0]; exact h1, decide_eq_true ?_⟩
  simp only [PyData.depth]
  omega
theorem Dp.lsti {K : PySem.W.Frag} {H : Hp} {a : Addr} {ns : List Int} (h : H a = some (.lst (ns.map V.int))) : Dp K H (.ref a) (.list (ns.map .int)) := .lst (SqL.of h) (Dp.ints ns)
theorem ne_nilL (K : PySem.W.Frag) {H : Hp} {Q : VK} {a b : Addr} {ns : List Int} (h : H a = some (.lst (ns.map V.int))) (hb : H b = some (.lst [])) (q : Q (.bl (!ns.isEmpty)) H) : rNeD K (.ref a) (.ref b) H Q := by
  refine ⟨_, .list [], Dp.lsti h, .lst (SqL.of hb) .nil, shaped_ints ns, by decide +kernel, ?_⟩
  have e : (!PyData.eqv (.list (ns.map .int)) (.list [])) = !ns.isEmpty := by
    cases ns with
    | nil => simp [PyData.eqv, PyData.eqvAll]
    | cons n ns => simp [PyData.eqv, PyData.eqvAll]
  rw [e]
  exact q
end Mh
/-! MhGen2 -/
namespace Mh
open PySem PySem.Spec PyProof.Rows L2
def spGTest (K : PySem.W.Frag) : Sp := fun vs H Q _ => ∃ dd s, vs = [.ref dd] ∧ H dd = some (.lst (Dice.l s)) ∧ s.ok ∧ ∀ H' v, Dc dd H H' (gTest s).2 → Dp K H' v (gTest s).1.d → Q v H'
theorem sc_l_test : FnScope ["_law_d", "_law_kind", "_law_m", "_law_k"] ["_law_d"] (defScope s_l_test) := ⟨rfl, rfl, rfl, by decide +kernel, rfl, by decide +kernel, by decide +kernel⟩
theorem ok_l_test {P : Program} {w : World} {K : PySem.W.Frag} {mg : Str → Option Value} {base : Heap} (T : Tx K mg) : Def P w K mg base CX0 2 "_law_test" ["_law_d"] (spGTest K) := by
  obtain ⟨fd, F⟩ := T.d_l_test
  have G__law_off := ok_l_off (P := P) (w := w) (base := base) T
  refine ⟨_, fd, F.ok sc_l_test (fun vs H Q E h => ?_) (fun cdv A outer s H vs Q E hr h => ?_), F.bindsN fun _ _ _ _ _ _ us hl => match us, hl with | [_], _ => rfl, T.g_l_test, F.kp⟩
  · obtain ⟨d, s, rfl, _⟩ := h
    rfl
  · obtain ⟨dd, s, rfl, hd, hs, q⟩ := h
    refine ⟨_, PSs.nox (pss_cons (ps_set (i := 1) sc_l_test.nd rfl (by first | exact Or.inl rfl | exact Or.inr rfl) (pe_def G__law_off (hr.mono (by omega)) pass0 (pa_cons (pv 0) (pa_cons pe_int pa_nil))))
        (pss_cons (ps_if (pt_cmpR op_eq (pv 1) pe_int (nomark _))
        (pss_one (ps_ret (pe_tup (pa_cons pe_str (pa_cons (pe_ix ix_list (pe_lst (pa_cons (pe_def G__law_off (hr.mono (by omega)) pass0 (pa_cons (pv 0) (pa_cons pe_int pa_nil))) (pa_cons (pe_def G__law_off (hr.mono (by omega)) pass0 (pa_cons (pv 0) (pa_cons pe_int pa_nil))) pa_nil))) (pe_def G__law_off (hr.mono (by omega)) pass0 (pa_cons (pv 0) (pa_cons pe_int pa_nil))) (fun _ _ => rfl)) pa_nil)))))
        pss_nil)
        (pss_cons (ps_if (pt_cmpR op_lt (pv 1) pe_int (nomark _))
        (pss_cons (ps_set (i := 2) sc_l_test.nd rfl (by first | exact Or.inl rfl | exact Or.inr rfl) (pe_op op_add pe_int (pe_def G__law_off (hr.mono (by omega)) pass0 (pa_cons (pv 0) (pa_cons (pe_ix ix_list (pe_lst (pa_cons pe_int (pa_cons pe_int pa_nil))) (pe_def G__law_off (hr.mono (by omega)) pass0 (pa_cons (pv 0) (pa_cons pe_int pa_nil))) (fun _ _ => rfl)) pa_nil)))))
        (pss_one (ps_ret (pe_tup (pa_cons (pe_ix ix_list (pe_lst (pa_cons pe_str (pa_cons pe_str pa_nil))) (pe_op op_sub (pv 1) pe_int) (fun _ _ => rfl)) (pa_cons (pv 2) (pa_cons (pe_def G__law_off (hr.mono (by omega)) pass0 (pa_cons (pv 0) (pa_cons (pv 2) pa_nil))) pa_nil)))))))
        pss_nil)
        (pss_cons (ps_if (pt_cmpR op_eq (pv 1) pe_int (nomark _))
        (pss_one (ps_ret (pe_tup (pa_cons pe_str (pa_cons (pe_callTy call_tuple_of (by rfl) T.f_tuple (by decide +kernel) (pa_cons (pe_callB (cr_sortedSet rfl) (by rfl) T.f_sorted (by decide +kernel) (pa_cons (pe_callTy (cr_setL rfl) (by rfl) T.f_set (by decide +kernel) (pa_cons (pe_lc (own := [("_law_k", 3)]) (g := (gName 3)) (tt := tYes) rfl sc_l_test.nd (pi_range1 rfl T.f_range (pa_cons (pe_op op_add pe_int (pe_def G__law_off (hr.mono (by omega)) pass0 (pa_cons (pv 0) (pa_cons pe_int pa_nil)))) pa_nil)) (blkOk_by (own := [("_law_k", 3)]) (N := ["_law_d", "_law_kind", "_law_m", "_law_k"]) (sc := defScope s_l_test) (by decide +kernel)) (fun _ _ _ _ _ => pg_name (i := 3) sc_l_test.nd rfl (by first | exact Or.inl rfl | exact Or.inr rfl)) (fun _ _ _ _ _ => pts_nil) (fun _ _ _ _ _ => (pe_def G__law_off (hr.mono (by omega)) pass0 (pa_cons (pv 0) (pa_cons pe_int pa_nil))))) pa_nil)) pa_nil)) pa_nil)) pa_nil)))))
        pss_nil)
        (pss_one (ps_ret (pe_ix ix_list (pe_lst (pa_cons (pe_tup (pa_cons pe_str pa_nil)) (pa_cons (pe_tup (pa_cons pe_str (pa_cons pe_int (pa_cons (pe_def G__law_off (hr.mono (by omega)) pass0 (pa_cons (pv 0) (pa_cons pe_int pa_nil))) pa_nil)))) pa_nil))) (pe_op op_sub (pv 1) pe_int) (fun _ _ => rfl)))))))), ?_⟩
    refine rd_off rfl (s := s) ⟨Fx.refl, hd, hs⟩ ⟨by decide, by decide⟩ fun H1 D1 _ => ?_
    have r6 := off_range s (n := 6) (by decide)
    refine ⟨_, rfl, rd_eqI ⟨_, rfl, ifB (fun c => ?_) (fun c => ?_)⟩⟩
    · have c' : (off s 6).1 = 0 := by simpa using c
      have e : gTest s = (.below (pick2 (off s 6).2 12 10000).1, (pick2 (off s 6).2 12 10000).2) := if_pos c'
      rw [e] at q
      refine rd_pick2 rfl D1 ⟨by decide, by decide⟩ ⟨by decide, by decide⟩ fun H2 D2 _ => ⟨by show 2 ≤ sizeLine; decide, fun p hp => ?_⟩
      exact q _ _ (D2.new hp) (.tup (SqT.of upd_same) (.cons (.str _) (.cons (.int _) .nil)))
    have c0 : ¬ (off s 6).1 = 0 := by simpa using c
    refine ⟨_, rfl, _, _, rfl, rfl, _, rfl, ifB (fun c => ?_) (fun c => ?_)⟩
    · have c1 : (off s 6).1 < 3 := of_decide_eq_true c
      have e : gTest s = (if (off s 6).1 = 1 then .rest (2 + (offOf (off s 6).2 3 98).1) (off (offOf (off s 6).2 3 98).2 (2 + (offOf (off s 6).2 3 98).1)).1 else .chance (2 + (offOf (off s 6).2 3 98).1) (off (offOf (off s 6).2 3 98).2 (2 + (offOf (off s 6).2 3 98).1)).1,
        (off (offOf (off s 6).2 3 98).2 (2 + (offOf (off s 6).2 3 98).1)).2) := (if_neg c0).trans (if_pos c1)
      have ro := offOf_range (off s 6).2 (a := 3) (b := 98) (by decide) (by decide)
      refine rd_offOf rfl D1 ⟨by decide, by decide⟩ ⟨by decide, by decide⟩ fun H2 D2 _ => ⟨_, _, rfl, rfl, ⟨by show 2 ≤ sizeLine; decide, fun p hp => ?_⟩⟩
      have D2' := D2.new (o := HO.lst [V.str "rest", V.str "chance"]) hp
      refine ⟨_, rfl, _, _, rfl, rfl, rd_at2 upd_same (by omega) ⟨_, rfl, ?_⟩⟩
      refine rd_offV (n := 2 + (offOf (off s 6).2 3 98).1) rfl rfl D2' (by omega) fun H3 D3 f3 => ⟨by show 3 ≤ sizeLine; decide, fun p2 hp2 => ?_⟩
      refine q _ _ (by rw [e]; exact D3.new hp2) ?_
      rw [e]
      rcases (show (off s 6).1 = 1 ∨ (off s 6).1 = 2 by omega) with k | k
      · rw [k]
        exact .tup (SqT.of upd_same) (.cons (.str _) (.cons (.int _) (.cons (.int _) .nil)))
      · rw [k]
        exact .tup (SqT.of upd_same) (.cons (.str _) (.cons (.int _) (.cons (.int _) .nil)))
    have c1 : ¬ (off s 6).1 < 3 := of_decide_eq_false c
    refine ⟨_, rfl, rd_eqI ⟨_, rfl, ifB (fun c => ?_) (fun c => ?_)⟩⟩
    · have c2 : (off s 6).1 = 3 := by simpa using c
      have e : gTest s = (.known (sset (drawN (fun s => off s 12) (1 + (off (off s 6).2 8).1).toNat (off (off s 6).2 8).2).1), (drawN (fun s => off s 12) (1 + (off (off s 6).2 8).1).toNat (off (off s 6).2 8).2).2) := (if_neg c0).trans ((if_neg c1).trans (if_pos c2))
      rw [e] at q
      have r8 := off_range (off s 6).2 (n := 8) (by decide)
      refine rd_off rfl D1 ⟨by decide, by decide⟩ fun H2 D2 _ => ⟨_, _, rfl, rfl, _, rfl, by omega, by omega, fun D hD => ?_⟩
      have nD : D ≠ dd := D2.ne hD
      refine lc_rel walk_range (fun i acc H3 => Dc dd H2 H3 (drawN (fun s => off s 12) i (off (off s 6).2 8).2).2 ∧ acc = (drawN (fun s => off s 12) i (off (off s 6).2 8).2).1.map V.int) ⟨Dc.new ⟨Fx.refl, D2.h, D2.ok⟩ hD, rfl⟩ (fun _ _ _ _ => trivial) (fun i acc x H3 H4 hi hl hDa r y => ?_) (fun acc H3 hl hDa r => ?_)
      · obtain ⟨rfl, rfl⟩ := y
        obtain ⟨D3, rfl⟩ := r
        refine ⟨rfl, rd_yes (rd_off rfl D3 ⟨by decide, by decide⟩ fun H5 D5 f5 => ?_)⟩
        have hD5 := f5.to hDa fun m => nD (List.mem_singleton.mp m)
        refine Put.ok hl (by omega) hD5 ⟨D5.set hD nD (Chg.lst hD5), ?_⟩
        show _ = List.map V.int ((drawN _ i _).1 ++ [_])
        rw [List.map_append]
        rfl
      · obtain ⟨D3, rfl⟩ := r
        have ll := drawN_len (fun s => off s 12) (1 + (off (off s 6).2 8).1).toNat (off (off s 6).2 8).2
        refine ⟨D, _, rfl, SqL.of hDa, by omega, fun a n ha hn => ⟨a, _, n, rfl, upd_same, by omega, fun ns p hup hmem hlen hp => ?_⟩⟩
        have en : ns = sset (drawN (fun s => off s 12) (1 + (off (off s 6).2 8).1).toNat (off (off s 6).2 8).2).1 := up_unique hup (sset_up _) fun k => by
          rw [hmem k, mem_sset]
          exact decide_eq_true_iff
        refine ⟨p, _, rfl, .inl ⟨SqL.of upd_same, fun l hl2 => ⟨by show 2 ≤ sizeLine; decide, fun t ht => ?_⟩⟩⟩
        have Df := (((D2.go D3).new ha).new hp).new (o := HO.tup (ns.map V.int)) hl2
        refine q _ _ (Df.new ht) ?_
        rw [en] at ht ⊢
        refine .tup (SqT.of upd_same) (.cons (.str _) (.cons (.tup (SqT.of ?_) (Dp.ints _)) .nil))
        rw [upd_ne (ne_of_none upd_same ht)]
        exact upd_same
    · have c2 : ¬ (off s 6).1 = 3 := by simpa using c
      have e : gTest s = (if (off s 6).1 = 4 then .any else .chance 2 (off (off s 6).2 2).1, (off (off s 6).2 2).2) := (if_neg c0).trans ((if_neg c1).trans (if_neg c2))
      refine ⟨by show 1 ≤ sizeLine; decide, fun p hp => ?_⟩
      refine rd_off rfl (D1.new hp) ⟨by decide, by decide⟩ fun H2 D2 f2 => ⟨by show 3 ≤ sizeLine; decide, fun p2 hp2 => ⟨by show 2 ≤ sizeLine; decide, fun l hl => ⟨_, rfl, _, _, rfl, rfl, ?_⟩⟩⟩
      have Df := (D2.new (o := HO.tup [V.str "chance", V.int 2, V.int (off (off s 6).2 2).1]) hp2).new (o := HO.lst [V.ref p, V.ref p2]) hl
      have hpp : p ≠ dd := D1.ne hp
      have hp' := f2.to upd_same fun m => hpp (List.mem_singleton.mp m)
      refine rd_at2 upd_same (by omega) ?_
      refine q _ _ (by rw [e]; exact Df) ?_
      rw [e]
      rcases (show (off s 6).1 = 4 ∨ (off s 6).1 = 5 by omega) with k | k
      · rw [k]
        refine .tup (SqT.of (xs := [.str "any"]) ?_) (.cons (.str _) .nil)
        have n1 : p ≠ p2 := ne_of_none hp' hp2
        have h1 : (upd H2 p2 (HO.tup [V.str "chance", V.int 2, V.int (off (off s 6).2 2).1])) p = some (.tup [.str "any"]) := by rw [upd_ne n1]; exact hp'
        rw [upd_ne (ne_of_none h1 hl)]
        exact h1
      · rw [k]
        refine .tup (SqT.of (xs := [.str "chance", .int 2, .int (off (off s 6).2 2).1]) ?_) (.cons (.str _) (.cons (.int _) (.cons (.int _) .nil)))
        rw [upd_ne (ne_of_none upd_same hl)]
        exact upd_same
end Mh
/-! MhGen3 -/
namespace Mh
open PySem PySem.Spec PyProof.Rows L2
def gN (s : Dice) : Int × Dice := (if (off (off (off s 7).2 19999).2 4).1 = 0 then (off (off s 7).2 19999).1 - 9999 else (off s 7).1 - 2, (off (off (off s 7).2 19999).2 4).2)
def gAns (s : Dice) : Ans × Dice :=
  if (off s 5).1 = 3 then (.rest (2 + (off (gN (off s 5).2).2 98).1), (off (gN (off s 5).2).2 98).2)
  else (if (off s 5).1 = 4 then .none else if (off s 5).1 = 0 then .num (gN (off s 5).2).1 else if (off s 5).1 = 1 then .plus (gN (off s 5).2).1 else .times (gN (off s 5).2).1, (gN (off s 5).2).2)
theorem gN_ok {s : Dice} (h : s.ok) : (gN s).2.ok := off_ok (off_ok (off_ok h _) _) _
theorem gN_range (s : Dice) : -9999 ≤ (gN s).1 ∧ (gN s).1 ≤ 9999 := by
  have h1 := off_range s (n := 7) (by decide)
  have h2 := off_range (off s 7).2 (n := 19999) (by decide)
  unfold gN
  dsimp only
  split <;> omega
theorem gAns_dice {s : Dice} (h : s.ok) : (gAns s).2.ok := by
  unfold gAns
  split
  · exact off_ok (gN_ok (off_ok h 5)) _
  · exact gN_ok (off_ok h 5)
theorem gAns_ok {s : Dice} (h : s.ok) : (gAns s).1.ok := by
  have h1 := gN_range (off s 5).2
  have h2 := off_range (gN (off s 5).2).2 (n := 98) (by decide)
  unfold gAns
  split
  · show _ ∧ _
    omega
  · dsimp only
    split
    · trivial
    · split
      · exact h1
      · split
        · exact h1
        · exact h1
def spGAns (K : PySem.W.Frag) : Sp := fun vs H Q _ => ∃ dd s, vs = [.ref dd] ∧ H dd = some (.lst (Dice.l s)) ∧ s.ok ∧ ∀ H' v, Dc dd H H' (gAns s).2 → Dp K H' v (gAns s).1.d → Q v H'
theorem rd_at3 {K : PySem.W.Frag} {H : Hp} {Q : VK} {p : Addr} {x y z : V} {k : Int} (h : H p = some (.lst [x, y, z])) (hk : 0 ≤ k ∧ k < 3) (q : Q (if k = 0 then x else if k = 1 then y else z) H) : rIxL K (.ref p) (.int k) H Q := by
  rcases (show k = 0 ∨ k = 1 ∨ k = 2 by omega) with rfl | rfl | rfl
  · exact ⟨p, _, 0, x, rfl, rfl, SqL.of h, atI_nat (j := 0) rfl, q⟩
  · exact ⟨p, _, 1, y, rfl, rfl, SqL.of h, atI_nat (j := 1) rfl, q⟩
  · exact ⟨p, _, 2, z, rfl, rfl, SqL.of h, atI_nat (j := 2) rfl, q⟩
theorem sc_l_answer : FnScope ["_law_d", "_law_kind", "_law_n"] ["_law_d"] (defScope s_l_answer) := ⟨rfl, rfl, rfl, by decide +kernel, rfl, by decide +kernel, by decide +kernel⟩
theorem ok_l_answer {P : Program} {w : World} {K : PySem.W.Frag} {mg : Str → Option Value} {base : Heap} (T : Tx K mg) : Def P w K mg base CX0 2 "_law_answer" ["_law_d"] (spGAns K) := by
  obtain ⟨fd, F⟩ := T.d_l_answer
  have G__law_off := ok_l_off (P := P) (w := w) (base := base) T
  refine ⟨_, fd, F.ok sc_l_answer (fun vs H Q E h => ?_) (fun cdv A outer s H vs Q E hr h => ?_), F.bindsN fun _ _ _ _ _ _ us hl => match us, hl with | [_], _ => rfl, T.g_l_answer, F.kp⟩
  · obtain ⟨d, s, rfl, _⟩ := h
    rfl
  · obtain ⟨dd, s, rfl, hd, hs, q⟩ := h
    refine ⟨_, PSs.nox (pss_cons (ps_set (i := 1) sc_l_answer.nd rfl (by first | exact Or.inl rfl | exact Or.inr rfl) (pe_def G__law_off (hr.mono (by omega)) pass0 (pa_cons (pv 0) (pa_cons pe_int pa_nil))))
        (pss_cons (ps_set (i := 2) sc_l_answer.nd rfl (by first | exact Or.inl rfl | exact Or.inr rfl) (pe_ix ix_list (pe_lst (pa_cons (pe_op op_sub (pe_def G__law_off (hr.mono (by omega)) pass0 (pa_cons (pv 0) (pa_cons pe_int pa_nil))) pe_int) (pa_cons (pe_op op_sub (pe_def G__law_off (hr.mono (by omega)) pass0 (pa_cons (pv 0) (pa_cons pe_int pa_nil))) pe_int) pa_nil))) (pe_callTy call_int1 (by rfl) T.f_int (by decide +kernel) (pa_cons (pe_cmpR op_eq (pe_def G__law_off (hr.mono (by omega)) pass0 (pa_cons (pv 0) (pa_cons pe_int pa_nil))) pe_int (nomark _)) pa_nil)) (fun _ _ => rfl)))
        (pss_cons (ps_if (pt_cmpR op_eq (pv 1) pe_int (nomark _))
        (pss_one (ps_ret (pe_tup (pa_cons pe_str (pa_cons (pe_op op_add pe_int (pe_def G__law_off (hr.mono (by omega)) pass0 (pa_cons (pv 0) (pa_cons pe_int pa_nil)))) pa_nil)))))
        pss_nil)
        (pss_one (ps_ret (pe_ifExp (pt_cmpR op_eq (pv 1) pe_int (nomark _)) (pe_tup (pa_cons pe_str pa_nil)) (pe_tup (pa_cons (pe_ix ix_list (pe_lst (pa_cons pe_str (pa_cons pe_str (pa_cons pe_str pa_nil)))) (pv 1) (fun _ _ => rfl)) (pa_cons (pv 2) pa_nil))))))))), ?_⟩
    refine rd_off rfl (s := s) ⟨Fx.refl, hd, hs⟩ ⟨by decide, by decide⟩ fun H1 D1 _ => ?_
    have r5 := off_range s (n := 5) (by decide)
    refine rd_off rfl D1 ⟨by decide, by decide⟩ fun H2 D2 _ => ⟨_, _, rfl, rfl, ?_⟩
    refine rd_off rfl D2 ⟨by decide, by decide⟩ fun H3 D3 _ => ⟨_, _, rfl, rfl, by show 2 ≤ sizeLine; decide, fun p hp => ?_⟩
    refine rd_off rfl (D3.new hp) ⟨by decide, by decide⟩ fun H4 D4 f4 => rd_eqI (.inr ⟨_, rfl, ?_⟩)
    refine rd_at2I (f4.to upd_same fun m => D3.ne hp (List.mem_singleton.mp m)) (by split <;> omega) ?_
    have en : (if (if ((off (off (off (off s 5).2 7).2 19999).2 4).1 == 0) = true then (1 : Int) else 0) = 0 then (off (off s 5).2 7).1 - 2 else (off (off (off s 5).2 7).2 19999).1 - 9999) = (gN (off s 5).2).1 := by
      unfold gN
      dsimp only
      by_cases c : (off (off (off (off s 5).2 7).2 19999).2 4).1 = 0
      · simp [c]
      · simp [c]
    rw [en]
    have D4 : Dc dd H H4 (gN (off s 5).2).2 := D4
    refine ⟨_, rfl, rd_eqI ⟨_, rfl, ifB (fun c => ?_) (fun c => ?_)⟩⟩
    · have c' : (off s 5).1 = 3 := by simpa using c
      have e : gAns s = (.rest (2 + (off (gN (off s 5).2).2 98).1), (off (gN (off s 5).2).2 98).2) := if_pos c'
      rw [e] at q
      refine rd_off rfl D4 ⟨by decide, by decide⟩ fun H5 D5 _ => ⟨_, _, rfl, rfl, by show 2 ≤ sizeLine; decide, fun p2 hp2 => ?_⟩
      exact q _ _ (D5.new hp2) (.tup (SqT.of upd_same) (.cons (.str _) (.cons (.int _) .nil)))
    · have c' : ¬ (off s 5).1 = 3 := by simpa using c
      have e : gAns s = (if (off s 5).1 = 4 then .none else if (off s 5).1 = 0 then .num (gN (off s 5).2).1 else if (off s 5).1 = 1 then .plus (gN (off s 5).2).1 else .times (gN (off s 5).2).1, (gN (off s 5).2).2) := if_neg c'
      refine ⟨_, rfl, rd_eqI ⟨_, rfl, ifB (fun c => ?_) (fun c => ?_)⟩⟩
      · have c2 : (off s 5).1 = 4 := by simpa using c
        rw [e, if_pos c2] at q
        refine ⟨by show 1 ≤ sizeLine; decide, fun p2 hp2 => ?_⟩
        exact q _ _ (D4.new hp2) (.tup (SqT.of upd_same) (.cons (.str _) .nil))
      · have c2 : ¬ (off s 5).1 = 4 := by simpa using c
        rw [e, if_neg c2] at q
        refine ⟨by show 3 ≤ sizeLine; decide, fun p2 hp2 => ⟨_, rfl, rd_at3 upd_same (by omega) ⟨_, rfl, by show 2 ≤ sizeLine; decide, fun p3 hp3 => ?_⟩⟩⟩
        refine q _ _ ((D4.new hp2).new hp3) ?_
        rcases (show (off s 5).1 = 0 ∨ (off s 5).1 = 1 ∨ (off s 5).1 = 2 by omega) with k | k | k
        · rw [k]
          exact .tup (SqT.of upd_same) (.cons (.str _) (.cons (.int _) .nil))
        · rw [k]
          exact .tup (SqT.of upd_same) (.cons (.str _) (.cons (.int _) .nil))
        · rw [k]
          exact .tup (SqT.of upd_same) (.cons (.str _) (.cons (.int _) .nil))
def gRow (s : Dice) : (Tst × Ans) × Dice := (((gTest s).1, (gAns (gTest s).2).1), (gAns (gTest s).2).2)
def gMach (s : Dice) : Mch × Dice := drawN gRow (1 + (offOf s 3 12).1).toNat (offOf s 3 12).2
theorem gRow_dice {s : Dice} (h : s.ok) : (gRow s).2.ok := gAns_dice (gTest_dice h)
theorem gMach_dice {s : Dice} (h : s.ok) : (gMach s).2.ok := drawN_ok (fun _ o => gRow_dice o) _ (offOf_ok h 3 12)
theorem gMach_ok {s : Dice} (h : s.ok) : (gMach s).1.ok := by
  have r := offOf_range s (a := 3) (b := 12) (by decide) (by decide)
  have l := drawN_len gRow (1 + (offOf s 3 12).1).toNat (offOf s 3 12).2
  refine ⟨fun z => ?_, ?_, fun x hx => drawN_all (P := fun r => r.1.ok ∧ r.2.ok) (fun _ o => gRow_dice o) (fun s o => ⟨gTest_ok o, gAns_ok (gTest_dice o)⟩) _ (offOf_ok h 3 12) x hx⟩
  · rw [show (drawN gRow (1 + (offOf s 3 12).1).toNat (offOf s 3 12).2).1 = [] from z] at l
    have : (0 : Nat) = (1 + (offOf s 3 12).1).toNat := l
    omega
  · show (drawN gRow (1 + (offOf s 3 12).1).toNat (offOf s 3 12).2).1.length ≤ 12
    omega
def spGMach (K : PySem.W.Frag) : Sp := fun vs H Q _ => ∃ dd s, vs = [.ref dd] ∧ H dd = some (.lst (Dice.l s)) ∧ s.ok ∧ ∀ H' v, Dc dd H H' (gMach s).2 → Dp K H' v (machD (gMach s).1) → Q v H'
theorem sc_l_machine : FnScope ["_law_d", "_law_k"] ["_law_d"] (defScope s_l_machine) := ⟨rfl, rfl, rfl, by decide +kernel, rfl, by decide +kernel, by decide +kernel⟩
theorem ok_l_machine {P : Program} {w : World} {K : PySem.W.Frag} {mg : Str → Option Value} {base : Heap} (T : Tx K mg) : Def P w K mg base CX0 3 "_law_machine" ["_law_d"] (spGMach K) := by
  obtain ⟨fd, F⟩ := T.d_l_machine
  have G__law_test := ok_l_test (P := P) (w := w) (base := base) T
  have G__law_answer := ok_l_answer (P := P) (w := w) (base := base) T
  have G__law_off := ok_l_off (P := P) (w := w) (base := base) T
  refine ⟨_, fd, F.ok sc_l_machine (fun vs H Q E h => ?_) (fun cdv A outer s H vs Q E hr h => ?_), F.bindsN fun _ _ _ _ _ _ us hl => match us, hl with | [_], _ => rfl, T.g_l_machine, F.kp⟩
  · obtain ⟨d, s, rfl, _⟩ := h
    rfl
  · obtain ⟨dd, s, rfl, hd, hs, q⟩ := h
    refine ⟨_, PSs.nox (pss_one (ps_ret (pe_callTy call_tuple_of (by rfl) T.f_tuple (by decide +kernel) (pa_cons (pe_lc (own := [("_law_k", 1)]) (g := (gName 1)) (tt := tYes) rfl sc_l_machine.nd (pi_range1 rfl T.f_range (pa_cons (pe_op op_add pe_int (pe_def G__law_off (hr.mono (by omega)) pass0 (pa_cons (pv 0) (pa_cons (pe_ix ix_list (pe_lst (pa_cons pe_int (pa_cons pe_int pa_nil))) (pe_def G__law_off (hr.mono (by omega)) pass0 (pa_cons (pv 0) (pa_cons pe_int pa_nil))) (fun _ _ => rfl)) pa_nil)))) pa_nil)) (blkOk_by (own := [("_law_k", 1)]) (N := ["_law_d", "_law_k"]) (sc := defScope s_l_machine) (by decide +kernel)) (fun _ _ _ _ _ => pg_name (i := 1) sc_l_machine.nd rfl (by first | exact Or.inl rfl | exact Or.inr rfl)) (fun _ _ _ _ _ => pts_nil) (fun _ _ _ _ _ => (pe_tup (pa_cons (pe_def G__law_test (hr.mono (by omega)) pass0 (pa_cons (pv 0) pa_nil)) (pa_cons (pe_def G__law_answer (hr.mono (by omega)) pass0 (pa_cons (pv 0) pa_nil)) pa_nil))))) pa_nil)))), ?_⟩
    have r := offOf_range s (a := 3) (b := 12) (by decide) (by decide)
    refine rd_offOf rfl (s := s) ⟨Fx.refl, hd, hs⟩ ⟨by decide, by decide⟩ ⟨by decide, by decide⟩ fun H1 D1 _ => ⟨_, _, rfl, rfl, _, rfl, by omega, by omega, fun D hD => ?_⟩
    have nD : D ≠ dd := D1.ne hD
    refine lc_rel walk_range (fun i acc H3 => Dc dd H1 H3 (drawN gRow i (offOf s 3 12).2).2 ∧ DpAll K H3 acc ((drawN gRow i (offOf s 3 12).2).1.map rowD)) ⟨Dc.new ⟨Fx.refl, D1.h, D1.ok⟩ hD, .nil⟩ (fun _ _ _ _ => trivial) (fun i acc x H3 H4 hi hl hDa r y => ?_) (fun acc H3 hl hDa r => ?_)
    · obtain ⟨rfl, rfl⟩ := y
      obtain ⟨D3, hacc⟩ := r
      refine ⟨rfl, rd_yes ⟨.ref dd, rfl, dd, _, rfl, D3.h, D3.ok, fun H5 v5 D5 k5 => ⟨.ref dd, rfl, dd, _, rfl, D5.h, D5.ok, fun H6 v6 D6 k6 => ⟨by show 2 ≤ sizeLine; decide, fun p hp => ?_⟩⟩⟩⟩
      have f : Fx [dd] H4 (upd H6 p (.tup [v5, v6])) := (D5.f.trans D6.f).trans (Fx.new hp)
      have hD7 := f.to hDa fun m => nD (List.mem_singleton.mp m)
      have D7 := ((D3.go D5).go D6).new (o := HO.tup [v5, v6]) hp
      refine Put.ok hl (by omega) hD7 ⟨D7.set hD nD (Chg.lst hD7), ?_⟩
      show DpAll K _ _ (List.map rowD ((drawN gRow i _).1 ++ [_]))
      rw [List.map_append]
      have fD : Fx [D] (upd H6 p (.tup [v5, v6])) (upd (upd H6 p (.tup [v5, v6])) D (.lst (acc ++ [.ref p]))) := Fx.set List.mem_cons_self (Chg.lst hD7)
      refine ((hacc.mv f (rows_nol _)).mv fD (rows_nol _)).snoc ?_
      have k5' := (k5.mv D6.f (Tst.nol _)).ext (Fx.new (o := HO.tup [v5, v6]) hp)
      have k6' := k6.ext (Fx.new (o := HO.tup [v5, v6]) hp)
      exact (Dp.tup (SqT.of upd_same) (.cons k5' (.cons k6' .nil))).mv fD (row_nol (gRow (drawN gRow i (offOf s 3 12).2).2).1)
    · obtain ⟨D3, hacc⟩ := r
      refine ⟨D, _, rfl, .inl ⟨SqL.of hDa, fun l hl2 => ?_⟩⟩
      exact q _ _ ((D1.go D3).new hl2) (.tup (SqT.of upd_same) (hacc.ext (Fx.new hl2)))
end Mh
/-! MhWide -/
namespace Mh
open PySem PySem.Spec PyProof.Rows L2
mutual
/-- no list or tuple within of a hundred thousand items or more -/
def wide : PyData → Bool
  | .list xs => decide (xs.length < 100000) && wideA xs
  | .tuple xs => decide (xs.length < 100000) && wideA xs
  | _ => true
def wideA : List PyData → Bool
  | [] => true
  | x :: xs => wide x && wideA xs
end
theorem wide_get : ∀ {ds : List PyData} {i : Nat} {d : PyData}, wideA ds = true → ds[i]? = some d → wide d = true
  | [], _, _, _, h => by simp at h
  | x :: r, 0, d, w, h => by
    have e : x = d := Option.some.inj h
    subst e
    exact (Bool.and_eq_true_iff.mp (show (wide x && wideA r) = true from w)).1
  | x :: r, i + 1, d, w, h => wide_get (ds := r) (i := i) (Bool.and_eq_true_iff.mp (show (wide x && wideA r) = true from w)).2 (by simpa using h)
def spAlike (K : PySem.W.Frag) : Nat → Sp
  | 0 => fun _ _ _ _ => False
  | n + 1 => fun vs H Q _ => ∃ v w d, vs = [v, w] ∧ Dp K H v d ∧ Dp K H w d ∧ d.depth ≤ n ∧ wide d = true ∧ ∀ H', Fx [] H H' → Q (.bl true) H'
theorem depth_get : ∀ {ds : List PyData} {i : Nat} {d : PyData}, ds[i]? = some d → d.depth ≤ PyData.depthAll ds
  | [], _, _, h => by simp at h
  | x :: r, 0, d, h => by
    have e : x = d := Option.some.inj h
    subst e
    simp only [PyData.depthAll]
    exact Nat.le_max_left _ _
  | x :: r, i + 1, d, h => by
    have := depth_get (ds := r) (i := i) (d := d) (by simpa using h)
    simp only [PyData.depthAll]
    exact Nat.le_trans this (Nat.le_max_right _ _)
def Seq (K : PySem.W.Frag) (H : Hp) (a : Addr) (xs : List V) : Prop := SqL K H a xs ∨ SqT K H a xs
theorem Seq.ext {K : PySem.W.Frag} {H H' : Hp} {a : Addr} {xs : List V} (h : Seq K H a xs) (f : Fx [] H H') : Seq K H' a xs := by
  rcases h with h | h
  · exact .inl (f.sqL h fun m => nomatch m)
  · exact .inr (f.sqT h)
theorem rd_ixSeq {K : PySem.W.Frag} {σ : L2.St} {H : Hp} {Q : VK} {i j k : Nat} {a : Addr} {xs : List V} {v : V} (hv : σ[i]? = some (some (.ref a))) (hk : σ[k]? = some (some (.int (j : Int)))) (hs : Seq K H a xs) (hj : xs[j]? = some v) (q : Q v H) : tOp (rIx K) (tVar i) (tVar k) σ H Q := by
  refine ⟨_, hv, _, hk, ?_⟩
  rcases hs with h | h
  · exact .inl ⟨a, xs, (j : Int), v, rfl, rfl, h, atI_nat hj, q⟩
  · exact .inr (.inl ⟨a, xs, (j : Int), v, rfl, rfl, h, atI_nat hj, q⟩)
theorem zero_add_nat (i : Nat) : V.int (0 + (i : Int)) = V.int (i : Int) := by rw [Int.zero_add]
theorem alike_all {K : PySem.W.Frag} {H : Hp} {Q : VK} {n : Nat} {a b D : Addr} {xs ys : List V} {ds : List PyData} (hx : Seq K H a xs) (hy : Seq K H b ys) (ha : DpAll K H xs ds) (hb : DpAll K H ys ds) (hdep : PyData.depthAll ds + 1 ≤ n) (hw : wideA ds = true) (hl : ys.length < 1000000) (hD : H D = none) (q : ∀ H', Fx [] H H' → Q (.bl true) H') :
    ∃ W : Nat → Nat → Hp → Prop, (∃ m, W 0 m (upd H D (.lst []))) ∧ ∀ i m H, W i m H →
      ((Itr 0 (ys.length : Int).toNat).stop i H ∧ rAll K [.ref D] H Q) ∨ ((Itr 0 (ys.length : Int).toNat).go i H ∧ ∃ Nx : Hp → Prop, (∀ H', Nx H' → ∃ m', m' < m ∧ W (i + 1) m' H') ∧ ∀ x H', (Itr 0 (ys.length : Int).toNat).yld i H x H' → gName 2 x (wipe [some (.ref a), some (.ref b), none] [2]) H' fun σ2 H2 => wipe σ2 [2] = wipe [some (.ref a), some (.ref b), none] [2] ∧ tYes σ2 H2 fun c H3 =>
        if c = true then (tCall (spAlike K n) [] E0 (tCons (tOp (rIx K) (tVar 0) (tVar 2)) (tCons (tOp (rIx K) (tVar 1) (tVar 2)) tNil))) σ2 H3 fun y H4 => ∃ acc, H4 D = some (.lst acc) ∧ acc.length < sizeLine ∧ Nx (upd H4 D (.lst (acc ++ [y]))) else Nx H3) := by
  refine lc_map walk_range (fun _ => .bl true) (by simpa using hl) hD (fun _ _ => trivial) (fun _ _ _ _ y => YFn.fx y) (fun i x H2 H3 Qe Z hi f y k => ?_) (fun H2 f hL => ?_)
  · obtain ⟨rfl, rfl⟩ := y
    have hi' : i < ys.length := by simpa using hi
    have hix : i < xs.length := by rw [ha.len, ← hb.len]; exact hi'
    refine ⟨rfl, ifT rfl ?_⟩
    obtain ⟨d, g1, g2⟩ := ha.get (List.getElem?_eq_getElem hix)
    obtain ⟨d', g3, g4⟩ := hb.get (List.getElem?_eq_getElem hi')
    have e : d = d' := Option.some.inj (g1.symm.trans g3)
    subst e
    refine rd_ixSeq rfl (congrArg (fun z => some (some z)) (zero_add_nat i)) (hx.ext f) (List.getElem?_eq_getElem hix) (rd_ixSeq rfl (congrArg (fun z => some (some z)) (zero_add_nat i)) (hy.ext f) (List.getElem?_eq_getElem hi') ?_)
    have hdd := depth_get g1
    cases n with
    | zero => omega
    | succ n => exact ⟨_, _, d, rfl, g2.ext f, g4.ext f, by omega, wide_get hw g1, fun H' f' => k H' f'⟩
  · refine ⟨D, (List.range (ys.length : Int).toNat).map fun _ => true, rfl, SqL.of (by rw [hL, List.map_map]; rfl), ?_⟩
    have e : (((List.range (ys.length : Int).toNat).map fun _ => true).all id) = true := List.all_eq_true.mpr fun x hx => by
      obtain ⟨_, _, rfl⟩ := List.mem_map.mp hx
      rfl
    rw [e]
    exact q H2 f
end Mh
/-! MhAlike -/
namespace Mh
open PySem PySem.Spec PyProof.Rows L2
theorem sc_l_alike : FnScope ["_law_found", "_law_due", "_law_k"] ["_law_found", "_law_due"] (defScope s_l_alike) := ⟨rfl, rfl, rfl, by decide +kernel, rfl, by decide +kernel, by decide +kernel⟩
theorem ok_l_alike {P : Program} {w : World} {K : PySem.W.Frag} {mg : Str → Option Value} {base : Heap} (T : Tx K mg) : ∀ n : Nat, Def P w K mg base CX0 n "_law_alike" ["_law_found", "_law_due"] (spAlike K n)
  | 0 => by
    obtain ⟨fd, F⟩ := T.d_l_alike
    exact ⟨_, fd, ⟨fun _ _ _ _ h => h.elim, fun _ _ _ _ _ _ _ _ _ _ _ _ _ h => h.elim⟩, F.bindsN fun _ _ _ _ _ _ us hl => match us, hl with | [_, _], _ => rfl, T.g_l_alike, F.kp⟩
  | n + 1 => by
    obtain ⟨fd, F⟩ := T.d_l_alike
    have G__law_alike := ok_l_alike (P := P) (w := w) (base := base) T n
    refine ⟨_, fd, F.ok sc_l_alike (fun vs H Q E h => ?_) (fun cdv A outer s H vs Q E hr h => ?_), F.bindsN fun _ _ _ _ _ _ us hl => match us, hl with | [_, _], _ => rfl, T.g_l_alike, F.kp⟩
    · obtain ⟨v, w, d, rfl, _⟩ := h
      rfl
    · obtain ⟨v, w, d, rfl, h1, h2, hdep, hwd, q⟩ := h
      refine ⟨_, PSs.nox (pss_cons (ps_if (pt_cmpR op_isN (pv 1) pe_non (nomark _))
        (pss_one (ps_ret (pe_cmpR op_isN (pv 0) pe_non (nomark _))))
        pss_nil)
        (pss_cons (ps_if (pt_val (pe_callB call_isiD (by rfl) T.f_isinstance (by decide +kernel) (pa_cons (pv 1) (pa_cons (gT (n := "bool") T.f_bool) pa_nil))))
        (pss_one (ps_ret (pe_and (pe_callB call_isiD (by rfl) T.f_isinstance (by decide +kernel) (pa_cons (pv 0) (pa_cons (gT (n := "bool") T.f_bool) pa_nil))) (pe_one (pe_cmpR op_eq (pv 0) (pv 1) (nomark _))))))
        pss_nil)
        (pss_cons (ps_if (pt_val (pe_callB call_isiD (by rfl) T.f_isinstance (by decide +kernel) (pa_cons (pv 1) (pa_cons (gT (n := "int") T.f_int) pa_nil))))
        (pss_one (ps_ret (pe_and (pe_callB call_isiD (by rfl) T.f_isinstance (by decide +kernel) (pa_cons (pv 0) (pa_cons (gT (n := "int") T.f_int) pa_nil))) (pe_and (pe_not (pe_callB call_isiD (by rfl) T.f_isinstance (by decide +kernel) (pa_cons (pv 0) (pa_cons (gT (n := "bool") T.f_bool) pa_nil)))) (pe_one (pe_cmpR op_eq (pv 0) (pv 1) (nomark _)))))))
        pss_nil)
        (pss_cons (ps_if (pt_val (pe_callB call_isiD (by rfl) T.f_isinstance (by decide +kernel) (pa_cons (pv 1) (pa_cons (gT (n := "str") T.f_str) pa_nil))))
        (pss_one (ps_ret (pe_and (pe_callB call_isiD (by rfl) T.f_isinstance (by decide +kernel) (pa_cons (pv 0) (pa_cons (gT (n := "str") T.f_str) pa_nil))) (pe_one (pe_cmpR op_eq (pv 0) (pv 1) (nomark _))))))
        pss_nil)
        (pss_cons (ps_if (PW.pt (pw_or (pt_cmpR op_ne (pe_callB call_isiD (by rfl) T.f_isinstance (by decide +kernel) (pa_cons (pv 1) (pa_cons (gT (n := "tuple") T.f_tuple) pa_nil))) (pe_callB call_isiD (by rfl) T.f_isinstance (by decide +kernel) (pa_cons (pv 0) (pa_cons (gT (n := "tuple") T.f_tuple) pa_nil))) (nomark _)) (pw_or1 (pt_cmpR op_ne (pe_callB call_isiD (by rfl) T.f_isinstance (by decide +kernel) (pa_cons (pv 1) (pa_cons (gT (n := "list") T.f_list) pa_nil))) (pe_callB call_isiD (by rfl) T.f_isinstance (by decide +kernel) (pa_cons (pv 0) (pa_cons (gT (n := "list") T.f_list) pa_nil))) (nomark _)))))
        (pss_one (ps_ret pe_bl))
        pss_nil)
        (pss_cons (ps_if (pt_cmpR op_ne (pe_callB call_len_seq (by rfl) T.f_len (by decide +kernel) (pa_cons (pv 0) pa_nil)) (pe_callB call_len_seq (by rfl) T.f_len (by decide +kernel) (pa_cons (pv 1) pa_nil)) (nomark _))
        (pss_one (ps_ret pe_bl))
        pss_nil)
        (pss_one (ps_ret (pe_callB (cr_all rfl) (by rfl) T.f_all (by decide +kernel) (pa_cons (pe_lc (own := [("_law_k", 2)]) (g := (gName 2)) (tt := tYes) rfl sc_l_alike.nd (pi_range1 rfl T.f_range (pa_cons (pe_callB call_len_seq (by rfl) T.f_len (by decide +kernel) (pa_cons (pv 1) pa_nil)) pa_nil)) (blkOk_by (own := [("_law_k", 2)]) (N := ["_law_found", "_law_due", "_law_k"]) (sc := defScope s_l_alike) (by decide +kernel)) (fun _ _ _ _ _ => pg_name (i := 2) sc_l_alike.nd rfl (by first | exact Or.inl rfl | exact Or.inr rfl)) (fun _ _ _ _ _ => pts_nil) (fun _ _ _ _ _ => (pe_def G__law_alike (hr.mono (by omega)) pass0 (pa_cons (pe_ix (kix_seq (K := K) rfl) (pv 0) (pv 2) (fun _ _ => rfl)) (pa_cons (pe_ix (kix_seq (K := K) rfl) (pv 1) (pv 2) (fun _ _ => rfl)) pa_nil))))) pa_nil)))))))))), ?_⟩
      cases d with
      | none =>
        cases h1
        cases h2
        exact ⟨_, rfl, rfl, _, rfl, ifT rfl ⟨_, rfl, rfl, q H .refl⟩⟩
      | bool b =>
        cases h1
        cases h2
        refine ⟨_, rfl, rfl, _, rfl, ifF rfl (rd_isD rfl (by decide) (.bl b) ⟨_, rfl, ifT rfl ?_⟩)⟩
        refine rd_isD rfl (by decide) (.bl b) ⟨_, rfl, ifT rfl ⟨_, rfl, _, rfl, rfl, ?_⟩⟩
        rw [decide_eq_true rfl]
        exact q H .refl
      | int i =>
        cases h1
        cases h2
        refine ⟨_, rfl, rfl, _, rfl, ifF rfl (rd_isD rfl (by decide) (.int i) ⟨_, rfl, ifF rfl (rd_isD rfl (by decide) (.int i) ⟨_, rfl, ifT rfl ?_⟩)⟩)⟩
        refine rd_isD rfl (by decide) (.int i) ⟨_, rfl, ifT rfl (rd_isD rfl (by decide) (.int i) ⟨_, rfl, _, rfl, ifT rfl ⟨_, rfl, _, rfl, rfl, ?_⟩⟩)⟩
        rw [decide_eq_true rfl]
        exact q H .refl
      | str z =>
        cases h1
        cases h2
        refine ⟨_, rfl, rfl, _, rfl, ifF rfl (rd_isD rfl (by decide) (.str z) ⟨_, rfl, ifF rfl (rd_isD rfl (by decide) (.str z) ⟨_, rfl, ifF rfl (rd_isD rfl (by decide) (.str z) ⟨_, rfl, ifT rfl ?_⟩)⟩)⟩)⟩
        refine rd_isD rfl (by decide) (.str z) ⟨_, rfl, ifT rfl ⟨_, rfl, _, rfl, rfl, ?_⟩⟩
        rw [decide_eq_true rfl]
        exact q H .refl
      | dict kvs => cases h1
      | tuple ds =>
        obtain ⟨a, xs, rfl, hs, ha⟩ := h1.tupI
        obtain ⟨b, ys, rfl, ht, hb⟩ := h2.tupI
        have lx := ha.len
        have ly := hb.len
        refine ⟨_, rfl, rfl, _, rfl, ifF rfl (rd_isD rfl (by decide) h2 ⟨_, rfl, ifF rfl (rd_isD rfl (by decide) h2 ⟨_, rfl, ifF rfl (rd_isD rfl (by decide) h2 ⟨_, rfl, ifF rfl ?_⟩)⟩)⟩)⟩
        refine rd_isD rfl (by decide) h2 (rd_isD rfl (by decide) h1 ⟨rfl, _, rfl, ifF rfl (rd_isD rfl (by decide) h2 (rd_isD rfl (by decide) h1 ⟨rfl, _, rfl, ifF rfl ?_⟩))⟩)
        refine ⟨_, rfl, a, xs, rfl, .inr hs, _, rfl, b, ys, rfl, .inr ht, rfl, _, rfl, ifF (by rw [lx, ly]; simp) ?_⟩
        have hdep2 : PyData.depthAll ds + 1 ≤ n := by simpa only [PyData.depth] using hdep
        obtain ⟨hw1, hw2⟩ := Bool.and_eq_true_iff.mp (show (decide (ds.length < 100000) && wideA ds) = true from hwd)
        have hw3 := of_decide_eq_true hw1
        exact ⟨_, rfl, b, ys, rfl, .inr ht, (ys.length : Int), rfl, by omega, by omega, fun D hD => alike_all (.inr hs) (.inr ht) ha hb hdep2 hw2 (by omega) hD q⟩
      | list ds =>
        obtain ⟨a, xs, rfl, hs, ha⟩ := h1.lstI
        obtain ⟨b, ys, rfl, ht, hb⟩ := h2.lstI
        have lx := ha.len
        have ly := hb.len
        refine ⟨_, rfl, rfl, _, rfl, ifF rfl (rd_isD rfl (by decide) h2 ⟨_, rfl, ifF rfl (rd_isD rfl (by decide) h2 ⟨_, rfl, ifF rfl (rd_isD rfl (by decide) h2 ⟨_, rfl, ifF rfl ?_⟩)⟩)⟩)⟩
        refine rd_isD rfl (by decide) h2 (rd_isD rfl (by decide) h1 ⟨rfl, _, rfl, ifF rfl (rd_isD rfl (by decide) h2 (rd_isD rfl (by decide) h1 ⟨rfl, _, rfl, ifF rfl ?_⟩))⟩)
        refine ⟨_, rfl, a, xs, rfl, .inl hs, _, rfl, b, ys, rfl, .inl ht, rfl, _, rfl, ifF (by rw [lx, ly]; simp) ?_⟩
        have hdep2 : PyData.depthAll ds + 1 ≤ n := by simpa only [PyData.depth] using hdep
        obtain ⟨hw1, hw2⟩ := Bool.and_eq_true_iff.mp (show (decide (ds.length < 100000) && wideA ds) = true from hwd)
        have hw3 := of_decide_eq_true hw1
        exact ⟨_, rfl, b, ys, rfl, .inl ht, (ys.length : Int), rfl, by omega, by omega, fun D hD => alike_all (.inl hs) (.inl ht) ha hb hdep2 hw2 (by omega) hD q⟩
end Mh
/-! MhRul2 -/
namespace Mh
open PySem PySem.Spec PyProof.Rows L2
/-! ### a dict beside the empty one -/
section
variable {X : Cx}
def rEqD0 : R2 := fun x y H Q => ∃ a b ks, x = .ref a ∧ y = .ref b ∧ Rd H a (.dK ks) ∧ H b = some (.dK []) ∧ Q (.bl ks.isEmpty) H
def rNeD0 : R2 := fun x y H Q => ∃ a b ks, x = .ref a ∧ y = .ref b ∧ Rd H a (.dK ks) ∧ H b = some (.dK []) ∧ Q (.bl (!ks.isEmpty)) H
theorem hits0 {P : Program} {w : World} {H : Hp} {h : Heap} {A : Around} {s : Shared} {va vb : List (Key × Value)} (e : vb = []) (hl : va.length = vb.length) : PySem.W.KeqHits A s vb va true := by
  subst e
  cases va with
  | nil => exact .nil
  | cons _ _ => cases hl
theorem op_eqD0 (hu : X.A.units < cLine) : OpR X (compareOp .Eq) rEqD0 := by
  intro pins s σ H x y v u Q I rx ry h
  obtain ⟨a, b, ks, rfl, rfl, ea, eb, q⟩ := h
  obtain rfl : v = Value.ref a := rx
  obtain rfl : u = Value.ref b := ry
  obtain ⟨_, ya, va, ra, da⟩ := (show ObjOk X.prog X.w H s.heap a (.dK ks) from ea.ok I.hok)
  obtain ⟨_, yb, vb, rb, db⟩ := (show ObjOk X.prog X.w H s.heap b (.dK []) from I.hok b _ eb)
  have e : vb = [] := by
    have := rb.length
    exact List.eq_nil_of_length_eq_zero (by rw [← this]; rfl)
  have hl : va.length = ks.length := ra.length.symm
  refine PySem.W.keq_eq (knd := mixKind X.prog X.w) (r := true) ya yb da db hu (fun z => ?_) (fin_bl I q ?_)
  · subst e
    cases va with
    | nil => exact .nil
    | cons _ _ => cases z
  · subst e
    cases ks with
    | nil =>
      cases va with
      | nil => rfl
      | cons _ _ => cases hl
    | cons _ _ =>
      cases va with
      | nil => cases hl
      | cons _ _ => rfl
theorem op_neD0 (hu : X.A.units < cLine) : OpR X (compareOp .NotEq) rNeD0 := by
  intro pins s σ H x y v u Q I rx ry h
  obtain ⟨a, b, ks, rfl, rfl, ea, eb, q⟩ := h
  obtain rfl : v = Value.ref a := rx
  obtain rfl : u = Value.ref b := ry
  obtain ⟨_, ya, va, ra, da⟩ := (show ObjOk X.prog X.w H s.heap a (.dK ks) from ea.ok I.hok)
  obtain ⟨_, yb, vb, rb, db⟩ := (show ObjOk X.prog X.w H s.heap b (.dK []) from I.hok b _ eb)
  have e : vb = [] := by
    have := rb.length
    exact List.eq_nil_of_length_eq_zero (by rw [← this]; rfl)
  have hl : va.length = ks.length := ra.length.symm
  refine PySem.W.keq_ne (knd := mixKind X.prog X.w) (r := true) ya yb da db hu (fun z => ?_) (fin_bl I q ?_)
  · subst e
    cases va with
    | nil => exact .nil
    | cons _ _ => cases z
  · subst e
    cases ks with
    | nil =>
      cases va with
      | nil => rfl
      | cons _ _ => cases hl
    | cons _ _ =>
      cases va with
      | nil => cases hl
      | cons _ _ => rfl
end
end Mh
/-! MhTab -/
namespace L2
open PySem PySem.Spec PyProof.Rows
section
variable {X : Cx} {d : Addr} {es : Array DictEntry} {n : Nat} {o e f : Expr} {apos cpos : Pos} {td ty tx : TE}
/-- D.get(k, z) of a dict of the written part -/
def tKDGet (K : PySem.W.Frag) (d : Addr) (td ty tx : TE) : TE := fun σ H Q => td σ H fun x H1 => x = .ref d ∧ ty σ H1 fun y H2 => tx σ H2 fun z H3 => ∃ (k : Str) (r : Option Value) (v : V), y = .str k ∧ PySem.W.nsIn K d k = some r ∧ (∀ u, r = some u → RelV v u) ∧ (r = none → v = z) ∧ Q v H3
theorem pe_kdget2 (D : KDict X.K X.w d es n) (ho : PE X o td) (he : PE X e ty) (hf : PE X f tx) (m : M2 X o "get" apos e f cpos) : PE X (.Call (.Attribute o "get" apos) [e, f] [] cpos) (tKDGet X.K d td ty tx) := by
  refine ⟨fun pins s σ H Q I h => ?_⟩
  refine wpAny_Call_method m.base m.few m.line PySem.F.plainAttrs_dict PySem.F.slot_dict_get PySem.F.type_dict_get (thn (ho.run pins s σ H _ I h) fun u s1 ⟨x, H1, I1, rx, ex, q1⟩ => ?_)
  subst ex
  obtain rfl : u = Value.ref d := rx
  refine ⟨kd_type D I1, fun b q => ?_, ?_⟩
  · cases q
    exact ⟨_, I1.kIn _ _ D.at_, rfl⟩
  rw [m.trees]
  refine Calls.callWith_builtin rfl (Calls.evalArgs_plain (Calls.spliced_cons (thn (he.run pins s1 σ H1 _ I1 q1) fun iv s2 ⟨y, H2, I2, ry, q2⟩ =>
    Calls.spliced_cons (thn (hf.run pins s2 σ H2 _ I2 q2) fun fv s3 ⟨z, H3, I3, rz, k, r, v, ey, en, h1, h2, q3⟩ => Calls.spliced_nil ?_))))
  subst ey
  obtain ⟨t, rfl⟩ := ry
  refine call_meetsIn PySem.F.slot_dict_get (kd_type D I3) PySem.F.entry_dict_get (PySem.F.args_dict_get_3 _ _ _) (meets_dict_get_default (strKind X.prog X.w) d (PySem.strKind_is X.prog X.w k t) D.low fv) ⟨_, PySem.W.mapOf_K (prog := X.prog) I3.kIn D.at_ D.lit, ?_⟩
  refine ⟨v, H3, I3.tok _, ?_, q3⟩
  have ef := PySem.W.find_K D.at_ en
  rw [ef]
  cases r with
  | none => rw [h2 rfl]; exact rz
  | some u => exact h1 u rfl
theorem kpe_kdget2 {K : PySem.W.Frag} {w : World} (hK : X.K = K) (hw : X.w = w) (D : KDict K w d es n) (ho : PE X o td) (he : PE X e ty) (hf : PE X f tx) (m : M2 X o "get" apos e f cpos) : PE X (.Call (.Attribute o "get" apos) [e, f] [] cpos) (tKDGet K d td ty tx) := by
  subst hK
  subst hw
  exact pe_kdget2 D ho he hf m
/-- read where the value is known -/
theorem rd_kd {K : PySem.W.Frag} {H : Hp} {Q : VK} {k : Str} {v : V} {u : Value} (z : V) (e : PySem.W.nsIn K d k = some (some u)) (r : RelV v u) (q : Q v H) : ∃ (k' : Str) (r : Option Value) (v : V), V.str k = .str k' ∧ PySem.W.nsIn K d k' = some r ∧ (∀ u, r = some u → RelV v u) ∧ (r = none → v = z) ∧ Q v H :=
  ⟨k, _, v, rfl, e, fun u' e' => by cases e'; exact r, (fun e' => nomatch e'), q⟩
end
end L2
/-! MhLit -/
namespace L2
open PySem PySem.Spec PyProof.Rows Mh
theorem PE.weak {X : Cx} {e : Expr} {t t' : TE} (h : PE X e t) (w : ∀ σ H Q, t' σ H Q → t σ H Q) : PE X e t' := ⟨fun pins s σ H Q I q => h.run pins s σ H Q I (w σ H Q q)⟩
theorem PA.weak {X : Cx} {es : List Expr} {a a' : TA} (h : PA X es a) (w : ∀ σ H Q, a' σ H Q → a σ H Q) : PA X es a' := ⟨fun p pins s σ H Q I q => h.run p pins s σ H Q I (w σ H Q q)⟩
theorem DpAll.app {K : PySem.W.Frag} {H : Hp} : ∀ {vs us : List V} {ds es : List PyData}, DpAll K H vs ds → DpAll K H us es → DpAll K H (vs ++ us) (ds ++ es)
  | _, _, _, _, .nil, h => h
  | _, _, _, _, .cons r t, h => .cons r (DpAll.app t h)
end L2
namespace Mh
open PySem PySem.Spec PyProof.Rows L2
/-! ### written data, read at once -/
/-- v is d, whatever of the older things is changed -/
def DpF (K : PySem.W.Frag) (H0 H : Hp) (v : V) (d : PyData) : Prop := ∀ (M : List Addr) (H' : Hp), (∀ z ∈ M, H0 z ≠ none) → Fx M H H' → Dp K H' v d
def DpFA (K : PySem.W.Frag) (H0 H : Hp) (vs : List V) (ds : List PyData) : Prop := ∀ (M : List Addr) (H' : Hp), (∀ z ∈ M, H0 z ≠ none) → Fx M H H' → DpAll K H' vs ds
section
variable {K : PySem.W.Frag} {M : List Addr} {H H0 H1 H' : Hp} {v : V} {d : PyData} {vs : List V} {ds : List PyData}
theorem DpF.dp (h : DpF K H0 H v d) : Dp K H v d := h [] H (fun _ m => nomatch m) .refl
theorem DpFA.dp (h : DpFA K H0 H vs ds) : DpAll K H vs ds := h [] H (fun _ m => nomatch m) .refl
theorem Fx.app {M N : List Addr} (f : Fx M H H1) (g : Fx N H1 H') : Fx (M ++ N) H H' := (f.mono fun _ m => List.mem_append_left _ m).trans (g.mono fun _ m => List.mem_append_right _ m)
theorem DpF.mv (h : DpF K H0 H v d) (hM : ∀ z ∈ M, H0 z ≠ none) (f : Fx M H H') : DpF K H0 H' v d := fun N H2 hN g => h (M ++ N) H2 (fun z m => (List.mem_append.mp m).elim (hM z) (hN z)) (f.app g)
theorem DpFA.mv (h : DpFA K H0 H vs ds) (hM : ∀ z ∈ M, H0 z ≠ none) (f : Fx M H H') : DpFA K H0 H' vs ds := fun N H2 hN g => h (M ++ N) H2 (fun z m => (List.mem_append.mp m).elim (hM z) (hN z)) (f.app g)
theorem DpF.up (h : DpF K H0 H v d) (f : Fx [] H H') : DpF K H0 H' v d := h.mv (M := []) (fun _ m => nomatch m) f
theorem DpFA.up (h : DpFA K H0 H vs ds) (f : Fx [] H H') : DpFA K H0 H' vs ds := h.mv (M := []) (fun _ m => nomatch m) f
theorem DpF.since (h : DpF K H1 H v d) (f : Fx M H0 H1) : DpF K H0 H v d := fun N H2 hN g => h N H2 (fun z m e => hN z m (f.d z e)) g
theorem DpFA.since (h : DpFA K H1 H vs ds) (f : Fx M H0 H1) : DpFA K H0 H vs ds := fun N H2 hN g => h N H2 (fun z m e => hN z m (f.d z e)) g
theorem DpF.ofN (h : Dp K H v d) (n : nol d = true) : DpF K H0 H v d := fun _ _ _ g => h.mv g n
theorem DpFA.ofN (h : DpAll K H vs ds) (n : nolA ds = true) : DpFA K H0 H vs ds := fun _ _ _ g => h.mv g n
theorem DpFA.nil : DpFA K H0 H [] [] := fun _ _ _ _ => .nil
theorem DpFA.cons (a : DpF K H0 H v d) (b : DpFA K H0 H vs ds) : DpFA K H0 H (v :: vs) (d :: ds) := fun M H' hM g => .cons (a M H' hM g) (b M H' hM g)
theorem DpFA.app {us : List V} {es : List PyData} (a : DpFA K H0 H vs ds) (b : DpFA K H0 H us es) : DpFA K H0 H (vs ++ us) (ds ++ es) := fun M H' hM g => DpAll.app (a M H' hM g) (b M H' hM g)
theorem DpFA.len (a : DpFA K H0 H vs ds) : vs.length = ds.length := a.dp.len
theorem DpFA.at {i : Nat} (a : DpFA K H0 H vs ds) (e : ds[i]? = some d) : ∃ v, vs[i]? = some v ∧ DpF K H0 H v d := by
  obtain ⟨v, hv, _⟩ := a.dp.at e
  refine ⟨v, hv, fun M H' hM g => ?_⟩
  obtain ⟨d2, h2, h3⟩ := (a M H' hM g).get hv
  rw [e] at h2
  cases h2
  exact h3
theorem DpFA.get {i : Nat} (a : DpFA K H0 H vs ds) (e : vs[i]? = some v) : ∃ d, ds[i]? = some d ∧ DpF K H0 H v d := by
  obtain ⟨d, hd, _⟩ := a.dp.get e
  refine ⟨d, hd, fun M H' hM g => ?_⟩
  obtain ⟨d2, h2, h3⟩ := (a M H' hM g).get e
  rw [hd] at h2
  cases h2
  exact h3
theorem DpF.lst {p : Addr} (h0 : H0 p = none) (hp : H p = some (.lst vs)) (a : DpFA K H0 H vs ds) : DpF K H0 H (.ref p) (.list ds) := fun M H' hM g =>
  .lst (SqL.of (g.to hp fun m => hM p m h0)) (a M H' hM g)
theorem DpF.tup {p : Addr} (hp : SqT K H p vs) (a : DpFA K H0 H vs ds) : DpF K H0 H (.ref p) (.tuple ds) := fun M H' hM g => .tup (g.sqT hp) (a M H' hM g)
end
abbrev LF := L2.St → Hp → PyData → Prop
abbrev LFs := L2.St → Hp → List PyData → Prop
def tDat (K : PySem.W.Frag) (f : LF) : TE := fun σ H Q => ∃ d, f σ H d ∧ ∀ H' v, Fx [] H H' → DpF K H H' v d → Q v H'
def tDats (K : PySem.W.Frag) (f : LFs) : TA := fun σ H Q => ∃ ds, f σ H ds ∧ ∀ H' vs, Fx [] H H' → DpFA K H H' vs ds → Q vs H'
def tInt (f : L2.St → Int → Prop) : TE := fun σ H Q => ∃ n, f σ n ∧ Q (.int n) H
structure PD (X : Cx) (K : PySem.W.Frag) (e : Expr) (f : LF) : Prop where
  run : PE X e (tDat K f)
  mono : ∀ σ H H' d, Fx [] H H' → f σ H d → f σ H' d
structure PDs (X : Cx) (K : PySem.W.Frag) (es : List Expr) (f : LFs) : Prop where
  run : PA X es (tDats K f)
  mono : ∀ σ H H' d, Fx [] H H' → f σ H d → f σ H' d
  len : ∀ σ H ds, f σ H ds → ds.length = es.length
section
variable {X : Cx} {K : PySem.W.Frag} {e e1 e2 : Expr} {es : List Expr} {t t' : TE} {f : LF} {fs : LFs} {j : Option Str} {pos : Pos} {fi fj : L2.St → Int → Prop}
theorem pd_c {v : V} {d : PyData} (h : PE X e (tC v)) (hd : ∀ H, Dp K H v d) (n : nol d = true) : PD X K e (fun _ _ x => x = d) :=
  ⟨h.weak fun σ H Q ⟨x, ex, q⟩ => by subst ex; exact q H v .refl (.ofN (hd H) n), fun _ _ _ _ _ h => h⟩
theorem pdi_c {i : Int} (h : PE X e (tC (.int i))) : PE X e (tInt fun _ n => n = i) := h.weak fun σ H Q ⟨n, en, q⟩ => by subst en; exact q
theorem pdi_var {i : Nat} (h : PE X e (tVar i)) : PE X e (tInt fun σ n => σ[i]? = some (some (.int n))) := h.weak fun σ H Q ⟨n, en, q⟩ => ⟨_, en, q⟩
theorem pdi_neg (ha : PE X e1 (tInt fi)) : PE X (.UnaryOp .USub e1 pos) (tInt fun σ n => ∃ x, n = -x ∧ fi σ x) := (pe_un un_neg ha).weak fun σ H Q ⟨n, ⟨x, en, hx⟩, q⟩ => by subst en; exact ⟨x, hx, x, rfl, q⟩
theorem pdi_add (ha : PE X e1 (tInt fi)) (hb : PE X e2 (tInt fj)) : PE X (.BinOp e1 .Add e2 pos) (tInt fun σ n => ∃ x y, n = x + y ∧ fi σ x ∧ fj σ y) := (pe_op op_add ha hb).weak fun σ H Q ⟨n, ⟨x, y, en, hx, hy⟩, q⟩ => by subst en; exact ⟨x, hx, y, hy, x, y, rfl, rfl, q⟩
theorem pdi_sub (ha : PE X e1 (tInt fi)) (hb : PE X e2 (tInt fj)) : PE X (.BinOp e1 .Sub e2 pos) (tInt fun σ n => ∃ x y, n = x - y ∧ fi σ x ∧ fj σ y) := (pe_op op_sub ha hb).weak fun σ H Q ⟨n, ⟨x, y, en, hx, hy⟩, q⟩ => by subst en; exact ⟨x, hx, y, hy, x, y, rfl, rfl, q⟩
theorem pd_ofi (h : PE X e (tInt fi)) : PD X K e (fun σ _ d => ∃ n, d = .int n ∧ fi σ n) :=
  ⟨h.weak fun σ H Q ⟨d, ⟨n, ed, hn⟩, q⟩ => by subst ed; exact ⟨n, hn, q H _ .refl (.ofN (.int n) rfl)⟩, fun _ _ _ _ _ h => h⟩
theorem pd_var {i : Nat} (h : PE X e (tVar i)) : PD X K e (fun σ H d => ∃ v, σ[i]? = some (some v) ∧ Dp K H v d ∧ nol d = true) :=
  ⟨h.weak fun σ H Q ⟨d, ⟨v, ev, hd, n⟩, q⟩ => ⟨v, ev, q H v .refl (.ofN hd n)⟩, fun _ _ _ _ f ⟨v, ev, hd, n⟩ => ⟨v, ev, hd.mv f n, n⟩⟩
theorem pds_nil : PDs X K [] (fun _ _ ds => ds = []) :=
  ⟨pa_nil.weak fun σ H Q ⟨ds, ed, q⟩ => by subst ed; exact q H [] .refl .nil, fun _ _ _ _ _ h => h, fun _ _ _ h => by subst h; rfl⟩
theorem pds_cons (h : PD X K e f) (hr : PDs X K es fs) (hs : starEach (e :: es) X.env = (false, eval e X.env) :: starEach es X.env := by rfl) : PDs X K (e :: es) (fun σ H ds => ∃ d dr, ds = d :: dr ∧ f σ H d ∧ fs σ H dr) :=
  ⟨(pa_cons h.run hr.run hs).weak fun σ H Q ⟨ds, ⟨d, dr, ed, h1, h2⟩, q⟩ => by
      subst ed
      exact ⟨d, h1, fun H1 v f1 k1 => ⟨dr, hr.mono _ _ _ _ f1 h2, fun H2 vs f2 k2 => q H2 (v :: vs) (f1.trans f2) (.cons (k1.up f2) (k2.since f1))⟩⟩,
    fun σ H H' ds g ⟨d, dr, ed, h1, h2⟩ => ⟨d, dr, ed, h.mono _ _ _ _ g h1, hr.mono _ _ _ _ g h2⟩, fun σ H ds ⟨d, dr, ed, _, h2⟩ => by rw [ed, List.length_cons, List.length_cons, hr.len _ _ _ h2]⟩
theorem pd_tup {x1} (h : PDs X K es fs) (hl : es.length ≤ 1000 := by decide) : PD X K (.Tuple es x1 pos) (fun σ H d => ∃ ds, d = .tuple ds ∧ fs σ H ds) :=
  ⟨(pe_tup h.run).weak fun σ H Q ⟨d, ⟨ds, ed, h1⟩, q⟩ => by
      subst ed
      refine ⟨ds, h1, fun H1 vs f1 k1 => ⟨by rw [k1.len, h.len _ _ _ h1]; exact Nat.le_trans hl (by decide), fun p hp => ?_⟩⟩
      have f2 : Fx [] H1 (upd H1 p (.tup vs)) := Fx.new hp
      exact q _ _ (f1.trans f2) (.tup (SqT.of upd_same) (k1.up f2)),
    fun σ H H' d g ⟨ds, ed, h1⟩ => ⟨ds, ed, h.mono _ _ _ _ g h1⟩⟩
theorem pd_lst (h : PDs X K es fs) (hl : es.length ≤ 1000 := by decide) : PD X K (.List es pos) (fun σ H d => ∃ ds, d = .list ds ∧ fs σ H ds) :=
  ⟨(pe_lst h.run).weak fun σ H Q ⟨d, ⟨ds, ed, h1⟩, q⟩ => by
      subst ed
      refine ⟨ds, h1, fun H1 vs f1 k1 => ⟨by rw [k1.len, h.len _ _ _ h1]; exact Nat.le_trans hl (by decide), fun p hp => ?_⟩⟩
      have f2 : Fx [] H1 (upd H1 p (.lst vs)) := Fx.new hp
      exact q _ _ (f1.trans f2) (.lst (f1.d p hp) upd_same (k1.up f2)),
    fun σ H H' d g ⟨ds, ed, h1⟩ => ⟨ds, ed, h.mono _ _ _ _ g h1⟩⟩
/-- a written list, its items told -/
def tLit (K : PySem.W.Frag) (fs : LFs) : TE := fun σ H Q => ∃ ds, fs σ H ds ∧ ∀ H' vs p, Fx [] H H' → H p = none → H' p = some (.lst vs) → DpFA K H H' vs ds → Q (.ref p) H'
theorem pe_lit (h : PDs X K es fs) (hl : es.length ≤ 1000 := by decide) : PE X (.List es pos) (tLit K fs) :=
  (pe_lst h.run).weak fun σ H Q ⟨ds, h1, q⟩ => by
      refine ⟨ds, h1, fun H1 vs f1 k1 => ⟨by rw [k1.len, h.len _ _ _ h1]; exact Nat.le_trans hl (by decide), fun p hp => ?_⟩⟩
      have f2 : Fx [] H1 (upd H1 p (.lst vs)) := Fx.new hp
      exact q _ vs p (f1.trans f2) (f1.d p hp) upd_same (k1.up f2)
end
end Mh
/-! MhText -/
namespace Mh
open PySem PySem.Spec PyProof.Rows L2 TL
/-! ### numbers as texts -/
def wS (i : Int) : Str := Str.ofString (toString i)
def wL (i : Int) : List Nat := if 0 ≤ i then numL i.toNat else 45 :: numL (-i).toNat
theorem tl_wS (i : Int) : tl (wS i) = wL i := by
  unfold wS wL
  by_cases h : 0 ≤ i
  · rw [if_pos h]
    obtain ⟨n, rfl⟩ : ∃ n : Nat, i = ((n : Nat) : Int) := ⟨i.toNat, by omega⟩
    rw [Int.toNat_natCast]
    exact tl_num n
  · rw [if_neg h]
    obtain ⟨n, rfl⟩ : ∃ n : Nat, i = Int.negSucc n := ⟨(-i).toNat - 1, by omega⟩
    have e : toString (Int.negSucc n) = "-" ++ Nat.repr (n + 1) := rfl
    rw [e, tl_ofString, String.toList_append, List.map_append]
    have e2 := tl_num (n + 1)
    rw [tl_ofString] at e2
    have e3 : (toString (((n + 1 : Nat)) : Int)) = Nat.repr (n + 1) := rfl
    rw [e3] at e2
    rw [e2]
    rfl
theorem wL_sane {i : Int} {s : Nat} (h : s ≠ 45) (h2 : s < 48 ∨ 57 < s) : s ∉ wL i := by
  unfold wL
  split
  · exact numL_free h2
  · intro m
    rcases List.mem_cons.mp m with e | m
    · exact h e
    · exact numL_free h2 m
theorem wL_ne (i : Int) : wL i ≠ [] := by
  unfold wL
  split
  · exact numL_ne _
  · exact fun z => nomatch z
theorem wL_len {i : Int} (h : -9999 ≤ i ∧ i ≤ 9999) : (wL i).length ≤ 5 := by
  unfold wL
  split
  · exact Nat.le_trans (numL_len (k := 4) (by decide) (by omega)) (by decide)
  · have := numL_len (n := (-i).toNat) (k := 4) (by decide) (by omega)
    simp only [List.length_cons]
    omega
theorem wS_len {i : Int} (h : -9999 ≤ i ∧ i ≤ 9999) : (wS i).length ≤ 5 := by
  rw [len_tl, tl_wS]
  exact wL_len h
theorem int_wS {i : Int} (h : -9999 ≤ i ∧ i ≤ 9999) : intText? (wS i) = some i := by
  by_cases h0 : 0 ≤ i
  · obtain ⟨n, rfl⟩ : ∃ n : Nat, i = ((n : Nat) : Int) := ⟨i.toNat, by omega⟩
    exact int_num (Nat.le_trans (numL_len (k := 4) (by decide) (by omega)) (by decide))
  · have e : (wS i).cps.toList = 45 :: numL (-i).toNat := by
      have := tl_wS i
      unfold wL at this
      rw [if_neg h0] at this
      exact this
    rw [intText_neg e (numL_digits _) (numL_ne _) (Nat.le_trans (wS_len h) (by decide)), numL_val]
    exact congrArg some (by omega)
end Mh
/-! MhPart -/
namespace Mh
open PySem PySem.Spec PyProof.Rows L2 TL
/-! ### a test or an answer: a word, and what stands behind it -/
inductive Thing where
  | n (i : Int) | k (ns : List Int)
def Thing.d : Thing → PyData
  | .n i => .int i
  | .k ns => .tuple (ns.map .int)
def comma : Str := ","
def blank : Str := " "
def Thing.s : Thing → Str
  | .n i => wS i
  | .k ns => Txt.join comma (ns.map wS)
def Thing.ok : Thing → Prop
  | .n i => -9999 ≤ i ∧ i ≤ 9999
  | .k ns => ns.length ≤ 8 ∧ ∀ i ∈ ns, -9999 ≤ i ∧ i ≤ 9999
structure Part where
  w : Str
  ts : List Thing
def Part.d (p : Part) : PyData := .tuple (.str p.w :: p.ts.map Thing.d)
def Part.words (p : Part) : List Str := p.w :: p.ts.map Thing.s
structure Part.ok (p : Part) : Prop where
  w : p.w.length ≤ 10
  len : p.ts.length ≤ 3
  ts : ∀ t ∈ p.ts, t.ok
theorem log2_ok {i : Int} (h : -9999 ≤ i ∧ i ≤ 9999) : i.natAbs.log2 < 1920 := by
  have h1 : i.natAbs ≤ 9999 := by omega
  by_cases h0 : i.natAbs = 0
  · rw [h0]
    decide
  · have : i.natAbs.log2 < 14 := (Nat.log2_lt h0).mpr (Nat.lt_of_le_of_lt h1 (by decide))
    omega
theorem sum_wS : ∀ {ns : List Int}, (∀ i ∈ ns, -9999 ≤ i ∧ i ≤ 9999) → ((ns.map wS).map (·.length)).sum ≤ 5 * ns.length
  | [], _ => by simp
  | i :: ns, h => by
    have h1 := wS_len (h i List.mem_cons_self)
    have h2 := sum_wS (ns := ns) fun j hj => h j (List.mem_cons_of_mem _ hj)
    simp only [List.map_cons, List.sum_cons, List.length_cons] at h2 ⊢
    omega
theorem sc_part_words : FnScope ["part", "found", "thing", "one"] ["part"] (defScope s_part_words) := ⟨rfl, rfl, rfl, by decide +kernel, rfl, by decide +kernel, by decide +kernel⟩
def spPartWords (K : PySem.W.Frag) : Sp := fun vs H Q _ => ∃ (v : V) (p : Part), vs = [v] ∧ Dp K H v p.d ∧ p.ok ∧ ∀ (H' : Hp) (a : Addr), Fx [] H H' → H a = none → H' a = some (.lst (p.words.map V.str)) → Q (.ref a) H'
theorem ok_part_words {P : Program} {w : World} {K : PySem.W.Frag} {mg : Str → Option Value} {base : Heap} (T : Tx K mg) : Def P w K mg base CX0 1 "part_words" ["part"] (spPartWords K) := by
  obtain ⟨fd, F⟩ := T.d_part_words
  refine ⟨_, fd, F.ok sc_part_words (fun vs H Q E h => ?_) (fun cdv A outer s H vs Q E hr h => ?_), F.bindsN fun _ _ _ _ _ _ us hl => match us, hl with | [_], _ => rfl, T.g_part_words, F.kp⟩
  · obtain ⟨v, p, rfl, _⟩ := h
    rfl
  · obtain ⟨v, p, rfl, hd, hp, q⟩ := h
    refine ⟨_, PSs.nox (pss_cons (ps_set (i := 1) sc_part_words.nd rfl (by first | exact Or.inl rfl | exact Or.inr rfl) (pe_lst (pa_cons (pe_ix ix_tup (pv 0) pe_int (fun _ _ => rfl)) pa_nil)))
        (pss_cons (ps_for PassesOwn.never rfl (pi_tup (pe_slice sl_tup (pv 0) (po_some pe_int) po_none)) (pg_name (i := 2) sc_part_words.nd rfl (by first | exact Or.inl rfl | exact Or.inr rfl))
        (pss_one (ps_expr (pe_bm PySem.F.plainAttrs_list PySem.F.slot_list_append PySem.F.type_list_append mt_append (pv 1) (pa_cons (pe_ifExp (pt_val (pe_callB call_isiD (by rfl) T.f_isinstance (by decide +kernel) (pa_cons (pv 2) (pa_cons (gT (n := "tuple") T.f_tuple) pa_nil)))) (pe_join pe_str (pe_lc (own := [("one", 3)]) (g := (gName 3)) (tt := tYes) rfl sc_part_words.nd (pi_tup (pv 2)) (blkOk_by (own := [("one", 3)]) (N := ["part", "found", "thing", "one"]) (sc := defScope s_part_words) (by decide +kernel)) (fun _ _ _ _ _ => pg_name (i := 3) sc_part_words.nd rfl (by first | exact Or.inl rfl | exact Or.inr rfl)) (fun _ _ _ _ _ => pts_nil) (fun _ _ _ _ _ => (pe_callTy call_str_int (by rfl) T.f_str (by decide +kernel) (pa_cons (pv 3) pa_nil))))) (pe_callTy call_str_int (by rfl) T.f_str (by decide +kernel) (pa_cons (pv 2) pa_nil))) pa_nil)))))
        (pss_one (ps_ret (pv 1))))), ?_⟩
    obtain ⟨a, xs, rfl, hs, hx⟩ := hd.tupI
    obtain ⟨w0, vs, rfl, hw0, hvs⟩ : ∃ w0 vs, xs = w0 :: vs ∧ Dp K H w0 (.str p.w) ∧ DpAll K H vs (p.ts.map Thing.d) := by
      cases hx with | cons h t => exact ⟨_, _, rfl, h, t⟩
    cases hw0
    have hvl : vs.length = p.ts.length := by rw [hvs.len, List.length_map]
    have hpl := hp.len
    refine rd_ixT (j := 0) rfl hs rfl ⟨by show 1 ≤ sizeLine; decide, fun fp hfp => ?_⟩
    have f1 : Fx [] H (upd H fp (.lst [.str p.w])) := Fx.new hfp
    have hf1 : upd H fp (.lst [.str p.w]) fp = some (.lst ((p.words.take 1).map V.str)) := upd_same
    generalize upd H fp (.lst [.str p.w]) = H1 at f1 hf1
    refine ⟨_, rfl, 1, rfl, a, _, rfl, f1.sqT hs, ?_, fun pp hpp => ?_⟩
    · rw [HT.sIx_none, show HT.sIx (V.str p.w :: vs).length 0 (some 1) = min 1 (V.str p.w :: vs).length from HT.sIx_nat _ 0 1]
      simp only [List.length_cons]
      omega
    have ecut : cutV (V.str p.w :: vs) (some 1) none = vs := by
      unfold cutV
      rw [HT.sIx_none, show HT.sIx (V.str p.w :: vs).length 0 (some 1) = min 1 (V.str p.w :: vs).length from HT.sIx_nat _ 0 1, show min 1 (V.str p.w :: vs).length = 1 by simp only [List.length_cons]; omega]
      simp
    rw [ecut]
    have f2 : Fx [] H1 (upd H1 pp (.tup vs)) := Fx.new hpp
    have hvt : SqT K (upd H1 pp (.tup vs)) pp vs := SqT.of upd_same
    have hf2 := f2.to hf1 (fun z => nomatch z)
    have f12 := f1.trans f2
    generalize upd H1 pp (.tup vs) = H2 at f2 hvt hf2 f12
    refine ⟨pp, rfl, ⟨vs, hvt⟩, for_it (walk_tup (xs := vs)) (fun i σ' H' => ∃ y2, σ' = [some (.ref a), some (.ref fp), y2, none] ∧ Fx [] H H' ∧ SqT K H' pp vs ∧ H' fp = some (.lst ((p.words.take (i + 1)).map V.str))) ⟨none, rfl, f12, hvt, hf2⟩ (fun i σ' H' _ ⟨_, _, _, h, _⟩ => h) (fun i x σ' H3 H4 hi hP y => ?_) (fun σ' H' hP => ?_)⟩
    · obtain ⟨y2, rfl, f, hvt3, hf3⟩ := hP
      obtain ⟨rfl, hxg⟩ := y
      obtain ⟨d, g1, g2⟩ := hvs.get hxg
      rw [List.getElem?_map] at g1
      obtain ⟨t, ht, rfl⟩ := Option.map_eq_some_iff.mp g1
      have hto := hp.ts t (List.mem_of_getElem? ht)
      have g3 := g2.ext f
      have hwi : p.words[i + 1]? = some t.s := by
        show (p.ts.map Thing.s)[i]? = _
        rw [List.getElem?_map, ht]
        rfl
      have hwl : ((p.words.take (i + 1)).map V.str).length ≤ 1000 := by
        rw [List.length_map, List.length_take]
        omega
      have fin : ∀ Hx, Fx [] H4 Hx → ∃ y2, ([some (.ref a), some (.ref fp), some x, none] : L2.St) = [some (.ref a), some (.ref fp), y2, none] ∧ Fx [] H (upd Hx fp (.lst ((p.words.take (i + 1)).map V.str ++ [.str t.s]))) ∧ SqT K (upd Hx fp (.lst ((p.words.take (i + 1)).map V.str ++ [.str t.s]))) pp vs ∧ upd Hx fp (.lst ((p.words.take (i + 1)).map V.str ++ [.str t.s])) fp = some (.lst ((p.words.take (i + 1 + 1)).map V.str)) := fun Hx fx => by
        have hfx := fx.to hf3 (fun z => nomatch z)
        have fD : Fx [fp] Hx (upd Hx fp (.lst ((p.words.take (i + 1)).map V.str ++ [.str t.s]))) := Fx.set List.mem_cons_self (Chg.lst hfx)
        refine ⟨_, rfl, (f.trans fx).loc hfp (Chg.lst hfx), fD.sqT (fx.sqT hvt3), ?_⟩
        have e : p.words.take (i + 1 + 1) = p.words.take (i + 1) ++ [t.s] := by
          rw [List.take_add_one (i := i + 1), hwi]
          rfl
        rw [upd_same, e, List.map_append]
        rfl
      refine ⟨_, rfl, .inl ⟨rfl, _, SqL.of hf3⟩, rd_isD rfl (by decide) g3 ⟨_, rfl, ?_⟩⟩
      cases t with
      | n k =>
        cases g3
        refine ifF rfl ⟨_, rfl, k, rfl, log2_ok hto, ⟨fp, _, _, rfl, rfl, hf3, Nat.lt_of_le_of_lt hwl (by decide), fin _ .refl⟩⟩
      | k ns =>
        obtain ⟨b, zs, rfl, hb, hz⟩ := g3.tupI
        obtain rfl := DpAll.intsI hz
        refine ifT rfl ⟨⟨_, rfl⟩, _, rfl, b, rfl, ⟨_, hb⟩, fun D hD => lc_map (walk_tup (xs := ns.map V.int)) (fun i => .str (wS (ns.getD i 0))) (by rw [List.length_map]; have := hto.1; omega) hD (fun H5 f5 => f5.sqT hb) (fun _ _ _ _ y => YAt.fx y) (fun i x H5 H6 Qe Z hi f5 y k => ?_) (fun H5 f5 hL => ?_)⟩
        · obtain ⟨rfl, hxg⟩ := y
          rw [List.getElem?_map] at hxg
          obtain ⟨j, hj, rfl⟩ := Option.map_eq_some_iff.mp hxg
          refine ⟨rfl, ifT rfl ⟨_, rfl, j, rfl, log2_ok (hto.2 j (List.mem_of_getElem? hj)), ?_⟩⟩
          have ej : ns.getD i 0 = j := getD_of hj
          rw [ej] at k
          exact k _ .refl
        · have eL : (List.range (ns.map V.int).length).map (fun i => V.str (wS (ns.getD i 0))) = (ns.map wS).map V.str := by
            rw [List.length_map]
            refine List.ext_getElem? fun j => ?_
            rw [List.getElem?_map, List.getElem?_map, List.getElem?_map]
            by_cases c : j < ns.length
            · rw [List.getElem?_range c, List.getElem?_eq_getElem c]
              have : ns.getD j 0 = ns[j] := getD_of (List.getElem?_eq_getElem c)
              show some (V.str (wS (ns.getD j 0))) = some (V.str (wS ns[j]))
              rw [this]
            · rw [List.getElem?_eq_none (by simp; omega), List.getElem?_eq_none (by omega)]
              rfl
          rw [eL] at hL
          have hsum := sum_wS hto.2
          have h8 := hto.1
          refine ⟨comma, D, ns.map wS, rfl, rfl, .inl (SqL.of hL), ?_, ⟨fp, _, _, rfl, rfl, f5.to hf3 (fun z => nomatch z), Nat.lt_of_le_of_lt hwl (by decide), fin _ f5⟩⟩
          rw [List.length_map]
          show _ + ns.length * 1 ≤ 16777216
          omega
    · obtain ⟨y2, rfl, f, hvt3, hf3⟩ := hP
      have e : p.words.take (vs.length + 1) = p.words := by
        refine List.take_of_length_le ?_
        show (p.ts.map Thing.s).length + 1 ≤ _
        rw [List.length_map, hvl]
        exact Nat.le_refl _
      rw [e] at hf3
      exact ⟨_, rfl, q _ fp f hfp hf3⟩
end Mh
/-! MhPart2 -/
namespace Mh
open PySem PySem.Spec PyProof.Rows L2 TL
theorem joinL_app (S : List Nat) : ∀ {ps qs : List (List Nat)}, ps ≠ [] → qs ≠ [] → joinL S (ps ++ qs) = joinL S ps ++ (S ++ joinL S qs)
  | [], _, h, _ => absurd rfl h
  | [p], q :: qs, _, _ => rfl
  | p :: p2 :: ps, qs, _, h2 => by
    show p ++ (S ++ joinL S (p2 :: ps ++ qs)) = (p ++ (S ++ joinL S (p2 :: ps))) ++ (S ++ joinL S qs)
    rw [joinL_app S (List.cons_ne_nil _ _) h2]
    simp only [List.append_assoc]
theorem joinL_len (S : List Nat) (m : Nat) : ∀ {ps : List (List Nat)}, (∀ p ∈ ps, p.length ≤ m) → (joinL S ps).length ≤ ps.length * (m + S.length)
  | [], _ => by simp [joinL]
  | [p], h => by
    have := h p List.mem_cons_self
    simp [joinL]
    omega
  | p :: p2 :: ps, h => by
    have h1 := h p List.mem_cons_self
    have h2 := joinL_len S m (ps := p2 :: ps) fun q hq => h q (List.mem_cons_of_mem _ hq)
    show (p ++ (S ++ joinL S (p2 :: ps))).length ≤ _
    rw [List.length_append, List.length_append, List.length_cons, Nat.succ_mul]
    omega
def jb (ws : List Str) : Str := Txt.join blank ws
theorem tl_jb (ws : List Str) : tl (jb ws) = joinL [32] (ws.map tl) := by
  unfold jb
  rw [join_eq, tl_join]
  rfl
theorem jb_app {ws vs : List Str} (h1 : ws ≠ []) (h2 : vs ≠ []) : jb (ws ++ vs) = jb ws ++ blank ++ jb vs := by
  refine ext_tl ?_
  rw [tl_append, tl_append, tl_jb, tl_jb, tl_jb, List.map_append, joinL_app _ (by simpa using h1) (by simpa using h2), List.append_assoc]
  rfl
theorem jb_one (w : Str) : jb [w] = w := ext_tl (by rw [tl_jb]; rfl)
theorem jb_len {ws : List Str} (h : ∀ w ∈ ws, w.length ≤ 60) : (jb ws).length ≤ ws.length * 61 := by
  rw [len_tl, tl_jb]
  refine Nat.le_trans (joinL_len [32] 60 fun p hp => ?_) (by rw [List.length_map]; exact Nat.le_refl _)
  obtain ⟨w, hw, rfl⟩ := List.mem_map.mp hp
  rw [← len_tl]
  exact h w hw
theorem Thing.s_len {t : Thing} (h : t.ok) : t.s.length ≤ 60 := by
  cases t with
  | n i => exact Nat.le_trans (wS_len h) (by decide)
  | k ns =>
    show (Txt.join comma (ns.map wS)).length ≤ 60
    rw [len_tl, join_eq, tl_join]
    refine Nat.le_trans (joinL_len (tl comma) 5 fun p hp => ?_) ?_
    · obtain ⟨w, hw, rfl⟩ := List.mem_map.mp hp
      obtain ⟨i, hi, rfl⟩ := List.mem_map.mp hw
      rw [tl_wS]
      exact wL_len (h.2 i hi)
    · rw [List.length_map, List.length_map]
      show ns.length * (5 + 1) ≤ 60
      have := h.1
      omega
theorem Part.words_len {p : Part} (h : p.ok) : ∀ w ∈ p.words, w.length ≤ 60 := fun w hw => by
  rcases List.mem_cons.mp hw with rfl | hw
  · exact Nat.le_trans h.w (by decide)
  · obtain ⟨t, ht, rfl⟩ := List.mem_map.mp hw
    exact Thing.s_len (h.ts t ht)
theorem sc_l_words : FnScope ["_law_part", "_law_found", "_law_thing", "_law_some", "_law_one"] ["_law_part"] (defScope s_l_words) := ⟨rfl, rfl, rfl, by decide +kernel, rfl, by decide +kernel, by decide +kernel⟩
def spLWords (K : PySem.W.Frag) : Sp := fun vs H Q _ => ∃ (v : V) (p : Part), vs = [v] ∧ Dp K H v p.d ∧ p.ok ∧ ∀ (H' : Hp), Fx [] H H' → Q (.str (jb p.words)) H'
theorem ok_l_words {P : Program} {w : World} {K : PySem.W.Frag} {mg : Str → Option Value} {base : Heap} (T : Tx K mg) : Def P w K mg base CX0 1 "_law_words" ["_law_part"] (spLWords K) := by
  obtain ⟨fd, F⟩ := T.d_l_words
  refine ⟨_, fd, F.ok sc_l_words (fun vs H Q E h => ?_) (fun cdv A outer s H vs Q E hr h => ?_), F.bindsN fun _ _ _ _ _ _ us hl => match us, hl with | [_], _ => rfl, T.g_l_words, F.kp⟩
  · obtain ⟨v, p, rfl, _⟩ := h
    rfl
  · obtain ⟨v, p, rfl, hd, hp, q⟩ := h
    refine ⟨_, PSs.nox (pss_cons (ps_set (i := 1) sc_l_words.nd rfl (by first | exact Or.inl rfl | exact Or.inr rfl) (pe_ix ix_tup (pv 0) pe_int (fun _ _ => rfl)))
        (pss_cons (ps_for PassesOwn.never rfl (pi_tup (pe_slice sl_tup (pv 0) (po_some pe_int) po_none)) (pg_name (i := 2) sc_l_words.nd rfl (by first | exact Or.inl rfl | exact Or.inr rfl))
        (Evl.pss_cut (ps_set (i := 3) sc_l_words.nd rfl (by first | exact Or.inl rfl | exact Or.inr rfl) (pe_ifExp (pt_val (pe_callB call_isiD (by rfl) T.f_isinstance (by decide +kernel) (pa_cons (pv 2) (pa_cons (gT (n := "tuple") T.f_tuple) pa_nil)))) (pe_callTy call_list_of (by rfl) T.f_list (by decide +kernel) (pa_cons (pv 2) pa_nil)) (pe_lst (pa_cons (pv 2) pa_nil))))
        (pss_one (ps_set (i := 1) sc_l_words.nd rfl (by first | exact Or.inl rfl | exact Or.inr rfl) (pe_op op_add_str (pe_op op_add_str (pv 1) pe_str) (pe_join pe_str (pe_lc (own := [("_law_one", 4)]) (g := (gName 4)) (tt := tYes) rfl sc_l_words.nd (pi_list (pv 3)) (blkOk_by (own := [("_law_one", 4)]) (N := ["_law_part", "_law_found", "_law_thing", "_law_some", "_law_one"]) (sc := defScope s_l_words) (by decide +kernel)) (fun _ _ _ _ _ => pg_name (i := 4) sc_l_words.nd rfl (by first | exact Or.inl rfl | exact Or.inr rfl)) (fun _ _ _ _ _ => pts_nil) (fun _ _ _ _ _ => (pe_callTy call_str_int (by rfl) T.f_str (by decide +kernel) (pa_cons (pv 4) pa_nil))))))))))
        (pss_one (ps_ret (pv 1))))), ?_⟩
    obtain ⟨a, xs, rfl, hs, hx⟩ := hd.tupI
    obtain ⟨w0, vs, rfl, hw0, hvs⟩ : ∃ w0 vs, xs = w0 :: vs ∧ Dp K H w0 (.str p.w) ∧ DpAll K H vs (p.ts.map Thing.d) := by
      cases hx with | cons h t => exact ⟨_, _, rfl, h, t⟩
    cases hw0
    have hvl : vs.length = p.ts.length := by rw [hvs.len, List.length_map]
    have hpl := hp.len
    refine rd_ixT (j := 0) rfl hs rfl ⟨_, rfl, 1, rfl, a, _, rfl, hs, ?_, fun pp hpp => ?_⟩
    · rw [HT.sIx_none, show HT.sIx (V.str p.w :: vs).length 0 (some 1) = min 1 (V.str p.w :: vs).length from HT.sIx_nat _ 0 1]
      simp only [List.length_cons]
      omega
    have ecut : cutV (V.str p.w :: vs) (some 1) none = vs := by
      unfold cutV
      rw [HT.sIx_none, show HT.sIx (V.str p.w :: vs).length 0 (some 1) = min 1 (V.str p.w :: vs).length from HT.sIx_nat _ 0 1, show min 1 (V.str p.w :: vs).length = 1 by simp only [List.length_cons]; omega]
      simp
    rw [ecut]
    have f2 : Fx [] H (upd H pp (.tup vs)) := Fx.new hpp
    have hvt : SqT K (upd H pp (.tup vs)) pp vs := SqT.of upd_same
    generalize upd H pp (.tup vs) = H2 at f2 hvt
    refine ⟨pp, rfl, ⟨vs, hvt⟩, for_it (walk_tup (xs := vs)) (fun i σ' H' => ∃ y2 y3, σ' = [some (.ref a), some (.str (jb (p.words.take (i + 1)))), y2, y3, none] ∧ Fx [] H H' ∧ SqT K H' pp vs) ⟨none, none, by rw [show p.words.take (0 + 1) = [p.w] from rfl, jb_one]; rfl, f2, hvt⟩ (fun i σ' H' _ ⟨_, _, _, _, h⟩ => h) (fun i x σ' H3 H4 hi hP y => ?_) (fun σ' H' hP => ?_)⟩
    · obtain ⟨y2, y3, rfl, f, hvt3⟩ := hP
      obtain ⟨rfl, hxg⟩ := y
      obtain ⟨d, g1, g2⟩ := hvs.get hxg
      rw [List.getElem?_map] at g1
      obtain ⟨t, ht, rfl⟩ := Option.map_eq_some_iff.mp g1
      have hto := hp.ts t (List.mem_of_getElem? ht)
      have g3 := g2.ext f
      have hwi : p.words[i + 1]? = some t.s := by
        show (p.ts.map Thing.s)[i]? = _
        rw [List.getElem?_map, ht]
        rfl
      have enx : jb (p.words.take (i + 1 + 1)) = jb (p.words.take (i + 1)) ++ blank ++ t.s := by
        have e : p.words.take (i + 1 + 1) = p.words.take (i + 1) ++ [t.s] := by
          rw [List.take_add_one (i := i + 1), hwi]
          rfl
        rw [e, jb_app (by simp [Part.words]) (by simp), jb_one]
      have l1 : (jb (p.words.take (i + 1))).length ≤ 1000 := by
        refine Nat.le_trans (jb_len fun w hw => Part.words_len hp w (List.mem_of_mem_take hw)) ?_
        rw [List.length_take]
        have : min (i + 1) p.words.length ≤ 4 := by omega
        omega
      have l2 := Thing.s_len hto
      -- some: the numbers of the thing
      let nsOf : List Int := match t with
        | .n k => [k]
        | .k ns => ns
      refine ⟨fun σ2 H' => ∃ l, σ2 = [some (.ref a), some (.str (jb (p.words.take (i + 1)))), some x, some (.ref l), none] ∧ Fx [] H4 H' ∧ H' l = some (.lst (nsOf.map V.int)), ?_, fun σ2 H5 hM => ?_⟩
      · refine rd_isD rfl (by decide) g3 ⟨_, rfl, ?_⟩
        cases t with
        | n k =>
          cases g3
          exact ifF rfl ⟨_, rfl, by show 1 ≤ sizeLine; decide, fun l hl => ⟨l, rfl, Fx.new hl, upd_same⟩⟩
        | k ns =>
          obtain ⟨b, zs, rfl, hb, hz⟩ := g3.tupI
          obtain rfl := DpAll.intsI hz
          exact ifT rfl ⟨_, rfl, b, _, rfl, .inr hb, fun l hl => ⟨l, rfl, Fx.new hl, upd_same⟩⟩
      obtain ⟨l, rfl, f5, hl5⟩ := hM
      have hns : nsOf.length ≤ 8 ∧ (∀ i ∈ nsOf, -9999 ≤ i ∧ i ≤ 9999) ∧ Txt.join comma (nsOf.map wS) = t.s := by
        cases t with
        | n k => exact ⟨by show (1 : Nat) ≤ 8; decide, fun j hj => by rw [List.mem_singleton.mp (show j ∈ [k] from hj)]; exact hto, by
            show Txt.join comma [wS k] = wS k
            refine ext_tl ?_
            rw [join_eq, tl_join]
            rfl⟩
        | k ns => exact ⟨hto.1, hto.2, rfl⟩
      generalize nsOf = ns at hl5 hns
      obtain ⟨h8, hrng, ejn⟩ := hns
      have hb1 : blank.length = 1 := by decide +kernel
      have hls : (jb (p.words.take (i + 1)) ++ blank).length = (jb (p.words.take (i + 1))).length + 1 := by rw [len_tl, tl_append, List.length_append, ← len_tl, ← len_tl, hb1]
      refine ⟨_, rfl, _, _, rfl, rfl, Nat.le_trans (m := 5000) (by show _ + blank.length ≤ 5000; omega) (by decide), ⟨_, rfl⟩, _, rfl, l, rfl, ⟨_, SqL.of hl5⟩, fun D hD => lc_map (walk_list (xs := ns.map V.int)) (fun i => .str (wS (ns.getD i 0))) (by rw [List.length_map]; omega) hD (fun H6 f6 => SqL.of (f6.to hl5 (fun z => nomatch z))) (fun _ _ _ _ y => YAt.fx y) (fun i x H6 H7 Qe Z hi f6 y k => ?_) (fun H6 f6 hL => ?_)⟩
      · obtain ⟨rfl, hxg⟩ := y
        rw [List.getElem?_map] at hxg
        obtain ⟨j, hj, rfl⟩ := Option.map_eq_some_iff.mp hxg
        refine ⟨rfl, ifT rfl ⟨_, rfl, j, rfl, log2_ok (hrng j (List.mem_of_getElem? hj)), ?_⟩⟩
        have ej : ns.getD i 0 = j := getD_of hj
        rw [ej] at k
        exact k _ .refl
      · have eL : (List.range (ns.map V.int).length).map (fun i => V.str (wS (ns.getD i 0))) = (ns.map wS).map V.str := by
          rw [List.length_map]
          refine List.ext_getElem? fun j => ?_
          rw [List.getElem?_map, List.getElem?_map, List.getElem?_map]
          by_cases c : j < ns.length
          · rw [List.getElem?_range c, List.getElem?_eq_getElem c]
            have : ns.getD j 0 = ns[j] := getD_of (List.getElem?_eq_getElem c)
            show some (V.str (wS (ns.getD j 0))) = some (V.str (wS ns[j]))
            rw [this]
          · rw [List.getElem?_eq_none (by simp; omega), List.getElem?_eq_none (by omega)]
            rfl
        rw [eL] at hL
        have hsum := sum_wS hrng
        refine ⟨comma, D, ns.map wS, rfl, rfl, .inl (SqL.of hL), by rw [List.length_map]; show _ + ns.length * 1 ≤ 16777216; omega, ?_⟩
        rw [ejn]
        refine ⟨_, _, rfl, rfl, Nat.le_trans (m := 5000) (by show (jb (p.words.take (i + 1)) ++ blank).length + _ ≤ 5000; omega) (by decide), ?_⟩
        refine ⟨some x, some (.ref l), ?_, (f.trans f5).trans f6, (f5.trans f6).sqT hvt3⟩
        rw [enx]
        rfl
    · obtain ⟨y2, y3, rfl, f, hvt3⟩ := hP
      have e : p.words.take (vs.length + 1) = p.words := by
        refine List.take_of_length_le ?_
        show (p.ts.map Thing.s).length + 1 ≤ _
        rw [List.length_map, hvl]
        exact Nat.le_refl _
      rw [e]
      exact ⟨_, rfl, q _ f⟩
end Mh
/-! MhWritten -/
namespace Mh
open PySem PySem.Spec PyProof.Rows L2 TL
section
variable {X : Cx} {o e : Expr} {to te : TE}
def rJoin (K : PySem.W.Frag) : V → List V → Hp → VK → Prop := fun x xs H Q => ∃ a p, ∃ ys : List Str, x = .str a ∧ xs = [.ref p] ∧ (SqL K H p (ys.map V.str) ∨ SqT K H p (ys.map V.str)) ∧
  (ys.map (·.length)).sum + ys.length * a.length ≤ 16777216 ∧ Q (.str (Txt.join a ys)) H
theorem kpe_join {K : PySem.W.Frag} {apos pos : Pos} (h : X.K = K) (ho : PE X o to) (he : PE X e te) (hs : starEach [e] X.env = [(false, eval e X.env)] := by rfl) (hbase : attributeBase o "join" X.env (eval o X.env) = eval o X.env := by rfl) (hline : (apos.endLine == pos.line) = true := by rfl) :
    PE X (.Call (.Attribute o "join" apos) [e] [] pos) (tM1 (rJoin K) to te) := by
  subst h
  exact pe_join ho he hs hbase hline
end
def Tst.part : Tst → Part
  | .any => ⟨"any", []⟩
  | .below n => ⟨"below", [.n n]⟩
  | .rest m r => ⟨"rest", [.n m, .n r]⟩
  | .chance m r => ⟨"chance", [.n m, .n r]⟩
  | .known ns => ⟨"known", [.k ns]⟩
def Ans.part : Ans → Part
  | .num n => ⟨"num", [.n n]⟩
  | .plus n => ⟨"plus", [.n n]⟩
  | .times n => ⟨"times", [.n n]⟩
  | .rest n => ⟨"rest", [.n n]⟩
  | .none => ⟨"none", []⟩
theorem Tst.part_d (t : Tst) : t.d = t.part.d := by cases t <;> rfl
theorem Ans.part_d (a : Ans) : a.d = a.part.d := by cases a <;> rfl
theorem Tst.part_ok {t : Tst} (h : t.ok) : t.part.ok := by
  cases t with
  | any => exact ⟨by decide +kernel, by decide, fun _ m => nomatch m⟩
  | below n =>
    have h2 : 0 ≤ n ∧ n ≤ 9999 := h
    exact ⟨Nat.le_of_ble_eq_true rfl, by show (1 : Nat) ≤ 3; decide, fun t m => by rw [List.mem_singleton.mp m]; exact ⟨by omega, by omega⟩⟩
  | rest m r =>
    have h1 : 2 ≤ m := h.1
    have h2 : m ≤ 99 := h.2.1
    have h3 : 0 ≤ r := h.2.2.1
    have h4 : r ≤ m - 1 := by have := h.2.2.2; omega
    refine ⟨Nat.le_of_ble_eq_true rfl, by show (2 : Nat) ≤ 3; decide, fun t hm => ?_⟩
    rcases List.mem_cons.mp hm with rfl | hm
    · exact ⟨by omega, by omega⟩
    · rw [List.mem_singleton.mp hm]
      exact ⟨by omega, by omega⟩
  | chance m r =>
    have h1 : 2 ≤ m := h.1
    have h2 : m ≤ 99 := h.2.1
    have h3 : 0 ≤ r := h.2.2.1
    have h4 : r ≤ m - 1 := by have := h.2.2.2; omega
    refine ⟨Nat.le_of_ble_eq_true rfl, by show (2 : Nat) ≤ 3; decide, fun t hm => ?_⟩
    rcases List.mem_cons.mp hm with rfl | hm
    · exact ⟨by omega, by omega⟩
    · rw [List.mem_singleton.mp hm]
      exact ⟨by omega, by omega⟩
  | known ns =>
    obtain ⟨h1, h2, h3, h4⟩ := h
    exact ⟨Nat.le_of_ble_eq_true rfl, by show (1 : Nat) ≤ 3; decide, fun t m => by
      rw [List.mem_singleton.mp m]
      exact ⟨h2, fun i hi => ⟨by have := (h3 i hi).1; omega, (h3 i hi).2⟩⟩⟩
theorem Ans.part_ok {a : Ans} (h : a.ok) : a.part.ok := by
  cases a with
  | none => exact ⟨by decide +kernel, by decide, fun _ m => nomatch m⟩
  | rest n =>
    have h1 : 2 ≤ n := h.1
    have h2 : n ≤ 99 := h.2
    exact ⟨Nat.le_of_ble_eq_true rfl, by show (1 : Nat) ≤ 3; decide, fun t m => by rw [List.mem_singleton.mp m]; exact ⟨by omega, by omega⟩⟩
  | _ => exact ⟨Nat.le_of_ble_eq_true rfl, by show (1 : Nat) ≤ 3; decide, fun t m => by rw [List.mem_singleton.mp m]; exact h⟩
def rowW (r : Tst × Ans) : List Str := r.1.part.words ++ r.2.part.words
def rowT (r : Tst × Ans) : Str := jb (rowW r)
def nl : Str := "\n"
def machT (m : Mch) : Str := Txt.join nl (m.map rowT)
theorem rowW_len {r : Tst × Ans} (h1 : r.1.ok) (h2 : r.2.ok) : (rowW r).length ≤ 8 ∧ ∀ w ∈ rowW r, w.length ≤ 60 := by
  have a := (Tst.part_ok h1).len
  have b := (Ans.part_ok h2).len
  refine ⟨?_, fun w hw => ?_⟩
  · show (r.1.part.w :: r.1.part.ts.map Thing.s ++ r.2.part.w :: r.2.part.ts.map Thing.s).length ≤ 8
    simp only [List.length_append, List.length_cons, List.length_map]
    omega
  · rcases List.mem_append.mp hw with hw | hw
    · exact Part.words_len (Tst.part_ok h1) w hw
    · exact Part.words_len (Ans.part_ok h2) w hw
theorem sum_le {m : Nat} : ∀ {ws : List Str}, (∀ w ∈ ws, w.length ≤ m) → (ws.map (·.length)).sum ≤ ws.length * m
  | [], _ => by simp
  | w :: ws, h => by
    have h1 := h w List.mem_cons_self
    have h2 := sum_le (ws := ws) fun q hq => h q (List.mem_cons_of_mem _ hq)
    simp only [List.map_cons, List.sum_cons, List.length_cons, Nat.succ_mul]
    omega
theorem rowT_len {r : Tst × Ans} (h1 : r.1.ok) (h2 : r.2.ok) : (rowT r).length ≤ 488 := by
  obtain ⟨a, b⟩ := rowW_len h1 h2
  have := jb_len b
  show (jb (rowW r)).length ≤ 488
  omega
theorem sc_written : FnScope ["machine", "test", "answer"] ["machine"] (defScope s_written) := ⟨rfl, rfl, rfl, by decide +kernel, rfl, by decide +kernel, by decide +kernel⟩
def spWritten (K : PySem.W.Frag) : Sp := fun vs H Q _ => ∃ (v : V) (m : Mch), vs = [v] ∧ Dp K H v (machD m) ∧ m.ok ∧ ∀ (H' : Hp), Fx [] H H' → Q (.str (machT m)) H'
theorem rd_needM2 {K : PySem.W.Frag} {σ : L2.St} {H : Hp} {Q : VK} {i : Nat} {v : V} {m : Mch} (hv : σ[i]? = some (some v)) (h : m.ok) (hd : Dp K H v (machD m)) (q : ∀ H', Fx [] H H' → Q .non H') : tCall (spNeedMachine K) [] E0 (tCons (tVar i) tNil) σ H Q := ⟨v, hv, need_mach (Q := Q) (E := E0) h hd q⟩
theorem ok_written {P : Program} {w : World} {K : PySem.W.Frag} {mg : Str → Option Value} {base : Heap} (T : Tx K mg) : Def P w K mg base CX0 5 "written" ["machine"] (spWritten K) := by
  obtain ⟨fd, F⟩ := T.d_written
  have G_need_machine := ok_need_machine (P := P) (w := w) (base := base) T
  have G_part_words := ok_part_words (P := P) (w := w) (base := base) T
  refine ⟨_, fd, F.ok sc_written (fun vs H Q E h => ?_) (fun cdv A outer s H vs Q E hr h => ?_), F.bindsN fun _ _ _ _ _ _ us hl => match us, hl with | [_], _ => rfl, T.g_written, F.kp⟩
  · obtain ⟨v, m, rfl, _⟩ := h
    rfl
  · obtain ⟨v, m, rfl, hd, hm, q⟩ := h
    refine ⟨_, PSs.nox (pss_cons (ps_expr (pe_def G_need_machine (hr.mono (by omega)) pass0 (pa_cons (pv 0) pa_nil)))
        (pss_one (ps_ret (pe_join pe_str (pe_lc (own := [("test", 1), ("answer", 2)]) (g := (gTup _ 2 (gCons (gName 1) (gCons (gName 2) gNil)))) (tt := tYes) rfl sc_written.nd (pi_tup (pv 0)) (blkOk_by (own := [("test", 1), ("answer", 2)]) (N := ["machine", "test", "answer"]) (sc := defScope s_written) (by decide +kernel)) (fun _ _ _ _ _ => pg_tup rfl (pgs_cons (pg_name (i := 1) sc_written.nd rfl (by first | exact Or.inl rfl | exact Or.inr rfl)) (pgs_cons (pg_name (i := 2) sc_written.nd rfl (by first | exact Or.inl rfl | exact Or.inr rfl)) pgs_nil))) (fun _ _ _ _ _ => pts_nil) (fun _ _ _ _ _ => (kpe_join (K := K) rfl pe_str (pe_op op_cat (pe_def G_part_words (hr.mono (by omega)) pass0 (pa_cons (pv 1) pa_nil)) (pe_def G_part_words (hr.mono (by omega)) pass0 (pa_cons (pv 2) pa_nil)))))))))), ?_⟩
    refine rd_needM2 rfl hm hd fun H1 f1 => ?_
    obtain ⟨a, xs, rfl, hs, hx⟩ := (hd.ext f1).tupI
    have hl : xs.length = m.length := by rw [hx.len, List.length_map]
    have hml := hm.len
    refine ⟨⟨_, rfl⟩, _, rfl, a, rfl, ⟨_, hs⟩, fun D hD => lc_map (walk_tup (xs := xs)) (fun i => .str ((m.map rowT).getD i blank)) (by omega) hD (fun H2 f => f.sqT hs) (fun _ _ _ _ y => YAt.fx y) (fun i x H2 H3 Qe Z hi f y k => ?_) (fun H2 f hL => ?_)⟩
    · obtain ⟨rfl, hxg⟩ := y
      obtain ⟨d, g1, g2⟩ := hx.get hxg
      rw [List.getElem?_map] at g1
      obtain ⟨r, hr, rfl⟩ := Option.map_eq_some_iff.mp g1
      obtain ⟨o1, o2⟩ := hm.rows r (List.mem_of_getElem? hr)
      obtain ⟨b, w1, w2, rfl, hb, k1, k2⟩ := (g2.ext f).tup2
      rw [Tst.part_d] at k1
      rw [Ans.part_d] at k2
      have er : (m.map rowT).getD i blank = rowT r := getD_of (by rw [List.getElem?_map, hr]; rfl)
      rw [er] at k
      obtain ⟨c1, c2⟩ := rowW_len o1 o2
      refine ⟨b, _, rfl, hb, rfl, _, _, rfl, _, _, rfl, rfl, rfl, ifT rfl ⟨⟨_, rfl⟩, ?_⟩⟩
      refine ⟨w1, rfl, w1, r.1.part, rfl, k1, Tst.part_ok o1, fun Ha p1 fa hn1 hp1 => ⟨w2, rfl, w2, r.2.part, rfl, k2.ext fa, Ans.part_ok o2, fun Hb p2 fb hn2 hp2 => ?_⟩⟩
      have s1 := (Tst.part_ok o1).len
      refine ⟨p1, p2, _, _, rfl, rfl, fb.to hp1 (fun z => nomatch z), hp2, sz2 ?_, fun q1 hq1 => ?_⟩
      · rw [← List.length_append, ← List.map_append, List.length_map]
        exact Nat.le_trans c1 (by decide)
      · refine ⟨blank, q1, rowW r, rfl, rfl, .inl (SqL.of (by rw [upd_same, ← List.map_append]; rfl)), ?_, k _ ((fa.trans fb).trans (Fx.new hq1))⟩
        have := sum_le c2
        show _ + (rowW r).length * 1 ≤ 16777216
        omega
    · have eL : (List.range xs.length).map (fun i => V.str ((m.map rowT).getD i blank)) = (m.map rowT).map V.str := by
        rw [hl]
        refine List.ext_getElem? fun j => ?_
        rw [List.getElem?_map, List.getElem?_map, List.getElem?_map]
        by_cases c : j < m.length
        · rw [List.getElem?_range c, List.getElem?_eq_getElem c]
          have e2 : (m.map rowT).getD j blank = rowT m[j] := getD_of (by rw [List.getElem?_map, List.getElem?_eq_getElem c]; rfl)
          show some (V.str ((m.map rowT).getD j blank)) = some (V.str (rowT m[j]))
          rw [e2]
        · rw [List.getElem?_eq_none (by simp; omega), List.getElem?_eq_none (by omega)]
          rfl
      rw [eL] at hL
      have hsum := sum_le (ws := m.map rowT) (m := 488) fun w hw => by
        obtain ⟨r, hr, rfl⟩ := List.mem_map.mp hw
        obtain ⟨o1, o2⟩ := hm.rows r hr
        exact rowT_len o1 o2
      rw [List.length_map] at hsum
      refine ⟨nl, D, m.map rowT, rfl, rfl, .inl (SqL.of hL), ?_, q _ (f1.trans f)⟩
      rw [List.length_map]
      show _ + m.length * 1 ≤ 16777216
      omega
end Mh
/-! MhNumOf -/
namespace Mh
open PySem PySem.Spec PyProof.Rows L2 TL
/-! ### the number that a word writes -/
def figs (z : Str) : Str := if cutS z none (some 1) == ("-" : Str) then cutS z (some 1) none else z
def digit (c : Nat) : Bool := decide (c ∈ (Str.ofString "0123456789").cps.toList)
def numOf (z : Str) : Option Int :=
  if decide (1 ≤ (figs z).length) && decide ((figs z).length ≤ 4) && (tl (figs z)).all digit then
    match intText? z with
    | some v => if wS v = z then some v else none
    | none => none
  else none
theorem digit_iff (c : Nat) : digit c = true ↔ 48 ≤ c ∧ c ≤ 57 := by
  have e : (Str.ofString "0123456789").cps.toList = [48, 49, 50, 51, 52, 53, 54, 55, 56, 57] := by decide +kernel
  unfold digit
  rw [e, decide_eq_true_iff]
  simp only [List.mem_cons, List.mem_nil_iff, or_false]
  omega
theorem tl_cut1 (z : Str) : tl (cutS z (some 1) none) = (tl z).drop 1 := by
  show ((z.cps.toList.drop (HT.sIx z.length 0 (some 1))).take (HT.sIx z.length z.length none - HT.sIx z.length 0 (some 1))) = z.cps.toList.drop 1
  rw [HT.sIx_none, show HT.sIx z.length 0 (some 1) = min 1 z.length from HT.sIx_nat _ 0 1]
  have hl : z.length = z.cps.toList.length := len_tl z
  rcases Nat.eq_zero_or_pos z.length with h | h
  · have : z.cps.toList = [] := List.eq_nil_of_length_eq_zero (by omega)
    rw [this]
    simp
  · rw [Nat.min_eq_left h]
    exact List.take_of_length_le (by rw [List.length_drop]; omega)
theorem tl_cut0 (z : Str) : tl (cutS z none (some 1)) = (tl z).take 1 := by
  show ((z.cps.toList.drop (HT.sIx z.length 0 none)).take (HT.sIx z.length z.length (some 1) - HT.sIx z.length 0 none)) = z.cps.toList.take 1
  rw [HT.sIx_none, show HT.sIx z.length z.length (some 1) = min 1 z.length from HT.sIx_nat _ _ 1, List.drop_zero, Nat.sub_zero]
  have hl : z.length = z.cps.toList.length := len_tl z
  rcases Nat.eq_zero_or_pos z.length with h | h
  · have : z.cps.toList = [] := List.eq_nil_of_length_eq_zero (by omega)
    rw [this]
    simp
  · rw [Nat.min_eq_left h]
theorem minus_iff (z : Str) : (cutS z none (some 1) == ("-" : Str)) = decide ((tl z).take 1 = [45]) := by
  rw [Bool.eq_iff_iff, beq_iff_eq, decide_eq_true_iff, ← tl_cut0]
  constructor
  · intro h
    rw [h]
    rfl
  · intro h
    exact ext_tl h
theorem numL_num (n : Nat) : (numL n).all digit = true := List.all_eq_true.mpr fun c hc => (digit_iff c).mpr (numL_digits n c hc)
theorem tl_figs {i : Int} : tl (figs (wS i)) = numL i.natAbs := by
  unfold figs
  rw [minus_iff, tl_wS]
  unfold wL
  by_cases h : 0 ≤ i
  · rw [if_pos h]
    have e : ¬ (numL i.toNat).take 1 = [45] := fun z => by
      have hm : 45 ∈ numL i.toNat := List.mem_of_mem_take (by rw [z]; exact List.mem_singleton.mpr rfl)
      exact numL_free (by decide) hm
    rw [if_neg (by simpa using e), tl_wS]
    unfold wL
    rw [if_pos h]
    congr 1
    omega
  · rw [if_neg h, if_pos (by simp), tl_cut1, tl_wS]
    unfold wL
    rw [if_neg h]
    show numL (-i).toNat = _
    congr 1
    omega
theorem numOf_wS {i : Int} (h : -9999 ≤ i ∧ i ≤ 9999) : numOf (wS i) = some i := by
  have e := tl_figs (i := i)
  have el : (figs (wS i)).length = (numL i.natAbs).length := by rw [len_tl, e]
  have h1 : 1 ≤ (numL i.natAbs).length := by
    cases hh : numL i.natAbs with
    | nil => exact absurd hh (numL_ne _)
    | cons _ _ => simp
  have h2 := numL_len (n := i.natAbs) (k := 4) (by decide) (by omega)
  unfold numOf
  rw [el, e, numL_num, decide_eq_true h1, decide_eq_true h2, int_wS h]
  simp
theorem sc_number_of : FnScope ["word", "figures", "sign"] ["word"] (defScope s_number_of) := ⟨rfl, rfl, rfl, by decide +kernel, rfl, by decide +kernel, by decide +kernel⟩
def oN : Option Int → V := oV
def spNumberOf (_K : PySem.W.Frag) : Sp := fun vs H Q _ => ∃ (z : Str), vs = [.str z] ∧ z.length ≤ 600 ∧ ∀ (H' : Hp), Fx [] H H' → Q (oV (numOf z)) H'
theorem figs_len {z : Str} (h : z.length ≤ 600) : (figs z).length ≤ 600 := by
  unfold figs
  split
  · rw [len_tl, tl_cut1, List.length_drop, ← len_tl]
    omega
  · exact h
theorem intText_len {z : Str} (h : z.length ≤ 600) : z.length ≤ 640 := by omega
theorem fold_lt : ∀ (l : List Nat) (a : Nat), (∀ c ∈ l, 48 ≤ c ∧ c ≤ 57) → l.foldl (fun acc c => acc * 10 + (c - 48)) a < (a + 1) * 10 ^ l.length
  | [], a, _ => by simp
  | c :: l, a, h => by
    have h1 := h c List.mem_cons_self
    have h2 := fold_lt l (a * 10 + (c - 48)) fun d hd => h d (List.mem_cons_of_mem _ hd)
    show l.foldl _ (a * 10 + (c - 48)) < (a + 1) * 10 ^ (l.length + 1)
    refine Nat.lt_of_lt_of_le h2 ?_
    rw [Nat.pow_succ, Nat.mul_comm (10 ^ l.length) 10, ← Nat.mul_assoc]
    exact Nat.mul_le_mul_right _ (by omega)
theorem num_val {z : Str} (h1 : 1 ≤ (figs z).length) (h2 : (figs z).length ≤ 4) (h3 : (tl (figs z)).all digit = true) : ∃ v, intText? z = some v ∧ v.natAbs ≤ 9999 ∧ z.length ≤ 5 := by
  have hd : NumText.AllDigits (tl (figs z)) := fun c hc => (digit_iff c).mp (List.all_eq_true.mp h3 c hc)
  have hne : tl (figs z) ≠ [] := fun e => by
    rw [len_tl, e] at h1
    exact absurd h1 (by decide)
  have hv : NumText.digitsVal (tl (figs z)) ≤ 9999 := by
    have := fold_lt (tl (figs z)) 0 hd
    have hp : 10 ^ (tl (figs z)).length ≤ 10 ^ 4 := Nat.pow_le_pow_right (by decide) (by rw [← len_tl]; exact h2)
    have e : NumText.digitsVal (tl (figs z)) = (tl (figs z)).foldl (fun acc c => acc * 10 + (c - 48)) 0 := rfl
    rw [e]
    omega
  cases c : (cutS z none (some 1) == ("-" : Str)) with
  | true =>
    have ef : figs z = cutS z (some 1) none := by unfold figs; rw [if_pos c]
    rw [minus_iff, decide_eq_true_iff] at c
    have ez : tl z = 45 :: tl (figs z) := by
      rw [ef, tl_cut1]
      have := List.take_append_drop 1 (tl z)
      rw [c] at this
      exact this.symm
    have hz : z.length ≤ 5 := by
      rw [len_tl, ez, List.length_cons, ← len_tl]
      omega
    exact ⟨_, intText_neg ez hd hne (by omega), by omega, hz⟩
  | false =>
    have ef : figs z = z := by unfold figs; rw [if_neg (by rw [c]; decide)]
    rw [ef] at hd hne hv h2
    have hv2 : NumText.digitsVal z.cps.toList ≤ 9999 := hv
    exact ⟨_, intText_digits hd hne (by omega), by omega, by omega⟩
theorem ok_number_of {P : Program} {w : World} {K : PySem.W.Frag} {mg : Str → Option Value} {base : Heap} (T : Tx K mg) : Def P w K mg base CX0 1 "number_of" ["word"] (spNumberOf K) := by
  obtain ⟨fd, F⟩ := T.d_number_of
  refine ⟨_, fd, F.ok sc_number_of (fun vs H Q E h => ?_) (fun cdv A outer s H vs Q E hr h => ?_), F.bindsN fun _ _ _ _ _ _ us hl => match us, hl with | [_], _ => rfl, T.g_number_of, F.kp⟩
  · obtain ⟨z, rfl, _⟩ := h
    rfl
  · obtain ⟨z, rfl, hz, q⟩ := h
    refine ⟨_, PSs.nox (Evl.pss_cut (ps_set (i := 1) sc_number_of.nd rfl (by first | exact Or.inl rfl | exact Or.inr rfl) (pe_ifExp (pt_cmpR op_eq (pe_slice sl_str (pv 0) po_none (po_some pe_int)) pe_str (nomark _)) (pe_slice sl_str (pv 0) (po_some pe_int) po_none) (pv 0)))
        (pss_cons (ps_if (PW.pt (pw_or (pt_not (pt_chain op_le op_le pe_int (pe_callB call_len_str (by rfl) T.f_len (by decide +kernel) (pa_cons (pv 1) pa_nil)) (gC T.c_MOST_FIGURES))) (pw_or1 (pt_not (pt_val (pe_callB (cr_all rfl) (by rfl) T.f_all (by decide +kernel) (pa_cons (pe_lc (own := [("sign", 2)]) (g := (gName 2)) (tt := tYes) rfl sc_number_of.nd (pi_str (pv 1)) (blkOk_by (own := [("sign", 2)]) (N := ["word", "figures", "sign"]) (sc := defScope s_number_of) (by decide +kernel)) (fun _ _ _ _ _ => pg_name (i := 2) sc_number_of.nd rfl (by first | exact Or.inl rfl | exact Or.inr rfl)) (fun _ _ _ _ _ => pts_nil) (fun _ _ _ _ _ => (pe_cmpR op_inS (pv 2) (gS T.s_FIGURES) (by rfl)))) pa_nil)))))))
        (pss_one (ps_ret pe_non))
        pss_nil)
        (pss_one (ps_ret (pe_ifExp (pt_cmpR op_eq (pe_callTy call_str_int (by rfl) T.f_str (by decide +kernel) (pa_cons (pe_callTy call_int_str (by rfl) T.f_int (by decide +kernel) (pa_cons (pv 0) pa_nil)) pa_nil)) (pv 0) (nomark _)) (pe_callTy call_int_str (by rfl) T.f_int (by decide +kernel) (pa_cons (pv 0) pa_nil)) pe_non))))), ?_⟩
    have hzs : z.length ≤ sizeLine := Nat.le_trans hz (by decide)
    refine ⟨fun σ' H' => σ' = [some (.str z), some (.str (figs z)), none] ∧ H' = H, ?_, fun σ' H' hM => ?_⟩
    · refine ⟨_, rfl, 1, rfl, z, rfl, hzs, rd_eqS (σ := L2.start ["word", "figures", "sign"] [.str z]) ⟨_, rfl, ifB (fun c => ?_) (fun c => ?_)⟩⟩
      · have e : figs z = cutS z (some 1) none := by unfold figs; rw [if_pos c]
        exact ⟨_, rfl, 1, rfl, z, rfl, hzs, by rw [e]; rfl, rfl⟩
      · have e : figs z = z := by unfold figs; rw [if_neg (by rw [c]; decide)]
        exact ⟨_, rfl, by rw [e]; rfl, rfl⟩
    obtain ⟨rfl, rfl⟩ := hM
    have hfl := figs_len hz
    have hfs : (figs z).length ≤ sizeLine := Nat.le_trans hfl (by decide)
    have none_case : (decide (1 ≤ (figs z).length) && decide ((figs z).length ≤ 4) && (tl (figs z)).all digit) = false → ∀ H', Fx [] _ H' → Q .non H' := fun e H' f => by
      have h2 : numOf z = none := by
        unfold numOf
        rw [e]
        rfl
      have := q H' f
      rw [h2] at this
      exact this
    refine ⟨_, rfl, figs z, rfl, hfs, _, _, rfl, rfl, _, rfl, ifB (fun c1 => ⟨_, _, rfl, rfl, _, rfl, ifB (fun c2 => ?_) (fun c2 => ?_)⟩) (fun c1 => ⟨_, rfl, ifT rfl ?_⟩)⟩
    · have k2 : decide (((figs z).length : Int) ≤ 4) = false := by simpa using c2
      have k3 : decide ((figs z).length ≤ 4) = false := by
        have := of_decide_eq_false k2
        exact decide_eq_false (by omega)
      exact ifT rfl (none_case (by rw [k3, Bool.and_false, Bool.false_and]) _ .refl)
    · have k1 : decide (1 ≤ (figs z).length) = true := by
        have := of_decide_eq_true c1
        exact decide_eq_true (by omega)
      have k2 : decide ((figs z).length ≤ 4) = true := by
        have k2' : decide (((figs z).length : Int) ≤ 4) = true := by simpa using c2
        have := of_decide_eq_true k2'
        exact decide_eq_true (by omega)
      have hsz : (figs z).cps.size = (figs z).length := rfl
      refine ⟨_, rfl, figs z, rfl, fun D hD => lc_map walk_str (fun i => .bl (digit ((figs z).cps.toList.getD i 0))) (by rw [hsz]; omega) hD (fun _ _ => trivial) (fun _ _ _ _ y => by rw [y.1]; exact .refl) (fun i x H2 H3 Qe Z hi f y k => ?_) (fun H2 f hL => ?_)⟩
      · obtain ⟨rfl, c, hc, rfl⟩ := y
        have ec : (figs z).cps.toList.getD i 0 = c := getD_of (by rw [Array.getElem?_toList]; exact hc)
        rw [ec] at k
        exact ⟨rfl, ifT rfl ⟨_, rfl, c, _, rfl, rfl, k _ .refl⟩⟩
      · have eA : (((List.range (figs z).cps.size).map fun i => digit ((figs z).cps.toList.getD i 0)).all id) = (tl (figs z)).all digit := range_all (by
          have := all_range_get digit 0 (figs z).cps.toList
          rw [Array.length_toList] at this
          exact this)
        refine ⟨D, (List.range (figs z).cps.size).map fun i => digit ((figs z).cps.toList.getD i 0), rfl, SqL.of (by rw [hL, List.map_map]; rfl), ?_⟩
        rw [eA]
        refine ⟨_, rfl, ifB (fun c3 => ?_) (fun c3 => ?_)⟩
        · have k3 : (tl (figs z)).all digit = false := by simpa using c3
          exact none_case (by rw [k3, Bool.and_false]) _ f
        · have k3 : (tl (figs z)).all digit = true := by simpa using c3
          have l1 := of_decide_eq_true k1
          have l2 := of_decide_eq_true k2
          obtain ⟨v, hv, hb, hz5⟩ := num_val l1 l2 k3
          have en : numOf z = if wS v = z then some v else none := by
            unfold numOf
            rw [k1, k2, k3, hv]
            rfl
          have hlog : v.natAbs.log2 < 1920 := log2_ok (i := v) (by omega)
          refine ⟨_, rfl, z, v, rfl, hv, by omega, v, rfl, hlog, _, rfl, rfl, ?_⟩
          rw [dec_str]
          refine ⟨_, rfl, ifB (fun c4 => ?_) (fun c4 => ?_)⟩
          · have e4 : wS v = z := eq_of_beq c4
            rw [en, if_pos e4] at q
            exact ⟨_, rfl, z, v, rfl, hv, by omega, q _ f⟩
          · have e4 : ¬ wS v = z := ne_of_beq_false c4
            rw [en, if_neg e4] at q
            exact q _ f
    · have k1 : decide (1 ≤ (figs z).length) = false := by
        have := of_decide_eq_false c1
        exact decide_eq_false (by omega)
      exact none_case (by rw [k1, Bool.false_and, Bool.false_and]) _ .refl
end Mh
/-! MhThing -/
namespace Mh
open PySem PySem.Spec PyProof.Rows L2 TL
/-! ### what a word writes -/
def allN : List (Option Int) → Option (List Int)
  | [] => some []
  | some n :: r => (allN r).map (n :: ·)
  | none :: _ => none
def thingO (sort z : Str) : Option Thing := if sort == ("n" : Str) then (numOf z).map .n else (allN ((Txt.split z comma).map numOf)).map .k
def thingV : Option Thing → PyData
  | none => .none
  | some t => t.d
theorem allN_map (ns : List Int) : allN (ns.map some) = some ns := by
  induction ns with
  | nil => rfl
  | cons n ns ih =>
    show (allN (ns.map some)).map (n :: ·) = _
    rw [ih]
    rfl
theorem allN_some : ∀ {os : List (Option Int)} {ns : List Int}, allN os = some ns → os = ns.map some
  | [], ns, h => by
    cases h
    rfl
  | some n :: r, ns, h => by
    have h2 : (allN r).map (n :: ·) = some ns := h
    obtain ⟨ms, e1, rfl⟩ := Option.map_eq_some_iff.mp h2
    rw [allN_some e1]
    rfl
  | none :: r, ns, h => nomatch h
theorem allN_none : ∀ {os : List (Option Int)}, allN os = none ↔ none ∈ os
  | [] => by simp [allN]
  | some n :: r => by
    show (allN r).map (n :: ·) = none ↔ _
    rw [Option.map_eq_none_iff, allN_none]
    simp
  | none :: r => by simp [allN]
theorem inV_none (os : List (Option Int)) : inV .non (os.map oV) = (allN os).isNone := by
  rw [Bool.eq_iff_iff, Option.isNone_iff_eq_none, allN_none]
  unfold inV
  rw [List.any_eq_true]
  constructor
  · rintro ⟨y, hy, e⟩
    obtain ⟨o, ho, rfl⟩ := List.mem_map.mp hy
    cases o with
    | none => exact ho
    | some n => cases e
  · intro h
    exact ⟨.non, List.mem_map.mpr ⟨none, h, rfl⟩, rfl⟩
theorem flat_oV (os : List (Option Int)) : (os.map oV).all flatV = true := List.all_eq_true.mpr fun y hy => by
  obtain ⟨o, _, rfl⟩ := List.mem_map.mp hy
  cases o <;> rfl
theorem spl_len (S : List Nat) : ∀ (l : List Nat) (k : Nat) (acc : List Nat), ∀ p ∈ spl S k acc l, p.length ≤ acc.length + l.length
  | [], k, acc, p, h => by
    rw [spl_nil] at h
    rw [List.mem_singleton.mp h]
    exact Nat.le_add_right _ _
  | c :: r, 0, acc, p, h => by
    by_cases e : pre S (c :: r) = true
    · rw [spl_hit e] at h
      rcases List.mem_cons.mp h with rfl | h
      · exact Nat.le_add_right _ _
      · have := spl_len S r _ _ p h
        simp only [List.length_nil, List.length_cons] at this ⊢
        omega
    · rw [spl_miss (by simpa using e)] at h
      have := spl_len S r _ _ p h
      simp only [List.length_append, List.length_cons, List.length_nil] at this ⊢
      omega
  | c :: r, k + 1, acc, p, h => by
    have := spl_len S r k acc p h
    simp only [List.length_cons]
    omega
theorem split_len {z y : Str} (hy : tl y ≠ []) (hk : y.cps.all (· < 256) = true) : ∀ p ∈ Txt.split z y, p.length ≤ z.length := fun p hp => by
  have h := split_spl z y hy (kind_ok hk)
  have hm : tl p ∈ spl (tl y) 0 [] (tl z) := by
    rw [← h]
    exact List.mem_map.mpr ⟨p, hp, rfl⟩
  have := spl_len _ _ _ _ _ hm
  rw [← len_tl, ← len_tl] at this
  simpa using this
theorem sc_thing_of : FnScope ["word", "sort", "found", "one"] ["word", "sort"] (defScope s_thing_of) := ⟨rfl, rfl, rfl, by decide +kernel, rfl, by decide +kernel, by decide +kernel⟩
def spThingOf (K : PySem.W.Frag) : Sp := fun vs H Q _ => ∃ (z s : Str), vs = [.str z, .str s] ∧ z.length ≤ 600 ∧ ∀ (H' : Hp) (v : V), Fx [] H H' → Dp K H' v (thingV (thingO s z)) → Q v H'
theorem ok_thing_of {P : Program} {w : World} {K : PySem.W.Frag} {mg : Str → Option Value} {base : Heap} (T : Tx K mg) : Def P w K mg base CX0 2 "thing_of" ["word", "sort"] (spThingOf K) := by
  obtain ⟨fd, F⟩ := T.d_thing_of
  have G_number_of := ok_number_of (P := P) (w := w) (base := base) T
  refine ⟨_, fd, F.ok sc_thing_of (fun vs H Q E h => ?_) (fun cdv A outer s H vs Q E hr h => ?_), F.bindsN fun _ _ _ _ _ _ us hl => match us, hl with | [_, _], _ => rfl, T.g_thing_of, F.kp⟩
  · obtain ⟨z, s, rfl, _⟩ := h
    rfl
  · obtain ⟨z, so, rfl, hz, q⟩ := h
    refine ⟨_, PSs.nox (pss_cons (ps_if (pt_cmpR op_eq (pv 1) pe_str (nomark _))
        (pss_one (ps_ret (pe_def G_number_of (hr.mono (by omega)) pass0 (pa_cons (pv 0) pa_nil))))
        pss_nil)
        (pss_cons (ps_set (i := 2) sc_thing_of.nd rfl (by first | exact Or.inl rfl | exact Or.inr rfl) (pe_callTy call_tuple_of (by rfl) T.f_tuple (by decide +kernel) (pa_cons (pe_lc (own := [("one", 3)]) (g := (gName 3)) (tt := tYes) rfl sc_thing_of.nd (pi_list (pe_split (pv 0) pe_str)) (blkOk_by (own := [("one", 3)]) (N := ["word", "sort", "found", "one"]) (sc := defScope s_thing_of) (by decide +kernel)) (fun _ _ _ _ _ => pg_name (i := 3) sc_thing_of.nd rfl (by first | exact Or.inl rfl | exact Or.inr rfl)) (fun _ _ _ _ _ => pts_nil) (fun _ _ _ _ _ => (pe_def G_number_of (hr.mono (by omega)) pass0 (pa_cons (pv 3) pa_nil)))) pa_nil)))
        (pss_one (ps_ret (pe_ifExp (pt_cmpR op_in_seq pe_non (pv 2) (by rfl)) pe_non (pv 2)))))), ?_⟩
    refine rd_vS rfl ⟨_, rfl, ifB (fun c => ?_) (fun c => ?_)⟩
    · have e : thingO so z = (numOf z).map .n := by unfold thingO; rw [if_pos c]
      refine ⟨_, rfl, ⟨z, rfl, hz, fun H' f => q H' _ f ?_⟩⟩
      rw [e]
      cases numOf z with
      | none => exact .non
      | some n => exact .int n
    · have e : thingO so z = (allN ((Txt.split z comma).map numOf)).map .k := by unfold thingO; rw [if_neg (by rw [c]; decide)]
      have hcm : tl comma ≠ [] := by decide +kernel
      have hpl := split_len (z := z) hcm (by decide +kernel)
      refine ⟨_, rfl, ⟨_, rfl⟩, z, comma, rfl, rfl, by decide +kernel, Nat.le_trans (m := 1000) (by omega) (by decide), fun p hp => ?_⟩
      have hpn := PyProof.Rows.split_le z comma
      have f1 : Fx [] H (upd H p (.lst ((Txt.split z comma).map V.str))) := Fx.new hp
      have hps : upd H p (.lst ((Txt.split z comma).map V.str)) p = some (.lst ((Txt.split z comma).map V.str)) := upd_same
      generalize upd H p (.lst ((Txt.split z comma).map V.str)) = H1 at f1 hps
      generalize hos : Txt.split z comma = ps at hps hpl hpn e
      refine ⟨p, rfl, ⟨_, SqL.of hps⟩, fun D hD => lc_map (walk_list (xs := ps.map V.str)) (fun i => oV ((ps.map numOf).getD i none)) (by rw [List.length_map]; omega) hD (fun H2 f => SqL.of (f.to hps (fun z => nomatch z))) (fun _ _ _ _ y => YAt.fx y) (fun i x H2 H3 Qe Z hi f y k => ?_) (fun H2 f hL => ?_)⟩
      · obtain ⟨rfl, hxg⟩ := y
        rw [List.getElem?_map] at hxg
        obtain ⟨w, hw, rfl⟩ := Option.map_eq_some_iff.mp hxg
        have ew : (ps.map numOf).getD i none = numOf w := getD_of (by rw [List.getElem?_map, hw]; rfl)
        rw [ew] at k
        have := hpl w (List.mem_of_getElem? hw)
        exact ⟨rfl, ifT rfl ⟨_, rfl, ⟨w, rfl, by omega, fun H' f' => k _ f'⟩⟩⟩
      · have eL : (List.range (ps.map V.str).length).map (fun i => oV ((ps.map numOf).getD i none)) = (ps.map numOf).map oV := by
          rw [List.length_map]
          refine List.ext_getElem? fun j => ?_
          rw [List.getElem?_map, List.getElem?_map, List.getElem?_map]
          by_cases c : j < ps.length
          · rw [List.getElem?_range c, List.getElem?_eq_getElem c]
            have : (ps.map numOf).getD j none = numOf ps[j] := getD_of (by rw [List.getElem?_map, List.getElem?_eq_getElem c]; rfl)
            show some (oV ((ps.map numOf).getD j none)) = some (oV (numOf ps[j]))
            rw [this]
          · rw [List.getElem?_eq_none (by simp; omega), List.getElem?_eq_none (by omega)]
            rfl
        rw [eL] at hL
        refine ⟨D, _, rfl, .inl ⟨SqL.of hL, fun l hl => ?_⟩⟩
        have f2 := (f1.trans f).trans (Fx.new (M := []) (o := HO.tup ((ps.map numOf).map oV)) hl)
        have hl2 : SqT K (upd H2 l (.tup ((ps.map numOf).map oV))) l ((ps.map numOf).map oV) := SqT.of upd_same
        refine ⟨_, rfl, l, _, rfl, .inr hl2, rfl, flat_oV _, ?_⟩
        rw [if_neg (by decide), inV_none]
        refine ⟨_, rfl, ifB (fun c4 => ?_) (fun c4 => ?_)⟩
        · rw [Option.isNone_iff_eq_none] at c4
          rw [e, c4] at q
          exact q _ _ f2 .non
        · cases hA : allN (ps.map numOf) with
          | none => rw [hA] at c4; cases c4
          | some ns =>
            have em := allN_some hA
            rw [e, hA] at q
            refine ⟨_, rfl, q _ _ f2 (.tup hl2 ?_)⟩
            rw [em, List.map_map]
            exact Dp.ints ns
end Mh
/-! MhZipS -/
/-! zip(list, text): the list as it stands at each turn, the text's signs. -/
namespace Mh
open PySem PySem.Spec PyProof PyProof.Rows L2
def ItzX (K : PySem.W.Frag) (a : Addr) (x : Str) : It :=
  ⟨fun i H => ∃ (xs : List V) (v : V), SqL K H a xs ∧ xs[i]? = some v ∧ i < x.cps.size,
    fun i H v H' => ∃ T y c, v = .ref T ∧ H T = none ∧ H' = upd H T (.tup [y, .str ⟨#[c]⟩]) ∧ (∀ xs, SqL K H a xs → xs[i]? = some y) ∧ x.cps[i]? = some c,
    fun i H => ∃ xs : List V, SqL K H a xs ∧ i ≤ xs.length ∧ i ≤ x.cps.size ∧ (i = xs.length ∨ i = x.cps.size)⟩
def ZsA (z TI TO i1 i2 a : Addr) : Prop := ZipSep2 z TI TO i1 i2 [i1, a] [i2]
theorem zs_new (n a : Nat) (h : a < n) : ZsA (n + 4) (n + 2) (n + 3) n (n + 1) a := by
  unfold ZsA
  constructor <;> first
    | (simp; done)
    | (simp; omega)
    | (intro e; have e : (n : Nat) + _ = _ := e; omega)
    | (simp only [List.mem_cons, List.mem_nil_iff, or_false, not_or]; constructor <;> (intro e; have e : (_ : Nat) = _ := e; omega))
theorem turn_zipX {P : Program} {w : World} {K : PySem.W.Frag} {elts : List Expr} {kk : Nat} {tpos : Pos} {a z TI TO i1 i2 : Addr} {x : Str} {t : Tok} (D : ZsA z TI TO i1 i2 a) (hai : a ≠ i1) :
    Turn P w K (.Tuple elts kk tpos) (ItzX K a x) [z, TI, TO, i1, i2] z (fun i h => IsZip h z TI TO .none ∧ IsTupOf2 h TI (.ref i1) (.ref i2) ∧ (∃ x y, IsTupOf2 h TO x y) ∧ h.IsListIter i1 a i ∧ h.IsStrIter i2 (strIterType x) x t i) where
  mem := by simp
  obj := fun i h st c hc => by
    obtain ⟨hz, hTI, ⟨x, y, hTO⟩, ⟨o1, e1, _, d1⟩, ⟨o2, e2, _, d2⟩⟩ := st
    have e' : c = z ∨ c = TI ∨ c = TO ∨ c = i1 ∨ c = i2 := by simpa using hc
    rcases e' with q | q | q | q | q
    · rw [q]; exact ⟨_, hz, fun v q => nomatch q⟩
    · rw [q]; exact ⟨_, hTI, fun v q => nomatch q⟩
    · rw [q]; exact ⟨_, hTO, fun v q => nomatch q⟩
    · rw [q]; exact ⟨o1, e1, fun v q => by rw [d1] at q; cases q⟩
    · rw [q]; exact ⟨o2, e2, fun v q => by rw [d2] at q; cases q⟩
  keep := fun i h h' st k => by
    obtain ⟨hz, hTI, ⟨x, y, hTO⟩, h1, ⟨o2, e2, r2⟩⟩ := st
    exact ⟨k z (by simp) _ hz, k TI (by simp) _ hTI, ⟨x, y, k TO (by simp) _ hTO⟩, h1.at fun o q => k i1 (by simp) o q, ⟨o2, k i2 (by simp) o2 e2, r2⟩⟩
  item := by
    intro X hP hw hK hc i pins s σ H E I hf st hg
    subst hP hw hK
    obtain ⟨hz, hTI, ⟨x0, y0, hTO⟩, h1, h2⟩ := st
    obtain ⟨xs, v, hqx, hx, hlt2⟩ := hg
    obtain ⟨its, rv, p, _⟩ := I.list hqx
    obtain ⟨u, hu, ru⟩ := rv.get hx
    have hzl : z < s.heap.objs.size := Heap.lt_size hz
    have D1 := Draws.list (prog := X.prog) (w := X.w) (A := X.A.in1) (by first | exact I.ok.hd hc | simpa using I.ok.hd hc) i1 a hai its.toArray
    have D2 := Draws.text (prog := X.prog) (w := X.w) (A := X.A.in1) (by first | exact I.ok.hd hc | simpa using I.ok.hd hc) i2 x t
    have hlt : i < its.toArray.size := by
      obtain ⟨q, _⟩ := List.getElem?_eq_some_iff.mp hu
      simpa using q
    refine wpAny_pyNext_zipD2_item D D1 D2 hz hTI hTO ⟨h1, p.isList⟩ h2 hlt hlt2 fun u1 u2 h' tk g1 g2 z' TO' s1' s2' hT hsz hk => ?_
    obtain ⟨c, t2, hcx, rfl⟩ := g2
    have e1 : u1 = u := by
      have g1' : its.toArray[i]? = some u1 := g1
      rw [List.getElem?_toArray, hu] at g1'
      exact ((Option.some.inj g1').symm)
    subst e1
    refine ⟨_, rfl, wpAny_letOwnedTupleGo_zip (s := { s with heap := h', toks := tk }) z' fun h'' z'' sb => ?_⟩
    have hT2 : h''.get? s.heap.objs.size = some { cls := .type "tuple", data := .seq #[u1, .str ⟨#[c]⟩ t2] } := (sb.2 _ (Nat.ne_of_gt hzl)).trans hT
    have new : ObjOk X.prog X.w (upd H s.heap.objs.size (.tup [v, .str ⟨#[c]⟩])) h'' s.heap.objs.size (.tup [v, .str ⟨#[c]⟩]) :=
      ⟨by show 2 ≤ sizeLine; decide, [u1, .str ⟨#[c]⟩ t2], .cons ru (.cons ⟨t2, rfl⟩ .nil), ⟨_, hT2, rfl, _, rfl⟩⟩
    have I1 : Inv X pins σ (upd H s.heap.objs.size (.tup [v, .str ⟨#[c]⟩])) { s with heap := h'', toks := tk } :=
      I.turnedNew (t' := tk) (ch := [z, TI, TO, i1, i2]) (fun c o hb q => (sb.2 c (fun q' => hb (by simp [q']))).trans (hk c o (fun q' => hb (by simp [q'])) (fun q' => hb (by simp [q'])) (fun q' => hb (by simp [q'])) (fun q' => hb (by simp [q'])) q)) hf (Nat.le_refl _) new
    refine ⟨.ref s.heap.objs.size, _, I1, rfl, ⟨_, v, c, rfl, I.hok.fresh (Nat.le_refl _), rfl, fun l hl => by rw [I.list_inj hl hqx]; exact hx, hcx⟩, ⟨z'', ?_, ⟨u1, .str ⟨#[c]⟩ t2, ?_⟩, ?_, ?_⟩, fun c hcm => ?_⟩
    · exact (sb.2 _ D.TIz).trans (hk _ _ D.TIz D.TITO D.TIi1 D.TIi2 hTI)
    · exact (sb.2 _ D.TOz).trans TO'
    · exact s1'.1.at fun o q => (sb.2 _ D.zi1.symm).trans q
    · obtain ⟨o2, e2, r2⟩ := s2'
      exact ⟨o2, (sb.2 _ D.zi2.symm).trans e2, r2⟩
    · have hlt : c < s.heap.objs.size := by
        have e' : c = z ∨ c = TI ∨ c = TO ∨ c = i1 ∨ c = i2 := by simpa using hcm
        rcases e' with q | q | q | q | q
        · rw [q]; exact hzl
        · rw [q]; exact Heap.lt_size hTI
        · rw [q]; exact Heap.lt_size hTO
        · rw [q]; obtain ⟨_, e1, _⟩ := h1; exact Heap.lt_size e1
        · rw [q]; obtain ⟨_, e2, _⟩ := h2; exact Heap.lt_size e2
      rw [upd_ne (Nat.ne_of_lt hlt)]
      exact (hf c hcm).1
  done := by
    intro X hP hw hK hc i pins s σ H E I hf st hg
    subst hP hw hK
    obtain ⟨hz, hTI, ⟨x0, y0, hTO⟩, h1, h2⟩ := st
    obtain ⟨xs, hqx, l1, l2, he⟩ := hg
    obtain ⟨its, rv, p, _⟩ := I.list hqx
    have e1 := rv.length
    have D1 := Draws.list (prog := X.prog) (w := X.w) (A := X.A.in1) (by first | exact I.ok.hd hc | simpa using I.ok.hd hc) i1 a hai its.toArray
    have D2 := Draws.text (prog := X.prog) (w := X.w) (A := X.A.in1) (by first | exact I.ok.hd hc | simpa using I.ok.hd hc) i2 x t
    have sz : its.toArray.size = its.length := by simp
    exact wpAny_pyNext_zipD2_end D D1 D2 hz hTI hTO ⟨h1, p.isList⟩ h2 (by omega) l2 (he.imp (fun e => by omega) id) fun h' tk hk => ⟨rfl, I.turnedL (t' := tk) (ch := [z, TI, TO, i1, i2]) (fun c o hb q =>
      hk c o (fun q' => hb (by simp [q'])) (fun q' => hb (by simp [q'])) (fun q' => hb (by simp [q'])) (fun q' => hb (by simp [q'])) q) hf⟩
  self := fun A i s Q E st h => wpAny_pyIter_zip st.1 h
def iZipX (K : PySem.W.Frag) (ta : TA) : TI := fun σ H R => ta σ H fun vs H1 => ∃ a x xs, vs = [.ref a, .str x] ∧ SqL K H1 a xs ∧ R (ItzX K a x) H1
theorem pi_zipX {X : Cx} {e e2 : Expr} {ta : TA} {p pos tpos : Pos} {elts : List Expr} {kk : Nat} (hg : Gl X "zip") (hm : X.mg "zip" = none) (ha : PA X [e, e2] ta)
    (hs : starEach [e, e2] X.env = (false, eval e X.env) :: starEach [e2] X.env := by rfl) (hpl : (backTo pos (starEach [e2] X.env)).any (·.1) = false := by rfl) :
    PI X (.Tuple elts kk tpos) (.Call (.Name "zip" p) [e, e2] [] pos) (iZipX X.K ta) := by
  refine ⟨fun pins s σ H R I h => ?_⟩
  refine Call_ (ld_blt I hg hm PyProof.Rows.boot_zip (PyProof.Rows.callWith_type1 (thn (ha.run pos pins s σ H _ I h) fun us s1 ⟨vs, H1, I1, r1, q1⟩ => ?_) hs hpl))
  obtain ⟨a, x, xs, ex, hqx, q⟩ := q1
  subst ex
  cases r1 with
  | cons r rr =>
    cases rr with
    | cons r' rr =>
      cases rr
      cases r
      obtain ⟨t, rfl⟩ := r'
      obtain ⟨its, rv, p1, _⟩ := I1.list hqx
      have la : a < s1.heap.objs.size := p1.lt
      refine zip_begins2 (begins_list a its.toArray) (begins_text x t) p1.isList trivial fun h' hz hTI hTO h1 h2 hsz hk => wpAny_pyIter_zip hz ?_
      have I2 : Inv X pins σ H1 { s1 with heap := h' } := I1.kept (t' := s1.toks) hk
      refine ⟨s1.heap.objs.size + 4, [s1.heap.objs.size + 4, s1.heap.objs.size + 2, s1.heap.objs.size + 3, s1.heap.objs.size, s1.heap.objs.size + 1], _, _, H1, rfl, I2, turn_zipX (t := t) (zs_new s1.heap.objs.size a la) (Nat.ne_of_lt la), ⟨hz, hTI, ⟨_, _, hTO⟩, ⟨_, h1, rfl, rfl⟩, ⟨_, h2, rfl, rfl⟩⟩, fun c hcm => ?_, q⟩
      have e' : c = s1.heap.objs.size + 4 ∨ c = s1.heap.objs.size + 2 ∨ c = s1.heap.objs.size + 3 ∨ c = s1.heap.objs.size ∨ c = s1.heap.objs.size + 1 := by simpa using hcm
      have hle : s1.heap.objs.size ≤ c := by
        rcases e' with z | z | z | z | z
        · rw [z]; exact Nat.le_add_right _ _
        · rw [z]; exact Nat.le_add_right _ _
        · rw [z]; exact Nat.le_add_right _ _
        · rw [z]; exact Nat.le_refl _
        · rw [z]; exact Nat.le_add_right _ _
      exact I1.fpOk hle (I1.hok.fresh hle)
def YZx (xs : List V) (x : Str) (i : Nat) (H : Hp) (v : V) (H' : Hp) : Prop := ∃ T y c, v = .ref T ∧ H T = none ∧ H' = upd H T (.tup [y, .str ⟨#[c]⟩]) ∧ xs[i]? = some y ∧ x.cps[i]? = some c
theorem walk_zipX {K : PySem.W.Frag} {a : Addr} {x : Str} {xs : List V} {n : Nat} (hn : n = min xs.length x.cps.size) : Walk (ItzX K a x) n (fun H => SqL K H a xs) (YZx xs x) := by
  subst hn
  refine ⟨fun i _ hi q => ?_, fun _ q => ⟨xs, q, by omega, by omega, by omega⟩, fun i H v H' _ q y => ?_⟩
  · have h1 : i < xs.length := by omega
    exact ⟨xs, xs[i], q, by simp [h1], by omega⟩
  · obtain ⟨T, z, c, h1, h2, h3, h4, h5⟩ := y
    exact ⟨T, z, c, h1, h2, h3, h4 xs q, h5⟩
end Mh
/-! MhTabO -/
namespace Mh
open PySem PySem.Spec PyProof.Rows L2
/-! ### a dict of the written part at any text -/
theorem keyOf_str {e : DictEntry} {k : Str} {n : Int} (h : He.keyOf e = some (k, n)) : ∃ t, e.key = .str k t := by
  unfold He.keyOf at h
  split at h
  · rename_i x t q
    obtain ⟨h1, _⟩ := Prod.mk.inj (Option.some.inj h)
    exact ⟨t, by rw [q, h1]⟩
  · cases h
theorem keys_find {P : Params} {z : Str} : ∀ {l : List DictEntry} {ks : List Str}, l.map He.keyOf = He.keysIn P ks → z ∉ ks → l.find? (·.key.isStr z) = none ∧ l.any (·.refKey) = false
  | [], _, _, _ => ⟨rfl, rfl⟩
  | e :: r, [], h, _ => by cases h
  | e :: r, k :: ks, h, hz => by
    have h1 : He.keyOf e :: r.map He.keyOf = some (k, PyData.keyHash P k) :: He.keysIn P ks := h
    injection h1 with h2 h3
    obtain ⟨t, ht⟩ := keyOf_str h2
    obtain ⟨i1, i2⟩ := keys_find h3 fun m => hz (List.mem_cons_of_mem _ m)
    have n1 : e.key.isStr z = false := by
      rw [ht]
      cases q : (Value.str k t).isStr z with
      | false => rfl
      | true =>
        exfalso
        have q : (k == z) = true := q
        have := eq_of_beq q
        exact hz (this ▸ List.mem_cons_self)
    refine ⟨?_, ?_⟩
    · rw [List.find?_cons, n1]
      exact i1
    · rw [List.any_cons, i2]
      unfold DictEntry.refKey
      rw [ht]
      rfl
theorem nsIn_out {K : PySem.W.Frag} {P : Params} {d : Addr} {ks : List Str} {z : Str} (h : He.dicW K d = some (He.keysIn P ks)) (hz : z ∉ ks) : PySem.W.nsIn K d z = some none := by
  unfold He.dicW at h
  unfold PySem.W.nsIn
  split at h
  · rename_i c es n sl q
    rw [q]
    split at h
    · obtain ⟨i1, i2⟩ := keys_find (Option.some.inj h) hz
      simp only [i1, i2]
      rfl
    · cases h
  · cases h
theorem TabD.out {K : PySem.W.Frag} {w : World} (c : TabD K w) (i : Nat) {x z : Str} {ks : List Str} (h : tabsW[i]? = some (x, ks)) (hz : z ∉ ks) : PySem.W.nsIn K (He.ga K x) z = some none := by
  have e := c.t
  have e2 : (tabsW.map fun t => He.dicW K (He.ga K t.1))[i]? = (tabsW.map fun t => some (He.keysIn w.params t.2))[i]? := by rw [e]
  rw [List.getElem?_map, List.getElem?_map, h] at e2
  exact nsIn_out (Option.some.inj e2) hz
theorem TabD.outM {K : PySem.W.Frag} {w : World} (c : TabD K w) {x z : Str} {ks : List Str} (h : (x, ks) ∈ tabsW) (hz : z ∉ ks) : PySem.W.nsIn K (He.ga K x) z = some none := by
  obtain ⟨i, hi, e⟩ := List.getElem_of_mem h
  exact c.out i (by rw [List.getElem?_eq_getElem hi, e]) hz
end Mh
/-! MhTupA -/
namespace Mh
open PySem PySem.Spec PyProof.Rows L2
/-! ### tuples joined and cut, empty ones and whole ones too -/
theorem kop_catAny {X : Cx} {K : PySem.W.Frag} (h : X.K = K) : OpR X (binaryOp .Add) (rCatA K) := by rw [← h]; exact op_catA
theorem ksl_tupAny {X : Cx} {K : PySem.W.Frag} (h : X.K = K) : SlR X (rSlA K) := by rw [← h]; exact sl_tupA
section
variable {K : PySem.W.Frag} {H : Hp} {Q : VK} {a b : Addr} {xs ys : List V}
theorem rd_catA (ha : SqT K H a xs) (hb : SqT K H b ys) (hl : xs.length + ys.length ≤ sizeLine) (q : ∀ p H', Fx [] H H' → SqT K H' p (xs ++ ys) → Q (.ref p) H') : rCatA K (.ref a) (.ref b) H Q := by
  refine ⟨a, b, xs, ys, rfl, rfl, ha, hb, hl, fun e => q b H .refl (by rw [e]; exact hb), fun _ e => q a H .refl (by rw [e, List.append_nil]; exact ha), fun _ _ p hp => ?_⟩
  exact q p _ (Fx.new hp) (SqT.of upd_same)
theorem cutV_take {n : Nat} : cutV xs none (some (n : Int)) = xs.take n := by
  unfold cutV
  rw [HT.sIx_none, HT.sIx_nat, List.drop_zero, Nat.sub_zero]
  rcases Nat.le_total n xs.length with h | h
  · rw [Nat.min_eq_left h]
  · rw [Nat.min_eq_right h, List.take_length, List.take_of_length_le h]
theorem cutV_drop {n : Nat} (hn : n ≤ xs.length) : cutV xs (some (n : Int)) none = xs.drop n := by
  unfold cutV
  rw [HT.sIx_none, HT.sIx_nat, Nat.min_eq_left hn]
  exact List.take_of_length_le (by rw [List.length_drop]; omega)
theorem rd_takeN {n : Nat} (ha : SqT K H a xs) (q : ∀ p H', Fx [] H H' → SqT K H' p (xs.take n) → Q (.ref p) H') : rSlA K (.ref a) none (some (n : Int)) H Q := by
  refine ⟨a, xs, rfl, ha, fun e => ?_, fun _ p hp => ?_⟩
  · have : xs.length ≤ n := by
      have e2 := e.2
      rw [HT.sIx_nat] at e2
      omega
    exact q a H .refl (by rw [List.take_of_length_le this]; exact ha)
  · rw [cutV_take]
    exact q p _ (Fx.new hp) (SqT.of upd_same)
theorem rd_takeA {n : Nat} (ha : SqT K H a xs) (_hn : n ≤ xs.length) (q : ∀ p H', Fx [] H H' → SqT K H' p (xs.take n) → Q (.ref p) H') : rSlA K (.ref a) none (some (n : Int)) H Q := rd_takeN ha q
theorem rd_dropA {n : Nat} (ha : SqT K H a xs) (hn : n ≤ xs.length) (q : ∀ p H', Fx [] H H' → SqT K H' p (xs.drop n) → Q (.ref p) H') : rSlA K (.ref a) (some (n : Int)) none H Q := by
  refine ⟨a, xs, rfl, ha, fun e => ?_, fun _ p hp => ?_⟩
  · have : n = 0 := by
      have e2 := e.1
      rw [HT.sIx_nat, Nat.min_eq_left hn] at e2
      exact e2
    exact q a H .refl (by rw [this, List.drop_zero]; exact ha)
  · rw [cutV_drop hn]
    exact q p _ (Fx.new hp) (SqT.of upd_same)
theorem DpAll.takeN : ∀ {vs : List V} {ds : List PyData} (n : Nat), DpAll K H vs ds → DpAll K H (vs.take n) (ds.take n)
  | _, _, n, .nil => by rw [List.take_nil, List.take_nil]; exact .nil
  | _, _, 0, .cons r t => .nil
  | _, _, n + 1, .cons r t => .cons r (DpAll.takeN n t)
theorem DpAll.dropN : ∀ {vs : List V} {ds : List PyData} (n : Nat), DpAll K H vs ds → DpAll K H (vs.drop n) (ds.drop n)
  | _, _, n, .nil => by rw [List.drop_nil, List.drop_nil]; exact .nil
  | _, _, 0, .cons r t => .cons r t
  | _, _, n + 1, .cons r t => DpAll.dropN n t
end
theorem Fx.only {M N : List Addr} {H H' : Hp} (f : Fx M H H') (h : ∀ z ∈ M, H z = none ∨ z ∈ N) : Fx N H H' :=
  ⟨fun a o e n => f.k a o e fun m => (h a m).elim (fun z => by rw [e] at z; cases z) n, f.t, f.z, f.d⟩
theorem rg_all {K : PySem.W.Frag} {H : Hp} (a : Int) : ∀ l : List Nat, DpAll K H (l.map fun i => V.int (a + (i : Nat))) (l.map fun (i : Nat) => PyData.int (a + (i : Int)))
  | [] => .nil
  | _ :: l => .cons (.int _) (rg_all a l)
theorem rg_nol (a : Int) : ∀ l : List Nat, nolA (l.map fun (i : Nat) => PyData.int (a + (i : Int))) = true
  | [] => rfl
  | _ :: l => rg_nol a l
theorem DpF.but {K : PySem.W.Frag} {H0 H H' : Hp} {v : V} {d : PyData} {M : List Addr} (k : DpF K H0 H v d) (f : Fx M H H') (h : ∀ z ∈ M, H0 z ≠ none ∨ H z = none) : Dp K H' v d := by
  refine k (M.filter fun z => (H0 z).isSome) H' (fun z m e => ?_) (f.only fun z m => ?_)
  · have := (List.mem_filter.mp m).2
    rw [e] at this
    cases this
  · rcases h z m with q | q
    · refine .inr (List.mem_filter.mpr ⟨m, ?_⟩)
      cases e : H0 z with
      | none => exact absurd e q
      | some o => rfl
    · exact .inl q
theorem DpAll.rep {K : PySem.W.Frag} {H : Hp} {vs : List V} {ds : List PyData} (h : DpAll K H vs ds) : ∀ n : Nat, DpAll K H (List.replicate n vs).flatten (List.replicate n ds).flatten
  | 0 => .nil
  | n + 1 => by
    rw [List.replicate_succ, List.replicate_succ, List.flatten_cons, List.flatten_cons]
    exact DpAll.app h (DpAll.rep h n)
theorem nolA_of : ∀ {ds : List PyData}, (∀ d ∈ ds, nol d = true) → nolA ds = true
  | [], _ => rfl
  | d :: ds, h => by
    show (nol d && nolA ds) = true
    rw [h d List.mem_cons_self, nolA_of fun z m => h z (List.mem_cons_of_mem _ m)]
    rfl
/-- the suite of an if of two tests, walked once -/
theorem ifOr_J {ta tb : TT} {A B : TS} {D : Ends} {σ : L2.St} {H : Hp} (J : Hp → Prop) (hA : ∀ H', J H' → A D σ H') (h : (∀ H', J H' → A D σ H') → tIfS (tOr ta tb) A B D σ H) : tIfS (tOr ta tb) A B D σ H := h hA
/-- tuple(range(a, b)), its bounds known -/
theorem pd_tupRg {X : Cx} {K : PySem.W.Frag} {e : Expr} {te : L2.St → Hp → (Int → Int → Hp → Prop) → Prop} (a b : Int) (h : PE X e (tTupRg te)) (hte : ∀ σ H k, k a b H → te σ H k) (ho : RgOk a b) :
    PD X K e (fun _ _ d => d = .tuple ((List.range (b - a).toNat).map fun (i : Nat) => PyData.int (a + (i : Int)))) := by
  refine ⟨h.weak fun σ H Q ⟨d, ed, q⟩ => ?_, fun _ _ _ _ _ h => h⟩
  subst ed
  refine hte σ H _ ⟨ho, fun p hp => ?_⟩
  have f : Fx [] H (upd H p (.tup (rgV a b))) := Fx.new hp
  refine q _ _ f (DpF.tup (SqT.of upd_same) ?_)
  exact DpFA.ofN (rg_all a _) (rg_nol a _)
/-- list(t), t a tuple by name -/
theorem pd_listOf {X : Cx} {K : PySem.W.Frag} {e : Expr} {i : Nat} (h : PE X e (tCB (fun xs H Q => ∃ p ys, xs = [V.ref p] ∧ (SqL X.K H p ys ∨ SqT X.K H p ys) ∧ ∀ l, H l = none → Q (.ref l) (upd H l (.lst ys))) (tCons (tVar i) tNil))) (hK : X.K = K := by rfl) :
    PD X K e (fun σ H d => ∃ v ds, d = .list ds ∧ σ[i]? = some (some v) ∧ Dp K H v (.tuple ds) ∧ nolA ds = true) := by
  refine ⟨h.weak fun σ H Q ⟨d, ⟨v, ds, ed, ev, hd, n⟩, q⟩ => ?_, fun σ H H' d f ⟨v, ds, ed, ev, hd, n⟩ => ⟨v, ds, ed, ev, hd.mv f n, n⟩⟩
  subst ed
  subst hK
  obtain ⟨a, xs, rfl, hs, hx⟩ := hd.tupI
  refine ⟨_, ev, a, xs, rfl, .inr hs, fun l hl => ?_⟩
  have f : Fx [] H (upd H l (.lst xs)) := Fx.new hl
  exact q _ _ f (DpF.lst hl upd_same (DpFA.ofN (hx.ext f) n))
end Mh
/-! MhPartP -/
namespace Mh
open PySem PySem.Spec PyProof.Rows L2 TL
theorem un65 {k : Nat} {A : Around} (r : Room k A) : A.units + 65 < cLine := by
  have := r.un
  omega
/-! ### what words begin with -/
def formsT : List (Str × Str) := [("any", ""), ("below", "n"), ("rest", "nn"), ("chance", "nn"), ("known", "k")]
def formsA : List (Str × Str) := [("num", "n"), ("plus", "n"), ("times", "n"), ("rest", "n"), ("none", "")]
def formOf (b : Bool) (z : Str) : Option Str := (if b then formsT else formsA).lookup z
def signs (f : Str) : List Str := f.cps.toList.map fun c => ⟨#[c]⟩
def allT : List (Option Thing) → Option (List Thing)
  | [] => some []
  | some n :: r => (allT r).map (n :: ·)
  | none :: _ => none
def partO (b : Bool) : List Str → Option (Part × List Str)
  | [] => none
  | w :: r => match formOf b w with
    | none => none
    | some f => if r.length + 1 ≤ f.length then none else (allT ((r.zip (signs f)).map fun q => thingO q.2 q.1)).map fun ts => (⟨w, ts⟩, r.drop f.length)
theorem partO_cons (b : Bool) (w : Str) (r : List Str) : partO b (w :: r) = match formOf b w with
    | none => none
    | some f => if r.length + 1 ≤ f.length then none else (allT ((r.zip (signs f)).map fun q => thingO q.2 q.1)).map fun ts => (⟨w, ts⟩, r.drop f.length) := rfl
theorem allT_some : ∀ {os : List (Option Thing)} {ns : List Thing}, allT os = some ns → os = ns.map some
  | [], ns, h => by
    cases h
    rfl
  | some n :: r, ns, h => by
    have h2 : (allT r).map (n :: ·) = some ns := h
    obtain ⟨ms, e1, rfl⟩ := Option.map_eq_some_iff.mp h2
    rw [allT_some e1]
    rfl
  | none :: r, ns, h => nomatch h
theorem allT_none : ∀ {os : List (Option Thing)}, allT os = none ↔ none ∈ os
  | [] => by simp [allT]
  | some n :: r => by
    show (allT r).map (n :: ·) = none ↔ _
    rw [Option.map_eq_none_iff, allT_none]
    simp
  | none :: r => by simp [allT]
theorem thing_non (o : Option Thing) : PyData.eqv (thingV o) .none = o.isNone := by
  cases o with
  | none => rfl
  | some t => cases t <;> rfl
theorem things_non (os : List (Option Thing)) : ((os.map thingV).any fun z => PyData.eqv z .none) = (allT os).isNone := by
  rw [Bool.eq_iff_iff, Option.isNone_iff_eq_none, allT_none, List.any_eq_true]
  constructor
  · rintro ⟨y, hy, e⟩
    obtain ⟨o, ho, rfl⟩ := List.mem_map.mp hy
    rw [thing_non, Option.isNone_iff_eq_none] at e
    rw [← e]
    exact ho
  · intro h
    exact ⟨_, List.mem_map.mpr ⟨none, h, rfl⟩, rfl⟩
theorem thingV_small (o : Option Thing) : (thingV o).canLay0 = true ∧ (thingV o).depth ≤ 3 := by
  cases o with
  | none => exact ⟨rfl, by decide⟩
  | some t =>
    cases t with
    | n i => exact ⟨rfl, by show PyData.depth (.int i) ≤ 3; simp [PyData.depth]⟩
    | k ns =>
      have h : ∀ ns : List Int, PyData.canLayAll0 (ns.map .int) = true ∧ PyData.depthAll (ns.map .int) ≤ 1 := by
        intro ns
        induction ns with
        | nil => exact ⟨by simp [PyData.canLayAll0], by simp [PyData.depthAll]⟩
        | cons n ns ih => exact ⟨by simp [PyData.canLayAll0, PyData.canLay0, ih.1], by simp [PyData.depthAll, PyData.depth, ih.2]⟩
      obtain ⟨h1, h2⟩ := h ns
      refine ⟨by show PyData.canLay0 (.tuple (ns.map .int)) = true; simp only [PyData.canLay0]; exact h1, ?_⟩
      show PyData.depth (.tuple (ns.map .int)) ≤ 3
      simp only [PyData.depth]
      omega
theorem things_shaped (os : List (Option Thing)) : SeqAt.shaped (.list (os.map thingV)) = true := by
  have h : PyData.canLayAll0 (os.map thingV) = true ∧ PyData.depthAll (os.map thingV) ≤ 3 := by
    induction os with
    | nil => exact ⟨by simp [PyData.canLayAll0], by simp [PyData.depthAll]⟩
    | cons o os ih =>
      obtain ⟨h1, h2⟩ := thingV_small o
      exact ⟨by simp [PyData.canLayAll0, h1, ih.1], by simp only [List.map_cons, PyData.depthAll]; have := ih.2; omega⟩
  show (PyData.canLay0 (.list (os.map thingV)) && decide (PyData.depth (.list (os.map thingV)) ≤ 64)) = true
  rw [Bool.and_eq_true_iff]
  refine ⟨by simp only [PyData.canLay0]; exact h.1, decide_eq_true ?_⟩
  simp only [PyData.depth]
  have := h.2
  omega
theorem dpStrs {K : PySem.W.Frag} {H : Hp} : ∀ l : List Str, DpAll K H (l.map V.str) (l.map .str)
  | [] => .nil
  | n :: l => .cons (.str n) (dpStrs l)
theorem strs_shaped {ws : List Str} (h : ∀ w ∈ ws, PyData.strOk w = true) : SeqAt.shaped (.list (ws.map .str)) = true := by
  have h : PyData.canLayAll0 (ws.map .str) = true ∧ PyData.depthAll (ws.map .str) ≤ 1 := by
    induction ws with
    | nil => exact ⟨by simp [PyData.canLayAll0], by simp [PyData.depthAll]⟩
    | cons w ws ih =>
      obtain ⟨i1, i2⟩ := ih fun w m => h w (List.mem_cons_of_mem _ m)
      have h0 := h w List.mem_cons_self
      exact ⟨by simp [PyData.canLayAll0, PyData.canLay0, h0, i1], by simp [PyData.depthAll, PyData.depth, i2]⟩
  show (PyData.canLay0 (.list (ws.map .str)) && decide (PyData.depth (.list (ws.map .str)) ≤ 64)) = true
  rw [Bool.and_eq_true_iff]
  refine ⟨by simp only [PyData.canLay0]; exact h.1, decide_eq_true ?_⟩
  simp only [PyData.depth]
  have := h.2
  omega
def FormK (K : PySem.W.Frag) (b : Bool) (z : Str) : Prop := ∃ r, PySem.W.nsIn K (He.ga K (if b then "TESTS" else "ANSWERS")) z = some r ∧ (∀ u, r = some u → ∃ f, formOf b z = some f ∧ RelV (.str f) u) ∧ (r = none → formOf b z = none)
theorem form_kd {K : PySem.W.Frag} {w : World} (TD : TabD K w) (b : Bool) (z : Str) : FormK K b z := by
  have st : ∀ {b : Bool} {z f : Str}, (∃ u, PySem.W.nsIn K (He.ga K (if b then "TESTS" else "ANSWERS")) z = some (some u) ∧ RelV (.str f) u) → formOf b z = some f → FormK K b z := fun ⟨u, h1, h2⟩ e => ⟨some u, h1, fun u' e' => by cases e'; exact ⟨_, e, h2⟩, fun e' => nomatch e'⟩
  cases b with
  | true =>
    by_cases h : z ∈ (["any", "below", "rest", "chance", "known"] : List Str)
    · simp only [List.mem_cons, List.mem_nil_iff, or_false] at h
      rcases h with rfl | rfl | rfl | rfl | rfl
      · exact st TD.v_TESTS_any (by decide +kernel)
      · exact st TD.v_TESTS_below (by decide +kernel)
      · exact st TD.v_TESTS_rest (by decide +kernel)
      · exact st TD.v_TESTS_chance (by decide +kernel)
      · exact st TD.v_TESTS_known (by decide +kernel)
    · refine ⟨none, TD.outM (x := "TESTS") (ks := ["any", "below", "rest", "chance", "known"]) (by decide +kernel) h, (fun u e => nomatch e), fun _ => ?_⟩
      simp only [List.mem_cons, List.mem_nil_iff, or_false, not_or] at h
      obtain ⟨h1, h2, h3, h4, h5⟩ := h
      show List.lookup z formsT = none
      unfold formsT
      simp only [List.lookup, beq_eq_false_iff_ne.mpr h1, beq_eq_false_iff_ne.mpr h2, beq_eq_false_iff_ne.mpr h3, beq_eq_false_iff_ne.mpr h4, beq_eq_false_iff_ne.mpr h5]
  | false =>
    by_cases h : z ∈ (["num", "plus", "times", "rest", "none"] : List Str)
    · simp only [List.mem_cons, List.mem_nil_iff, or_false] at h
      rcases h with rfl | rfl | rfl | rfl | rfl
      · exact st TD.v_ANSWERS_num (by decide +kernel)
      · exact st TD.v_ANSWERS_plus (by decide +kernel)
      · exact st TD.v_ANSWERS_times (by decide +kernel)
      · exact st TD.v_ANSWERS_rest (by decide +kernel)
      · exact st TD.v_ANSWERS_none (by decide +kernel)
    · refine ⟨none, TD.outM (x := "ANSWERS") (ks := ["num", "plus", "times", "rest", "none"]) (by decide +kernel) h, (fun u e => nomatch e), fun _ => ?_⟩
      simp only [List.mem_cons, List.mem_nil_iff, or_false, not_or] at h
      obtain ⟨h1, h2, h3, h4, h5⟩ := h
      show List.lookup z formsA = none
      unfold formsA
      simp only [List.lookup, beq_eq_false_iff_ne.mpr h1, beq_eq_false_iff_ne.mpr h2, beq_eq_false_iff_ne.mpr h3, beq_eq_false_iff_ne.mpr h4, beq_eq_false_iff_ne.mpr h5]
theorem form_len {b : Bool} {z f : Str} (h : formOf b z = some f) : f.length ≤ 2 := by
  have key : ∀ (l : List (Str × Str)), (∀ p ∈ l, p.2.length ≤ 2) → l.lookup z = some f → f.length ≤ 2 := by
    intro l
    induction l with
    | nil => intro _ e; cases e
    | cons p l ih =>
      intro hl e
      obtain ⟨k, v⟩ := p
      rw [List.lookup_cons] at e
      split at e
      · cases e
        exact hl (k, f) List.mem_cons_self
      · exact ih (fun p m => hl p (List.mem_cons_of_mem _ m)) e
  cases b with
  | true => exact key formsT (by decide +kernel) h
  | false => exact key formsA (by decide +kernel) h
end Mh
/-! MhPartOf -/
namespace Mh
open PySem PySem.Spec PyProof.Rows L2 TL
def formV : Option Str → V
  | none => .non
  | some f => .str f
def PartV (K : PySem.W.Frag) (H : Hp) (v : V) : Option (Part × List Str) → Prop
  | none => v = .non
  | some (p, r) => ∃ T pv l, v = .ref T ∧ H T = some (.tup [pv, .ref l]) ∧ Dp K H pv p.d ∧ H l = some (.lst (r.map V.str))
theorem thingV_nol (o : Option Thing) : nol (thingV o) = true := by
  cases o with
  | none => rfl
  | some t =>
    cases t with
    | n i => rfl
    | k ns => exact nol_ints ns
theorem sc_part_of : FnScope ["words", "is_test", "word", "form", "things", "sort"] ["words", "is_test"] (defScope s_part_of) := ⟨rfl, rfl, rfl, by decide +kernel, rfl, by decide +kernel, by decide +kernel⟩
def spPartOf (K : PySem.W.Frag) : Sp := fun vs H Q _ => ∃ (a : Addr) (ws : List Str) (b : Bool), vs = [.ref a, .bl b] ∧ H a = some (.lst (ws.map V.str)) ∧ ws.length ≤ 1000 ∧ (∀ w ∈ ws, w.length ≤ 600 ∧ PyData.strOk w = true) ∧ ∀ (H' : Hp) (v : V), Fx [] H H' → PartV K H' v (partO b ws) → Q v H'
theorem ok_part_of {P : Program} {w : World} {K : PySem.W.Frag} {mg : Str → Option Value} {base : Heap} (T : Tx K mg) (TD : TabD K w) : Def P w K mg base CX0 3 "part_of" ["words", "is_test"] (spPartOf K) := by
  obtain ⟨fd, F⟩ := T.d_part_of
  have G_thing_of := ok_thing_of (P := P) (w := w) (base := base) T
  refine ⟨_, fd, F.ok sc_part_of (fun vs H Q E h => ?_) (fun cdv A outer s H vs Q E hr h => ?_), F.bindsN fun _ _ _ _ _ _ us hl => match us, hl with | [_, _], _ => rfl, T.g_part_of, F.kp⟩
  · obtain ⟨a, ws, b, rfl, _⟩ := h
    rfl
  · obtain ⟨a, ws, b, rfl, ha, hlen, hws, q⟩ := h
    obtain ⟨es_TESTS, n_TESTS, D_TESTS⟩ := TD.d_TESTS
    obtain ⟨es_ANSWERS, n_ANSWERS, D_ANSWERS⟩ := TD.d_ANSWERS
    refine ⟨_, PSs.nox (Evl.pss_cut (ps_set (i := 2) sc_part_of.nd rfl (by first | exact Or.inl rfl | exact Or.inr rfl) (pe_ifExp (pt_cmpR (op_neD hr.units) (pv 0) (pe_lst pa_nil) (nomark _)) (pe_ix ix_list (pv 0) pe_int (fun _ _ => rfl)) pe_str))
        (Evl.pss_cut (ps_set (i := 3) sc_part_of.nd rfl (by first | exact Or.inl rfl | exact Or.inr rfl) (pe_ifExp (pt_val (pv 1)) (kpe_kdget2 (K := K) rfl rfl D_TESTS (pe_glob (v := V.ref (He.ga K "TESTS")) (by rfl) T.g_TESTS rfl) (pv 2) pe_non ⟨rfl, rfl, rfl, rfl⟩) (kpe_kdget2 (K := K) rfl rfl D_ANSWERS (pe_glob (v := V.ref (He.ga K "ANSWERS")) (by rfl) T.g_ANSWERS rfl) (pv 2) pe_non ⟨rfl, rfl, rfl, rfl⟩)))
        (pss_cons (ps_if (PW.pt (pw_or (pt_cmpR op_isN (pv 3) pe_non (nomark _)) (pw_or1 (pt_cmpR op_le (pe_callB call_len_seq (by rfl) T.f_len (by decide +kernel) (pa_cons (pv 0) pa_nil)) (pe_callB call_len_str (by rfl) T.f_len (by decide +kernel) (pa_cons (pv 3) pa_nil)) (nomark _)))))
        (pss_one (ps_ret pe_non))
        pss_nil)
        (pss_cons (ps_setLc (i := 4) (own := [("word", 2), ("sort", 5)]) (g := (gTup _ 2 (gCons (gName 2) (gCons (gName 5) gNil)))) (tt := tYes) rfl sc_part_of.nd rfl rfl (sw_true rfl rfl rfl (by decide +kernel)) (pi_zipX (by rfl) T.f_zip (pa_cons (pe_slice sl_list (pv 0) (po_some pe_int) po_none) (pa_cons (pv 3) pa_nil))) (blkOk_by (own := [("word", 2), ("sort", 5)]) (N := ["words", "is_test", "word", "form", "things", "sort"]) (sc := defScope s_part_of) (by decide +kernel)) (fun _ _ _ _ _ => pg_tup rfl (pgs_cons (pg_name (i := 2) sc_part_of.nd rfl (by first | exact Or.inl rfl | exact Or.inr rfl)) (pgs_cons (pg_name (i := 5) sc_part_of.nd rfl (by first | exact Or.inl rfl | exact Or.inr rfl)) pgs_nil))) (fun _ _ _ _ _ => pts_nil) (fun _ _ _ _ _ => (pe_def G_thing_of (hr.mono (by omega)) pass0 (pa_cons (pv 2) (pa_cons (pv 5) pa_nil)))))
        (pss_cons (ps_if (pt_cmpR (op_inD (un65 hr)) pe_non (pv 4) (by rfl))
        (pss_one (ps_ret pe_non))
        pss_nil)
        (pss_one (ps_ret (pe_tup (pa_cons (pe_op (kop_catAny (K := K) rfl) (pe_tup (pa_cons (pe_ix ix_list (pv 0) pe_int (fun _ _ => rfl)) pa_nil)) (pe_callTy call_tuple_of (by rfl) T.f_tuple (by decide +kernel) (pa_cons (pv 4) pa_nil))) (pa_cons (pe_slice sl_list (pv 0) (po_some (pe_op op_add pe_int (pe_callB call_len_str (by rfl) T.f_len (by decide +kernel) (pa_cons (pv 3) pa_nil)))) po_none) pa_nil)))))))))), ?_⟩
    have hsh := strs_shaped fun w m => (hws w m).2
    have hda : Dp K H (.ref a) (.list (ws.map .str)) := .lst (SqL.of ha) (dpStrs ws)
    refine ⟨fun σ2 H' => ∃ z, σ2 = [some (.ref a), some (.bl b), some (.str z), none, none, none] ∧ Fx [] H H' ∧ (ws = [] ∧ z = "" ∨ ∃ r, ws = z :: r), ?_, fun σ2 H1 hM => ?_⟩
    · refine ⟨_, rfl, by show 0 ≤ sizeLine; decide, fun l hl => ?_⟩
      have f1 : Fx [] H (upd H l (.lst [])) := Fx.new hl
      refine ⟨_, _, hda.ext f1, .lst (SqL.of upd_same) .nil, hsh, by decide +kernel, ?_⟩
      refine ⟨_, rfl, ifB (fun c => ?_) (fun c => ?_)⟩
      · cases ws with
        | nil => exact absurd c (by decide +kernel)
        | cons z r => exact ⟨_, rfl, a, _, ((0 : Nat) : Int), V.str z, rfl, rfl, SqL.of (f1.to ha fun m => nomatch m), atI_nat rfl, z, rfl, f1, .inr ⟨r, rfl⟩⟩
      · cases ws with
        | nil => exact ⟨"", rfl, f1, .inl ⟨rfl, rfl⟩⟩
        | cons z r =>
          have e : PyData.eqv (.list ((z :: r).map .str)) (.list []) = false := by simp [PyData.eqv, PyData.eqvAll]
          rw [e] at c
          cases c
    obtain ⟨z, rfl, f1, hz⟩ := hM
    refine ⟨fun σ2 H' => σ2 = [some (.ref a), some (.bl b), some (.str z), some (formV (formOf b z)), none, none] ∧ Fx [] H H', ?_, fun σ2 H2 hM => ?_⟩
    · obtain ⟨r, h1, h2, h3⟩ := form_kd TD b z
      have e1 : ∀ u, r = some u → RelV (formV (formOf b z)) u := fun u e => by
        obtain ⟨f, e1, e2⟩ := h2 u e
        rw [e1]
        exact e2
      have e2 : r = none → formV (formOf b z) = .non := fun e => by rw [h3 e]; rfl
      cases b with
      | true => exact ⟨_, rfl, _, rfl, ifT rfl ⟨rfl, _, rfl, z, r, _, rfl, h1, e1, e2, rfl, f1⟩⟩
      | false => exact ⟨_, rfl, _, rfl, ifF rfl ⟨rfl, _, rfl, z, r, _, rfl, h1, e1, e2, rfl, f1⟩⟩
    obtain ⟨rfl, f2⟩ := hM
    cases hf : formOf b z with
    | none =>
      have ep : partO b ws = none := by
        rcases hz with ⟨rfl, _⟩ | ⟨r, rfl⟩
        · rfl
        · rw [partO_cons, hf]
      rw [ep] at q
      exact ⟨_, rfl, rfl, _, rfl, ifT rfl (q _ _ f2 rfl)⟩
    | some f =>
      obtain ⟨r, rfl⟩ : ∃ r, ws = z :: r := by
        rcases hz with ⟨_, rfl⟩ | h
        · cases b <;> exact nomatch (show none = some f from hf)
        · exact h
      have hfl := form_len hf
      rw [partO_cons, hf] at q
      refine ⟨_, rfl, rfl, _, rfl, ifF rfl ?_⟩
      have ha2 : H2 a = some (.lst ((z :: r).map V.str)) := f2.to ha fun m => nomatch m
      refine ⟨_, rfl, a, _, rfl, .inl (SqL.of ha2), _, rfl, f, rfl, Nat.le_trans hfl (by decide), _, _, rfl, rfl, _, rfl, ifB (fun c => ?_) (fun c => ?_)⟩
      · have c2 : r.length + 1 ≤ f.length := by
          have := of_decide_eq_true c
          simp only [List.length_map, List.length_cons] at this
          omega
        simp only [if_pos c2] at q
        exact q _ _ f2 rfl
      have c2 : ¬ r.length + 1 ≤ f.length := by
        have := of_decide_eq_false c
        simp only [List.length_map, List.length_cons] at this
        omega
      simp only [if_neg c2] at q
      -- the things
      refine ⟨_, rfl, ((1 : Nat) : Int), rfl, a, _, rfl, SqL.of ha2, fun pp hpp => ?_⟩
      have ec : cutV ((z :: r).map V.str) (some ((1 : Nat) : Int)) none = r.map V.str := by
        rw [cutV_drop (by rw [List.length_map, List.length_cons]; omega)]
        rfl
      rw [ec]
      have f3 : Fx [] H2 (upd H2 pp (.lst (r.map V.str))) := Fx.new hpp
      have hp3 : upd H2 pp (.lst (r.map V.str)) pp = some (.lst (r.map V.str)) := upd_same
      generalize upd H2 pp (.lst (r.map V.str)) = H3 at f3 hp3
      have hcs : f.cps.size ≤ 2 := hfl
      have hsl : (signs f).length = f.cps.size := by
        unfold signs
        rw [List.length_map]
        exact Array.length_toList
      have hfc : f.length = f.cps.size := rfl
      have hzl : (r.zip (signs f)).length = f.cps.size := by
        rw [List.length_zip, hsl]
        omega
      refine ⟨_, rfl, pp, f, _, rfl, SqL.of hp3, fun D hD => lc_rel (walk_zipX (n := f.cps.size) (by have : f.length = f.cps.size := rfl; rw [List.length_map]; omega)) (fun i acc H6 => Fx [] H3 H6 ∧ DpAll K H6 acc (((r.zip (signs f)).take i).map fun q => thingV (thingO q.2 q.1))) ⟨Fx.new hD, .nil⟩ (fun i acc H6 g => SqL.of (g.1.to hp3 fun m => nomatch m)) (fun i acc x H6 H7 hi hla hWa g y => ?_) (fun acc H6 hla hWa g => ?_)⟩
      · obtain ⟨T', y1, c1, rfl, hT', rfl, hy1, hc1⟩ := y
        rw [List.getElem?_map] at hy1
        obtain ⟨w1, hw1, rfl⟩ := Option.map_eq_some_iff.mp hy1
        have hw2 := hws w1 (List.mem_cons_of_mem _ (List.mem_of_getElem? hw1))
        have hzi : (r.zip (signs f))[i]? = some (w1, ⟨#[c1]⟩) := by
          rw [List.getElem?_zip_eq_some]
          refine ⟨hw1, ?_⟩
          unfold signs
          rw [List.getElem?_map, Array.getElem?_toList, hc1]
          rfl
        refine ⟨T', _, rfl, SqT.of upd_same, rfl, _, _, rfl, _, _, rfl, rfl, rfl, ?_⟩
        refine ⟨_, rfl, _, rfl, w1, _, rfl, hw2.1, fun H8 v8 f8 d8 => ?_⟩
        have f78 : Fx [] H6 H8 := (Fx.new hT').trans f8
        have hD8 := f78.to hWa fun m => nomatch m
        refine Put.ok hla (by omega) hD8 ⟨((g.1.trans f78).loc hD (Chg.lst hD8)), ?_⟩
        have e9 : (r.zip (signs f)).take (i + 1) = (r.zip (signs f)).take i ++ [(w1, ⟨#[c1]⟩)] := by
          rw [List.take_add_one, hzi]
          rfl
        rw [e9, List.map_append]
        have f9 : Fx [D] H8 (upd H8 D (.lst (acc ++ [v8]))) := Fx.set List.mem_cons_self (Chg.lst hD8)
        refine ((g.2.ext f78).snoc d8).mv f9 (nolA_of fun d hd => ?_)
        rcases List.mem_append.mp hd with hd | hd
        · obtain ⟨q0, _, rfl⟩ := List.mem_map.mp hd
          exact thingV_nol _
        · rw [List.mem_singleton.mp hd]
          exact thingV_nol _
      · rw [List.take_of_length_le (by omega)] at g
        have eo : ((r.zip (signs f)).map fun q => thingV (thingO q.2 q.1)) = ((r.zip (signs f)).map fun q => thingO q.2 q.1).map thingV := by rw [List.map_map]; rfl
        rw [eo] at g
        generalize ((r.zip (signs f)).map fun q => thingO q.2 q.1) = os at g q
        have f6 : Fx [] H H6 := (f2.trans f3).trans g.1
        refine ⟨_, rfl, .none, _, .non, .lst (SqL.of hWa) g.2, by decide +kernel, things_shaped os, _, rfl, ?_⟩
        rw [things_non]
        refine ifB (fun c4 => ?_) (fun c4 => ?_)
        · rw [Option.isNone_iff_eq_none] at c4
          rw [c4] at q
          exact q _ _ f6 rfl
        · cases hA : allT os with
          | none => rw [hA] at c4; cases c4
          | some ts =>
            have em := allT_some hA
            rw [hA] at q
            have ha6 : H6 a = some (.lst ((z :: r).map V.str)) := f6.to ha fun m => nomatch m
            have edt : os.map thingV = ts.map Thing.d := by rw [em, List.map_map]; rfl
            rw [edt] at g
            refine ⟨_, rfl, a, _, ((0 : Nat) : Int), V.str z, rfl, rfl, SqL.of ha6, atI_nat rfl, by show 1 ≤ sizeLine; decide, fun p7 hp7 => ?_⟩
            have f7 : Fx [] H6 (upd H6 p7 (.tup [.str z])) := Fx.new hp7
            have hs7 : SqT K (upd H6 p7 (.tup [.str z])) p7 [.str z] := SqT.of upd_same
            have hW7 : upd H6 p7 (.tup [.str z]) D = some (.lst acc) := f7.to hWa fun m => nomatch m
            have g7 := g.2.ext f7
            generalize upd H6 p7 (.tup [.str z]) = H7 at f7 hs7 hW7 g7
            refine ⟨_, rfl, D, _, rfl, .inl ⟨SqL.of hW7, fun p8 hp8 => ?_⟩⟩
            have f8 : Fx [] H7 (upd H7 p8 (.tup acc)) := Fx.new hp8
            have hs8 : SqT K (upd H7 p8 (.tup acc)) p8 acc := SqT.of upd_same
            have g8 := g7.ext f8
            have hs78 := f8.sqT hs7
            generalize upd H7 p8 (.tup acc) = H8 at f8 hs8 g8 hs78
            have hacc : acc.length ≤ 2 := by omega
            refine rd_catA hs78 hs8 (by show 1 + acc.length ≤ sizeLine; exact Nat.le_trans (m := 3) (by omega) (by decide)) fun p9 H9 f9 hs9 => ?_
            have f69 := (f7.trans f8).trans f9
            have ha9 : H9 a = some (.lst ((z :: r).map V.str)) := f69.to ha6 fun m => nomatch m
            have g9 := g8.ext f9
            refine ⟨_, rfl, _, rfl, f, rfl, Nat.le_trans hfl (by decide), _, _, rfl, rfl, _, rfl, a, _, rfl, SqL.of ha9, fun p10 hp10 => ?_⟩
            have ec2 : cutV ((z :: r).map V.str) (some (1 + (f.length : Int))) none = (r.drop f.length).map V.str := by
              have e1 : (1 + (f.length : Int)) = ((1 + f.length : Nat) : Int) := by omega
              rw [e1, cutV_drop (by rw [List.length_map, List.length_cons]; omega), ← List.map_drop, Nat.add_comm, List.drop_succ_cons]
            rw [ec2]
            have f10 : Fx [] H9 (upd H9 p10 (.lst ((r.drop f.length).map V.str))) := Fx.new hp10
            have hp10' : upd H9 p10 (.lst ((r.drop f.length).map V.str)) p10 = some (.lst ((r.drop f.length).map V.str)) := upd_same
            have g10 := g9.ext f10
            have hs10 := f10.sqT hs9
            generalize upd H9 p10 (.lst ((r.drop f.length).map V.str)) = H10 at f10 hp10' g10 hs10
            refine ⟨by show 2 ≤ sizeLine; decide, fun p11 hp11 => ?_⟩
            have f11 : Fx [] H10 (upd H10 p11 (.tup [.ref p9, .ref p10])) := Fx.new hp11
            refine q _ _ (((f6.trans f69).trans f10).trans f11) ⟨p11, .ref p9, p10, rfl, upd_same, ?_, f11.to hp10' fun m => nomatch m⟩
            exact (Dp.tup hs10 (.cons (.str z) g10)).ext f11
end Mh
/-! MhRowT -/
namespace Mh
open PySem PySem.Spec PyProof.Rows L2 TL
/-! ### what is written is read the same -/
def figC (c : Nat) : Prop := c = 44 ∨ c = 45 ∨ 48 ≤ c ∧ c ≤ 57
theorem wL_fig {i : Int} : ∀ c ∈ wL i, figC c := fun c hc => by
  unfold wL at hc
  split at hc
  · exact .inr (.inr (numL_digits _ c hc))
  · rcases List.mem_cons.mp hc with rfl | hc
    · exact .inr (.inl rfl)
    · exact .inr (.inr (numL_digits _ c hc))
theorem joinL_mem {S : List Nat} {c : Nat} : ∀ {ps : List (List Nat)}, c ∈ joinL S ps → c ∈ S ∨ ∃ p ∈ ps, c ∈ p
  | [], h => nomatch h
  | [p], h => .inr ⟨p, List.mem_cons_self, h⟩
  | p :: q :: r, h => by
    have h2 : c ∈ p ++ (S ++ joinL S (q :: r)) := h
    rcases List.mem_append.mp h2 with h2 | h2
    · exact .inr ⟨p, List.mem_cons_self, h2⟩
    · rcases List.mem_append.mp h2 with h2 | h2
      · exact .inl h2
      · rcases joinL_mem h2 with h3 | ⟨p', m, h3⟩
        · exact .inl h3
        · exact .inr ⟨p', List.mem_cons_of_mem _ m, h3⟩
theorem tl_comma : tl comma = [44] := by decide +kernel
theorem tl_blank : tl blank = [32] := by decide +kernel
theorem tl_nl : tl nl = [10] := by decide +kernel
theorem tl_joinT (y : Str) (ps : List Str) : tl (Txt.join y ps) = joinL (tl y) (ps.map tl) := by rw [join_eq, tl_join]
theorem Thing.fig {t : Thing} : ∀ c ∈ tl t.s, figC c := fun c hc => by
  cases t with
  | n i =>
    have hc : c ∈ tl (wS i) := hc
    rw [tl_wS] at hc
    exact wL_fig c hc
  | k ns =>
    have hc : c ∈ tl (Txt.join comma (ns.map wS)) := hc
    rw [tl_joinT, tl_comma] at hc
    rcases joinL_mem hc with h | ⟨p, hp, h⟩
    · exact .inl (List.mem_singleton.mp h)
    · obtain ⟨z, hz, rfl⟩ := List.mem_map.mp hp
      obtain ⟨i, _, rfl⟩ := List.mem_map.mp hz
      rw [tl_wS] at h
      exact wL_fig c h
def wordC (c : Nat) : Prop := 33 ≤ c ∧ c < 128
theorem figC.word {c : Nat} (h : figC c) : wordC c := by
  unfold figC at h
  unfold wordC
  omega
theorem word_ok {z : Str} (h : z ∈ (["any", "below", "rest", "chance", "known", "num", "plus", "times", "none"] : List Str)) : ∀ c ∈ tl z, wordC c := by
  have key : (["any", "below", "rest", "chance", "known", "num", "plus", "times", "none"] : List Str).all (fun z => (tl z).all fun c => decide (33 ≤ c) && decide (c < 128)) = true := by decide +kernel
  intro c hc
  have h1 := List.all_eq_true.mp (List.all_eq_true.mp key z h) c hc
  obtain ⟨h2, h3⟩ := Bool.and_eq_true_iff.mp h1
  exact ⟨of_decide_eq_true h2, of_decide_eq_true h3⟩
theorem Tst.word (t : Tst) : ∀ w ∈ t.part.words, ∀ c ∈ tl w, wordC c := fun w hw => by
  rcases List.mem_cons.mp hw with rfl | hw
  · exact word_ok (by cases t <;> simp [Tst.part])
  · obtain ⟨th, _, rfl⟩ := List.mem_map.mp hw
    exact fun c hc => (Thing.fig c hc).word
theorem Ans.word (t : Ans) : ∀ w ∈ t.part.words, ∀ c ∈ tl w, wordC c := fun w hw => by
  rcases List.mem_cons.mp hw with rfl | hw
  · exact word_ok (by cases t <;> simp [Ans.part])
  · obtain ⟨th, _, rfl⟩ := List.mem_map.mp hw
    exact fun c hc => (Thing.fig c hc).word
theorem rowW_word (r : Tst × Ans) : ∀ w ∈ rowW r, ∀ c ∈ tl w, wordC c := fun w hw => by
  rcases List.mem_append.mp hw with hw | hw
  · exact r.1.word w hw
  · exact r.2.word w hw
theorem rowW_ne (r : Tst × Ans) : rowW r ≠ [] := by
  unfold rowW Part.words
  simp
theorem rowT_sign (r : Tst × Ans) : ∀ c ∈ tl (rowT r), c = 32 ∨ wordC c := fun c hc => by
  have hc : c ∈ tl (Txt.join blank (rowW r)) := hc
  rw [tl_joinT, tl_blank] at hc
  rcases joinL_mem hc with h | ⟨p, hp, h⟩
  · exact .inl (List.mem_singleton.mp h)
  · obtain ⟨z, hz, rfl⟩ := List.mem_map.mp hp
    exact .inr (rowW_word r z hz c h)
theorem rowT_split (r : Tst × Ans) : Txt.split (rowT r) blank = rowW r :=
  split_join tl_blank (by decide +kernel) (rowW_ne r) fun p hp m => by
    have := rowW_word r p hp 32 m
    unfold wordC at this
    omega
theorem machT_split {m : Mch} (h : m ≠ []) : Txt.split (machT m) nl = m.map rowT :=
  split_join tl_nl (by decide +kernel) (by simpa using h) fun p hp hm => by
    obtain ⟨r, _, rfl⟩ := List.mem_map.mp hp
    have := rowT_sign r 10 hm
    unfold wordC at this
    omega
theorem strOk_of {z : Str} (h : ∀ c ∈ tl z, c < 128) : PyData.strOk z = true := by
  unfold PyData.strOk
  rw [Array.all_eq_true']
  intro c hc
  have := h c (by simpa [tl] using hc)
  exact decide_eq_true (by omega)
theorem rowT_ok (r : Tst × Ans) : PyData.strOk (rowT r) = true := strOk_of fun c hc => by
  have := rowT_sign r c hc
  unfold wordC at this
  omega
theorem wS_free {i : Int} : 44 ∉ tl (wS i) := by
  rw [tl_wS]
  exact wL_sane (by decide) (.inl (by decide))
theorem thing_n {i : Int} (h : -9999 ≤ i ∧ i ≤ 9999) : thingO "n" (Thing.n i).s = some (.n i) := by
  unfold thingO
  rw [if_pos (by decide +kernel)]
  show (numOf (wS i)).map Thing.n = _
  rw [numOf_wS h]
  rfl
theorem thing_k {ns : List Int} (hne : ns ≠ []) (h : ∀ i ∈ ns, -9999 ≤ i ∧ i ≤ 9999) : thingO "k" (Thing.k ns).s = some (.k ns) := by
  unfold thingO
  rw [if_neg (by decide +kernel)]
  show (allN ((Txt.split (Txt.join comma (ns.map wS)) comma).map numOf)).map Thing.k = _
  rw [split_join tl_comma (by decide +kernel) (by simpa using hne) fun p hp => by
    obtain ⟨i, _, rfl⟩ := List.mem_map.mp hp
    exact wS_free]
  have e : (ns.map wS).map numOf = ns.map some := by
    rw [List.map_map]
    exact List.map_congr_left fun i hi => numOf_wS (h i hi)
  rw [e, allN_map]
  rfl
theorem part0 {b : Bool} {w : Str} {r : List Str} (hf : formOf b w = some ("" : Str)) : partO b (w :: r) = some (⟨w, []⟩, r) := by
  rw [partO_cons, hf]
  show (if r.length + 1 ≤ Str.length ("" : Str) then none else (allT ((r.zip (signs ("" : Str))).map fun q => thingO q.2 q.1)).map fun ts => ((⟨w, ts⟩ : Part), r.drop (Str.length ("" : Str)))) = _
  have e1 : Str.length ("" : Str) = 0 := by decide +kernel
  have e2 : signs ("" : Str) = [] := by decide +kernel
  rw [e1, e2, if_neg (by omega), List.zip_nil_right]
  rfl
theorem part1 {b : Bool} {w f : Str} {t : Thing} {r : List Str} (hf : formOf b w = some f) (e1 : Str.length f = 1) (e2 : signs f = [f]) (ht : thingO f t.s = some t) : partO b (w :: t.s :: r) = some (⟨w, [t]⟩, r) := by
  rw [partO_cons, hf]
  show (if (t.s :: r).length + 1 ≤ Str.length f then none else (allT (((t.s :: r).zip (signs f)).map fun q => thingO q.2 q.1)).map fun ts => ((⟨w, ts⟩ : Part), (t.s :: r).drop (Str.length f))) = _
  rw [e1, e2, if_neg (by simp only [List.length_cons]; omega), List.zip_cons_cons, List.zip_nil_right]
  simp only [List.map_cons, List.map_nil, ht]
  rfl
theorem part2 {b : Bool} {w : Str} {t u : Thing} {r : List Str} (hf : formOf b w = some ("nn" : Str)) (ht : thingO "n" t.s = some t) (hu : thingO "n" u.s = some u) : partO b (w :: t.s :: u.s :: r) = some (⟨w, [t, u]⟩, r) := by
  rw [partO_cons, hf]
  show (if (t.s :: u.s :: r).length + 1 ≤ Str.length ("nn" : Str) then none else (allT (((t.s :: u.s :: r).zip (signs ("nn" : Str))).map fun q => thingO q.2 q.1)).map fun ts => ((⟨w, ts⟩ : Part), (t.s :: u.s :: r).drop (Str.length ("nn" : Str)))) = _
  have e1 : Str.length ("nn" : Str) = 2 := by decide +kernel
  have e2 : signs ("nn" : Str) = [("n" : Str), "n"] := by decide +kernel
  rw [e1, e2, if_neg (by simp only [List.length_cons]; omega), List.zip_cons_cons, List.zip_cons_cons, List.zip_nil_right]
  simp only [List.map_cons, List.map_nil, ht, hu]
  rfl
theorem Tst.read {t : Tst} (h : t.ok) (r : List Str) : partO true (t.part.words ++ r) = some (t.part, r) := by
  cases t with
  | any => exact part0 (by decide +kernel)
  | below n =>
    have h2 : 0 ≤ n ∧ n ≤ 9999 := h
    exact part1 (f := "n") (by show formOf true "below" = some ("n" : Str); decide +kernel) (by decide +kernel) (by decide +kernel) (thing_n ⟨by omega, by omega⟩)
  | rest m r' =>
    have h1 : 2 ≤ m := h.1
    have h2 : m ≤ 99 := h.2.1
    have h3 : 0 ≤ r' := h.2.2.1
    have h4 : r' ≤ m - 1 := by have := h.2.2.2; omega
    exact part2 (by show formOf true "rest" = some ("nn" : Str); decide +kernel) (thing_n ⟨by omega, by omega⟩) (thing_n ⟨by omega, by omega⟩)
  | chance m r' =>
    have h1 : 2 ≤ m := h.1
    have h2 : m ≤ 99 := h.2.1
    have h3 : 0 ≤ r' := h.2.2.1
    have h4 : r' ≤ m - 1 := by have := h.2.2.2; omega
    exact part2 (by show formOf true "chance" = some ("nn" : Str); decide +kernel) (thing_n ⟨by omega, by omega⟩) (thing_n ⟨by omega, by omega⟩)
  | known ns =>
    obtain ⟨h1, h2, h3, h4⟩ := h
    refine part1 (f := "k") (by show formOf true "known" = some ("k" : Str); decide +kernel) (by decide +kernel) (by decide +kernel) (thing_k (fun e => ?_) fun i hi => ⟨by have := (h3 i hi).1; omega, (h3 i hi).2⟩)
    subst e
    cases h1
theorem Ans.read {a : Ans} (h : a.ok) (r : List Str) : partO false (a.part.words ++ r) = some (a.part, r) := by
  cases a with
  | none => exact part0 (by decide +kernel)
  | rest n =>
    have h1 : 2 ≤ n := h.1
    have h2 : n ≤ 99 := h.2
    exact part1 (f := "n") (by show formOf false "rest" = some ("n" : Str); decide +kernel) (by decide +kernel) (by decide +kernel) (thing_n ⟨by omega, by omega⟩)
  | num n => exact part1 (f := "n") (by show formOf false "num" = some ("n" : Str); decide +kernel) (by decide +kernel) (by decide +kernel) (thing_n h)
  | plus n => exact part1 (f := "n") (by show formOf false "plus" = some ("n" : Str); decide +kernel) (by decide +kernel) (by decide +kernel) (thing_n h)
  | times n => exact part1 (f := "n") (by show formOf false "times" = some ("n" : Str); decide +kernel) (by decide +kernel) (by decide +kernel) (thing_n h)
def rowO (line : Str) : Option (Part × Part) := match partO true (Txt.split line blank) with
  | none => none
  | some (p, r) => match partO false r with
    | some (q, []) => some (p, q)
    | _ => none
theorem rowO_T {r : Tst × Ans} (h1 : r.1.ok) (h2 : r.2.ok) : rowO (rowT r) = some (r.1.part, r.2.part) := by
  unfold rowO
  rw [rowT_split]
  unfold rowW
  rw [r.1.read h1]
  have := r.2.read h2 []
  rw [List.append_nil] at this
  simp only [this]
end Mh
/-! MhRowOf -/
namespace Mh
open PySem PySem.Spec PyProof.Rows L2 TL
theorem spl_mem (S : List Nat) : ∀ (l : List Nat) (k : Nat) (acc : List Nat), ∀ p ∈ spl S k acc l, ∀ c ∈ p, c ∈ acc ∨ c ∈ l
  | [], k, acc, p, h, c, hc => by
    rw [spl_nil] at h
    rw [List.mem_singleton.mp h] at hc
    exact .inl hc
  | x :: r, 0, acc, p, h, c, hc => by
    by_cases e : pre S (x :: r) = true
    · rw [spl_hit e] at h
      rcases List.mem_cons.mp h with rfl | h
      · exact .inl hc
      · rcases spl_mem S r _ _ p h c hc with h1 | h1
        · cases h1
        · exact .inr (List.mem_cons_of_mem _ h1)
    · rw [spl_miss (by simpa using e)] at h
      rcases spl_mem S r _ _ p h c hc with h1 | h1
      · rcases List.mem_append.mp h1 with h1 | h1
        · exact .inl h1
        · rw [List.mem_singleton.mp h1]
          exact .inr List.mem_cons_self
      · exact .inr (List.mem_cons_of_mem _ h1)
  | x :: r, k + 1, acc, p, h, c, hc => by
    rcases spl_mem S r k acc p h c hc with h1 | h1
    · exact .inl h1
    · exact .inr (List.mem_cons_of_mem _ h1)
theorem split_mem {z y : Str} (hy : tl y ≠ []) (hk : y.cps.all (· < 256) = true) : ∀ p ∈ Txt.split z y, ∀ c ∈ tl p, c ∈ tl z := fun p hp c hc => by
  have h := split_spl z y hy (kind_ok hk)
  have hm : tl p ∈ spl (tl y) 0 [] (tl z) := by
    rw [← h]
    exact List.mem_map.mpr ⟨p, hp, rfl⟩
  rcases spl_mem _ _ _ _ _ hm c hc with h1 | h1
  · cases h1
  · exact h1
theorem strOk_iff {z : Str} : PyData.strOk z = true ↔ ∀ c ∈ tl z, c < 0x110000 := by
  unfold PyData.strOk
  rw [Array.all_eq_true']
  constructor
  · intro h c hc
    exact of_decide_eq_true (h c (by simpa [tl] using hc))
  · intro h c hc
    exact decide_eq_true (h c (by simpa [tl] using hc))
theorem split_ok {z y : Str} (hy : tl y ≠ []) (hk : y.cps.all (· < 256) = true) (h : PyData.strOk z = true) : ∀ p ∈ Txt.split z y, PyData.strOk p = true := fun p hp =>
  strOk_iff.mpr fun c hc => strOk_iff.mp h c (split_mem hy hk p hp c hc)
theorem partO_sub {b : Bool} {ws r : List Str} {p : Part} (h : partO b ws = some (p, r)) : r.length ≤ ws.length ∧ ∀ w ∈ r, w ∈ ws := by
  cases ws with
  | nil => cases h
  | cons w0 r0 =>
    rw [partO_cons] at h
    cases hf : formOf b w0 with
    | none => rw [hf] at h; cases h
    | some f =>
      rw [hf] at h
      have h2 : (if r0.length + 1 ≤ f.length then none else (allT ((r0.zip (signs f)).map fun q => thingO q.2 q.1)).map fun ts => ((⟨w0, ts⟩ : Part), r0.drop f.length)) = some (p, r) := h
      split at h2
      · cases h2
      · obtain ⟨ts, _, e⟩ := Option.map_eq_some_iff.mp h2
        cases e
        exact ⟨by rw [List.length_drop, List.length_cons]; omega, fun w m => List.mem_cons_of_mem _ (List.mem_of_mem_drop m)⟩
def RowV (K : PySem.W.Frag) (H : Hp) (v : V) : Option (Part × Part) → Prop
  | none => v = .non
  | some (p, q) => ∃ T, v = .ref T ∧ Dp K H v (.tuple [p.d, q.d])
theorem sc_row_of : FnScope ["line", "test", "answer"] ["line"] (defScope s_row_of) := ⟨rfl, rfl, rfl, by decide +kernel, rfl, by decide +kernel, by decide +kernel⟩
def spRowOf (K : PySem.W.Frag) : Sp := fun vs H Q _ => ∃ (z : Str), vs = [.str z] ∧ z.length ≤ 600 ∧ PyData.strOk z = true ∧ ∀ (H' : Hp) (v : V), Fx [] H H' → RowV K H' v (rowO z) → Q v H'
theorem ok_row_of {P : Program} {w : World} {K : PySem.W.Frag} {mg : Str → Option Value} {base : Heap} (T : Tx K mg) (TD : TabD K w) : Def P w K mg base CX0 4 "row_of" ["line"] (spRowOf K) := by
  obtain ⟨fd, F⟩ := T.d_row_of
  have G_part_of := ok_part_of (P := P) (w := w) (base := base) T TD
  refine ⟨_, fd, F.ok sc_row_of (fun vs H Q E h => ?_) (fun cdv A outer s H vs Q E hr h => ?_), F.bindsN fun _ _ _ _ _ _ us hl => match us, hl with | [_], _ => rfl, T.g_row_of, F.kp⟩
  · obtain ⟨z, rfl, _⟩ := h
    rfl
  · obtain ⟨z, rfl, hz, hok, q⟩ := h
    refine ⟨_, PSs.nox (pss_cons (ps_set (i := 1) sc_row_of.nd rfl (by first | exact Or.inl rfl | exact Or.inr rfl) (pe_def G_part_of (hr.mono (by omega)) pass0 (pa_cons (pe_split (pv 0) pe_str) (pa_cons pe_bl pa_nil))))
        (Evl.pss_cut (ps_set (i := 2) sc_row_of.nd rfl (by first | exact Or.inl rfl | exact Or.inr rfl) (pe_ifExp (pt_cmpR op_isN (pv 1) pe_non (nomark _)) pe_non (pe_def G_part_of (hr.mono (by omega)) pass0 (pa_cons (pe_ix ix_tup (pv 1) pe_int (fun _ _ => rfl)) (pa_cons pe_bl pa_nil)))))
        (pss_one (ps_ret (pe_ifExp (PW.pt (pw_and (pt_cmpR op_notN (pv 2) pe_non (nomark _)) (pw_and1 (pt_cmpR (op_eqD hr.units) (pe_ix ix_tup (pv 2) pe_int (fun _ _ => rfl)) (pe_lst pa_nil) (nomark _))))) (pe_tup (pa_cons (pe_ix ix_tup (pv 1) pe_int (fun _ _ => rfl)) (pa_cons (pe_ix ix_tup (pv 2) pe_int (fun _ _ => rfl)) pa_nil))) pe_non))))), ?_⟩
    have hbl : tl blank ≠ [] := by decide +kernel
    have hbk : blank.cps.all (· < 256) = true := by decide +kernel
    have hpl := split_len (z := z) hbl hbk
    have hpo := split_ok hbl hbk hok
    have hpn := PyProof.Rows.split_le z blank
    have en : rowO z = match partO true (Txt.split z blank) with
      | none => none
      | some (p, r) => match partO false r with
        | some (q, []) => some (p, q)
        | _ => none := rfl
    rw [en] at q
    refine ⟨_, rfl, ⟨_, rfl⟩, z, blank, rfl, rfl, by decide +kernel, Nat.le_trans (m := 1000) (by omega) (by decide), fun p hp => ?_⟩
    generalize Txt.split z blank = ws at hpl hpo hpn q ⊢
    have f1 : Fx [] H (upd H p (.lst (ws.map V.str))) := Fx.new hp
    have hp1 : upd H p (.lst (ws.map V.str)) p = some (.lst (ws.map V.str)) := upd_same
    generalize upd H p (.lst (ws.map V.str)) = H1 at f1 hp1
    refine ⟨p, ws, true, rfl, hp1, by omega, fun w m => ⟨by have := hpl w m; omega, hpo w m⟩, fun H2 v2 f2 pv => ?_⟩
    cases ht : partO true ws with
    | none =>
      rw [ht] at q pv
      obtain rfl : v2 = .non := pv
      refine ⟨fun σ2 H' => σ2 = [some (.str z), some .non, some .non] ∧ Fx [] H H', ⟨_, rfl, rfl, _, rfl, ifT rfl ⟨rfl, f1.trans f2⟩⟩, fun σ2 H3 hM => ?_⟩
      obtain ⟨rfl, f3⟩ := hM
      exact ⟨_, rfl, rfl, _, rfl, ifF rfl (ifF rfl (q _ _ f3 rfl))⟩
    | some pr =>
      obtain ⟨pt, r⟩ := pr
      obtain ⟨hrl, hrm⟩ := partO_sub ht
      rw [ht] at q pv
      obtain ⟨T1, pv1, l1, rfl, hT1, dp1, hl1⟩ := pv
      refine ⟨fun σ2 H' => ∃ v3, σ2 = [some (.str z), some (.ref T1), some v3] ∧ Fx [] H2 H' ∧ PartV K H' v3 (partO false r), ?_, fun σ2 H3 hM => ?_⟩
      · refine ⟨_, rfl, rfl, _, rfl, ifF rfl ?_⟩
        refine rd_ixT (j := 1) rfl (SqT.of hT1) rfl ?_
        exact ⟨l1, r, false, rfl, hl1, by omega, fun w m => ⟨by have := hpl w (hrm w m); omega, hpo w (hrm w m)⟩, fun H3 v3 f3 pv3 => ⟨_, rfl, f3, pv3⟩⟩
      obtain ⟨v3, rfl, f3, pv3⟩ := hM
      have f03 := (f1.trans f2).trans f3
      cases ha : partO false r with
      | none =>
        rw [ha] at pv3
        obtain rfl : v3 = .non := pv3
        simp only [ha] at q
        exact ⟨_, rfl, rfl, _, rfl, ifF rfl (ifF rfl (q _ _ f03 rfl))⟩
      | some qr =>
        obtain ⟨qt, r2⟩ := qr
        obtain ⟨hr2l, hr2m⟩ := partO_sub ha
        rw [ha] at pv3
        obtain ⟨T2, pv2, l2, rfl, hT2, dp2, hl2⟩ := pv3
        refine ⟨_, rfl, rfl, _, rfl, ifT rfl ?_⟩
        refine rd_ixT (j := 1) rfl (SqT.of hT2) rfl ⟨by show 0 ≤ sizeLine; decide, fun p4 hp4 => ?_⟩
        have f4 : Fx [] H3 (upd H3 p4 (.lst [])) := Fx.new hp4
        refine ⟨_, _, (Dp.lst (SqL.of hl2) (dpStrs r2)).ext f4, .lst (SqL.of upd_same) .nil, strs_shaped fun w m => hpo w (hrm w (hr2m w m)), by decide +kernel, _, rfl, ?_⟩
        generalize upd H3 p4 (.lst []) = H4 at f4
        have f04 := f03.trans f4
        have f34 := f3.trans f4
        cases r2 with
        | nil =>
          simp only [ha] at q
          refine ifT (by decide +kernel) ?_
          refine ⟨_, rfl, T1, _, ((0 : Nat) : Int), pv1, rfl, rfl, f34.sqT (SqT.of hT1), atI_nat rfl, _, rfl, T2, _, ((0 : Nat) : Int), pv2, rfl, rfl, f4.sqT (SqT.of hT2), atI_nat rfl, by show 2 ≤ sizeLine; decide, fun p5 hp5 => ?_⟩
          have f5 : Fx [] H4 (upd H4 p5 (.tup [pv1, pv2])) := Fx.new hp5
          exact q _ _ (f04.trans f5) ⟨p5, rfl, .tup (SqT.of upd_same) (.cons ((dp1.ext f34).ext f5) (.cons ((dp2.ext f4).ext f5) .nil))⟩
        | cons w2 r2 =>
          have e : PyData.eqv (.list ((w2 :: r2).map .str)) (.list []) = false := by simp [PyData.eqv, PyData.eqvAll]
          simp only [ha] at q
          rw [e]
          exact ifF rfl (q _ _ f04 rfl)
end Mh
/-! MhRead -/
namespace Mh
open PySem PySem.Spec PyProof.Rows L2 TL
theorem row_dd (r : Tst × Ans) : PyData.tuple [r.1.part.d, r.2.part.d] = rowD r := by
  show _ = PyData.tuple [r.1.d, r.2.d]
  rw [Tst.part_d, Ans.part_d]
theorem machT_len {m : Mch} (h : m.ok) : (machT m).length ≤ 6000 := by
  have hsum := sum_le (ws := m.map rowT) (m := 488) fun w hw => by
    obtain ⟨r, hr, rfl⟩ := List.mem_map.mp hw
    obtain ⟨o1, o2⟩ := h.rows r hr
    exact rowT_len o1 o2
  rw [List.length_map] at hsum
  have h12 := h.len
  have e : (machT m).length = (joinL (tl nl) ((m.map rowT).map tl)).length := by
    rw [len_tl]
    unfold machT
    rw [tl_joinT]
  have h2 := joinL_len (tl nl) 488 (ps := (m.map rowT).map tl) fun p hp => by
    obtain ⟨z, hz, rfl⟩ := List.mem_map.mp hp
    obtain ⟨r, hr, rfl⟩ := List.mem_map.mp hz
    obtain ⟨o1, o2⟩ := h.rows r hr
    rw [← len_tl]
    exact rowT_len o1 o2
  rw [List.length_map, List.length_map, tl_nl] at h2
  rw [e, tl_nl]
  have : m.length * (488 + [10].length) ≤ 12 * 489 := Nat.mul_le_mul h12 (by decide)
  omega
theorem Mch.ok.take {m : Mch} (h : Mch.ok m) (i : Nat) : Mch.ok (m.take (i + 1)) :=
  ⟨fun e => by
    have h1 := congrArg List.length e
    rw [List.length_take] at h1
    have h2 : 0 < m.length := List.length_pos_iff.mpr h.ne
    simp only [List.length_nil] at h1
    omega, by
    have := h.len
    rw [List.length_take]
    omega, fun r hr => h.rows r (List.mem_of_mem_take hr)⟩
theorem sc_read : FnScope ["text", "rows", "row", "line", "found", "e"] ["text"] (defScope s_read) := ⟨rfl, rfl, rfl, by decide +kernel, rfl, by decide +kernel, by decide +kernel⟩
def spRead (K : PySem.W.Frag) : Sp := fun vs H Q _ => ∃ (m : Mch), vs = [.str (machT m)] ∧ m.ok ∧ ∀ (H' : Hp) (v : V), Fx [] H H' → Dp K H' v (machD m) → Q v H'
theorem ok_read {P : Program} {w : World} {K : PySem.W.Frag} {mg : Str → Option Value} {base : Heap} (T : Tx K mg) (TD : TabD K w) : Def P w K mg base CX0 5 "read" ["text"] (spRead K) := by
  obtain ⟨fd, F⟩ := T.d_read
  have G_row_of := ok_row_of (P := P) (w := w) (base := base) T TD
  have G_need_machine := ok_need_machine (P := P) (w := w) (base := base) T
  refine ⟨_, fd, F.ok sc_read (fun vs H Q E h => ?_) (fun cdv A outer s H vs Q E hr h => ?_), F.bindsN fun _ _ _ _ _ _ us hl => match us, hl with | [_], _ => rfl, T.g_read, F.kp⟩
  · obtain ⟨m, rfl, _⟩ := h
    rfl
  · obtain ⟨m, rfl, hm, q⟩ := h
    refine ⟨_, PSs.nox (pss_cons (ps_set (i := 1) sc_read.nd rfl (by first | exact Or.inl rfl | exact Or.inr rfl) (pe_lst pa_nil))
        (pss_cons (ps_for PassesOwn.never rfl (pi_enum (by rfl) T.f_enumerate (pa_cons (pe_split (pv 0) pe_str) pa_nil)) (pg_tup rfl (pgs_cons (pg_name (i := 2) sc_read.nd rfl (by first | exact Or.inl rfl | exact Or.inr rfl)) (pgs_cons (pg_name (i := 3) sc_read.nd rfl (by first | exact Or.inl rfl | exact Or.inr rfl)) pgs_nil)))
        (pss_cons (ps_set (i := 4) sc_read.nd rfl (by first | exact Or.inl rfl | exact Or.inr rfl) (pe_def G_row_of (hr.mono (by omega)) pass0 (pa_cons (pv 3) pa_nil)))
        (pss_cons (ps_if (pt_cmpR op_isN (pv 4) pe_non (nomark _))
        (pss_one ps_never)
        pss_nil)
        (pss_cons (ps_expr (pe_bm PySem.F.plainAttrs_list PySem.F.slot_list_append PySem.F.type_list_append mt_append (pv 1) (pa_cons (pv 4) pa_nil)))
        (pss_one (ps_try_thru0 (pss_one (ps_expr (pe_def G_need_machine (hr.mono (by omega)) pass0 (pa_cons (pe_callTy call_tuple_of (by rfl) T.f_tuple (by decide +kernel) (pa_cons (pv 1) pa_nil)) pa_nil))))))))))
        (pss_one (ps_ret (pe_callTy call_tuple_of (by rfl) T.f_tuple (by decide +kernel) (pa_cons (pv 1) pa_nil)))))), ?_⟩
    refine ⟨by show 0 ≤ sizeLine; decide, fun R hR => ?_⟩
    have f1 : Fx [] H (upd H R (.lst [])) := Fx.new hR
    have hR1 : upd H R (.lst []) R = some (.lst []) := upd_same
    generalize upd H R (.lst []) = H1 at f1 hR1
    have hlen := machT_len hm
    refine ⟨_, rfl, ⟨_, rfl⟩, machT m, nl, rfl, rfl, by decide +kernel, Nat.le_trans (m := 10000) (by omega) (by decide), fun p hp => ?_⟩
    rw [machT_split hm.ne]
    have hpR : p ≠ R := fun e => by
      subst e
      rw [hR1] at hp
      cases hp
    have f2 : Fx [] H1 (upd H1 p (.lst ((m.map rowT).map V.str))) := Fx.new hp
    have hp2 : upd H1 p (.lst ((m.map rowT).map V.str)) p = some (.lst ((m.map rowT).map V.str)) := upd_same
    have hR2 := f2.to hR1 fun z => nomatch z
    generalize upd H1 p (.lst ((m.map rowT).map V.str)) = H2 at f2 hp2 hR2
    refine ⟨p, _, rfl, SqL.of hp2, for_it (walk_enum (xs := (m.map rowT).map V.str)) (fun i σ' H' => ∃ y2 y3 y4 vs, σ' = [some (.str (machT m)), some (.ref R), y2, y3, y4, none] ∧ Fx [] H H' ∧ H' p = some (.lst ((m.map rowT).map V.str)) ∧ H' R = some (.lst vs) ∧ DpAll K H' vs ((m.take i).map rowD)) ⟨none, none, none, [], rfl, f1.trans f2, hp2, hR2, .nil⟩ (fun i σ' H' _ ⟨_, _, _, _, _, _, hpp, _⟩ => SqL.of hpp) (fun i x σ' H3 H4 hi hP y => ?_) (fun σ' H' hP => ?_)⟩
    · obtain ⟨y2, y3, y4, vs, rfl, f, hpp, hR3, dv⟩ := hP
      obtain ⟨T', u, v, rfl, hT, hu', hv⟩ := YPair.tup y
      cases hu'
      have fy : Fx [] H3 H4 := YPair.fx y
      rw [List.getElem?_map, List.getElem?_map] at hv
      obtain ⟨w1, hw1, rfl⟩ := Option.map_eq_some_iff.mp hv
      obtain ⟨r, hr, rfl⟩ := Option.map_eq_some_iff.mp hw1
      obtain ⟨o1, o2⟩ := hm.rows r (List.mem_of_getElem? hr)
      refine ⟨T', _, rfl, SqT.of hT, rfl, _, _, rfl, _, _, rfl, rfl, ?_⟩
      have hrl := rowT_len o1 o2
      refine ⟨_, rfl, rowT r, rfl, by omega, rowT_ok r, fun H5 v5 f5 rv => ?_⟩
      rw [rowO_T o1 o2] at rv
      obtain ⟨T5, rfl, d5⟩ := rv
      rw [row_dd] at d5
      refine ⟨_, rfl, rfl, _, rfl, ifF rfl ?_⟩
      have f35 := fy.trans f5
      have hR5 := f35.to hR3 fun z => nomatch z
      have hvl : vs.length ≤ 12 := by
        have := dv.len
        have h12 := hm.len
        rw [this, List.length_map, List.length_take]
        omega
      refine ⟨_, rfl, .inl ⟨rfl, _, SqL.of hR5⟩, _, rfl, R, _, _, rfl, rfl, hR5, Nat.lt_of_le_of_lt hvl (by decide), ?_⟩
      have f6 : Fx [R] H5 (upd H5 R (.lst (vs ++ [.ref T5]))) := Fx.set List.mem_cons_self (Chg.lst hR5)
      have fl := (f.trans f35).loc hR (Chg.lst hR5) (o := .lst (vs ++ [.ref T5]))
      have hR6 : upd H5 R (.lst (vs ++ [.ref T5])) R = some (.lst (vs ++ [.ref T5])) := upd_same
      have hnol : nolA ((m.take (i + 1)).map rowD) = true := mach_nol (m.take (i + 1))
      have et : (m.take (i + 1)).map rowD = (m.take i).map rowD ++ [rowD r] := by
        rw [List.take_add_one, hr, List.map_append]
        rfl
      have d6 : DpAll K (upd H5 R (.lst (vs ++ [.ref T5]))) (vs ++ [.ref T5]) ((m.take (i + 1)).map rowD) := by
        refine DpAll.mv ?_ f6 hnol
        rw [et]
        exact (dv.ext f35).snoc d5
      have hp6 : upd H5 R (.lst (vs ++ [.ref T5])) p = some (.lst ((m.map rowT).map V.str)) := by
        rw [upd_ne hpR]
        exact f35.to hpp fun z => nomatch z
      generalize upd H5 R (.lst (vs ++ [.ref T5])) = H6 at f6 fl hR6 d6 hp6
      refine ⟨_, rfl, R, _, rfl, .inl ⟨SqL.of hR6, fun l hl => ?_⟩⟩
      have f7 : Fx [] H6 (upd H6 l (.tup (vs ++ [.ref T5]))) := Fx.new hl
      have hd7 : Dp K (upd H6 l (.tup (vs ++ [.ref T5]))) (.ref l) (machD (m.take (i + 1))) := .tup (SqT.of upd_same) (d6.ext f7)
      dsimp only [tNil]
      rw [List.append_nil]
      refine need_mach (E := E0) (Mch.ok.take hm i) hd7 fun H8 f8 => ?_
      have f68 := f7.trans f8
      exact ⟨_, _, _, _, rfl, fl.trans f68, f68.to hp6 (fun z => nomatch z), f68.to hR6 (fun z => nomatch z), d6.ext f68⟩
    · obtain ⟨y2, y3, y4, vs, rfl, f, hpp, hR3, dv⟩ := hP
      refine ⟨_, rfl, R, _, rfl, .inl ⟨SqL.of hR3, fun l hl => ?_⟩⟩
      have f4 : Fx [] H' (upd H' l (.tup vs)) := Fx.new hl
      refine q _ _ (f.trans f4) (.tup (SqT.of upd_same) ?_)
      have := dv.ext f4
      rw [List.length_map, List.length_map, List.take_length] at this
      exact this
end Mh
/-! MhLaw04 -/
namespace Mh
open PySem PySem.Spec PyProof.Rows L2 TL
abbrev lawLevel : Nat := 12
def spLaw (K : PySem.W.Frag) : Sp := fun vs H Q _ => ∃ (a : Addr) (ns : List Int), vs = [.ref a] ∧ SqL K H a (ns.map V.int) ∧ ns.length ≤ 63 ∧ ∀ H', Q (.bl true) H'
theorem ints_wide4 : ∀ ns : List Int, wideA (ns.map .int) = true
  | [] => rfl
  | n :: ns => ints_wide4 ns
theorem wideA_of4 : ∀ {ds : List PyData}, (∀ d ∈ ds, wide d = true) → wideA ds = true
  | [], _ => rfl
  | d :: ds, h => by
    show (wide d && wideA ds) = true
    rw [h d List.mem_cons_self, wideA_of4 fun z m => h z (List.mem_cons_of_mem _ m)]
    rfl
theorem depthA_of4 {n : Nat} : ∀ {ds : List PyData}, (∀ d ∈ ds, d.depth ≤ n) → PyData.depthAll ds ≤ n
  | [], _ => by simp [PyData.depthAll]
  | d :: ds, h => by
    have h1 := h d List.mem_cons_self
    have h2 := depthA_of4 (n := n) (ds := ds) fun z m => h z (List.mem_cons_of_mem _ m)
    simp only [PyData.depthAll]
    omega
theorem tup_alike4 {n : Nat} {ds : List PyData} (hl : ds.length < 100000) (h : ∀ d ∈ ds, d.depth ≤ n ∧ wide d = true) : (PyData.tuple ds).depth ≤ n + 1 ∧ wide (.tuple ds) = true := by
  have h1 := depthA_of4 (n := n) fun d m => (h d m).1
  refine ⟨by simp only [PyData.depth]; omega, ?_⟩
  show (decide (ds.length < 100000) && wideA ds) = true
  rw [wideA_of4 fun d m => (h d m).2, Bool.and_true]
  exact decide_eq_true hl
theorem tst_alike4 {t : Tst} (h : t.ok) : t.d.depth ≤ 2 ∧ wide t.d = true := by
  refine ⟨t.lay.2, ?_⟩
  cases t with
  | known ns =>
    have hl : ns.length ≤ 8 := h.2.1
    show (decide (2 < 100000) && (true && ((decide ((ns.map PyData.int).length < 100000) && wideA (ns.map .int)) && true))) = true
    rw [ints_wide4, List.length_map, decide_eq_true (show ns.length < 100000 by omega)]
    rfl
  | any => rfl
  | below n => rfl
  | rest m r => rfl
  | chance m r => rfl
theorem ans_alike4 (a : Ans) : a.d.depth ≤ 2 ∧ wide a.d = true := ⟨a.lay.2, by cases a <;> rfl⟩
theorem mach_alike4 {m : Mch} (h : m.ok) : (machD m).depth ≤ 4 ∧ wide (machD m) = true := by
  refine tup_alike4 (n := 3) (by rw [List.length_map]; have := h.len; omega) fun d hd => ?_
  obtain ⟨r, hr, rfl⟩ := List.mem_map.mp hd
  refine tup_alike4 (n := 2) (by show 2 < 100000; decide) fun d hd => ?_
  simp only [List.mem_cons, List.mem_nil_iff, or_false] at hd
  rcases hd with rfl | rfl
  · exact tst_alike4 (h.rows r hr).1
  · exact ans_alike4 _
theorem text_row {r : Tst × Ans} : jb r.1.part.words ++ blank ++ jb r.2.part.words = rowT r := (jb_app (by simp [Part.words]) (by simp [Part.words])).symm
theorem sc_law : FnScope ["_law_script", "_law_d", "_law_turn", "_law_machine_here", "_law_text", "_law_test_here", "_law_answer_here"] ["_law_script"] (defScope s_law) := ⟨rfl, rfl, rfl, by decide +kernel, rfl, by decide +kernel, by decide +kernel⟩
theorem ok_law {P : Program} {w : World} {K : PySem.W.Frag} {mg : Str → Option Value} {base : Heap} (T : Tx K mg) (TD : TabD K w) {f : Addr} {fd : FuncData} (F : FunD K "law" "law" (defArgs s_law) (defBody s_law) (defScope s_law) [] [] f fd) : FnOk P w K mg base CX0 lawLevel f fd ["_law_script"] (spLaw K) := by
  have G__law_dice := ok_l_dice (P := P) (w := w) (base := base) T
  have G__law_machine := ok_l_machine (P := P) (w := w) (base := base) T
  have G__law_alike := ok_l_alike (P := P) (w := w) (base := base) T 5
  have G__law_words := ok_l_words (P := P) (w := w) (base := base) T
  have G_written := ok_written (P := P) (w := w) (base := base) T
  have G_read := ok_read (P := P) (w := w) (base := base) T TD
  refine F.ok sc_law (fun vs H Q E h => ?_) (fun cdv A outer s H vs Q E hr h => ?_)
  · obtain ⟨a, ns, rfl, _⟩ := h
    rfl
  · obtain ⟨a, ns, rfl, hS, hlen, q⟩ := h
    refine ⟨_, PSs.nox (pss_cons (ps_set (i := 1) sc_law.nd rfl (by first | exact Or.inl rfl | exact Or.inr rfl) (pe_def G__law_dice (hr.mono (by omega)) pass0 (pa_cons (pv 0) (pa_cons pe_int pa_nil))))
        (pss_cons (ps_for PassesOwn.never rfl (pi_range1 rfl T.f_range (pa_cons pe_int pa_nil)) (pg_name (i := 2) sc_law.nd rfl (by first | exact Or.inl rfl | exact Or.inr rfl))
        (pss_cons (ps_set (i := 3) sc_law.nd rfl (by first | exact Or.inl rfl | exact Or.inr rfl) (pe_def G__law_machine (hr.mono (by omega)) pass0 (pa_cons (pv 1) pa_nil)))
        (pss_cons (ps_set (i := 4) sc_law.nd rfl (by first | exact Or.inl rfl | exact Or.inr rfl) (pe_join pe_str (pe_lc (own := [("_law_test_here", 5), ("_law_answer_here", 6)]) (g := (gTup _ 2 (gCons (gName 5) (gCons (gName 6) gNil)))) (tt := tYes) rfl sc_law.nd (pi_tup (pv 3)) (blkOk_by (own := [("_law_test_here", 5), ("_law_answer_here", 6)]) (N := ["_law_script", "_law_d", "_law_turn", "_law_machine_here", "_law_text", "_law_test_here", "_law_answer_here"]) (sc := defScope s_law) (by decide +kernel)) (fun _ _ _ _ _ => pg_tup rfl (pgs_cons (pg_name (i := 5) sc_law.nd rfl (by first | exact Or.inl rfl | exact Or.inr rfl)) (pgs_cons (pg_name (i := 6) sc_law.nd rfl (by first | exact Or.inl rfl | exact Or.inr rfl)) pgs_nil))) (fun _ _ _ _ _ => pts_nil) (fun _ _ _ _ _ => (pe_op op_add_str (pe_op op_add_str (pe_def G__law_words (hr.mono (by omega)) pass0 (pa_cons (pv 5) pa_nil)) pe_str) (pe_def G__law_words (hr.mono (by omega)) pass0 (pa_cons (pv 6) pa_nil)))))))
        (pss_one (ps_if (PW.pt (pw_or (pt_not (pt_val (pe_def G__law_alike (hr.mono (by omega)) pass0 (pa_cons (pe_def G_written (hr.mono (by omega)) pass0 (pa_cons (pv 3) pa_nil)) (pa_cons (pv 4) pa_nil))))) (pw_or1 (pt_not (pt_val (pe_def G__law_alike (hr.mono (by omega)) pass0 (pa_cons (pe_def G_read (hr.mono (by omega)) pass0 (pa_cons (pv 4) pa_nil)) (pa_cons (pv 3) pa_nil))))))))
        (pss_one (ps_ret pe_bl))
        pss_nil)))))
        (pss_one (ps_ret pe_bl)))), ?_⟩
    refine ⟨_, rfl, ⟨a, ns, 0, rfl, hS, hlen, ⟨by decide, by decide⟩, fun H1 dd f1 hn hd => ?_⟩⟩
    refine ⟨_, rfl, by decide, by decide, for_it walk_range (fun i σ' H' => ∃ y2 y3 y4 st, σ' = [some (.ref a), some (.ref dd), y2, y3, y4, none, none] ∧ Dc dd H1 H' st) ⟨none, none, none, _, rfl, ⟨.refl, hd, diceOf_ok ⟨by decide, by decide⟩ hlen⟩⟩ (fun _ _ _ _ _ => trivial) (fun i x σ' H2 H3 hi hP y => ?_) (fun σ' H' hP => ?_)⟩
    · obtain ⟨y2, y3, y4, st, rfl, D⟩ := hP
      obtain ⟨rfl, rfl⟩ := y
      refine ⟨_, rfl, ⟨dd, st, rfl, D.h, D.ok, fun H4 vm D4 km => ?_⟩⟩
      have hm := gMach_ok D.ok
      generalize (gMach st).1 = m at km hm
      generalize (gMach st).2 = s4 at D4
      obtain ⟨tm, xs, rfl, hs, hx⟩ := km.tupI
      have hl : xs.length = m.length := by rw [hx.len, List.length_map]
      have hml := hm.len
      dsimp only [gName]
      refine ⟨⟨_, rfl⟩, _, rfl, tm, rfl, ⟨_, hs⟩, fun W hW => lc_map (walk_tup (xs := xs)) (fun i => .str ((m.map rowT).getD i blank)) (by omega) hW (fun H5 f => f.sqT hs) (fun _ _ _ _ y => YAt.fx y) (fun i x H5 H6 Qe Z hi f y k => ?_) (fun H5 f hL => ?_)⟩
      · obtain ⟨rfl, hxg⟩ := y
        obtain ⟨d, g1, g2⟩ := hx.get hxg
        rw [List.getElem?_map] at g1
        obtain ⟨r, hr, rfl⟩ := Option.map_eq_some_iff.mp g1
        obtain ⟨o1, o2⟩ := hm.rows r (List.mem_of_getElem? hr)
        obtain ⟨b, w1, w2, rfl, hb, k1, k2⟩ := (g2.ext f).tup2
        rw [Tst.part_d] at k1
        rw [Ans.part_d] at k2
        have er : (m.map rowT).getD i blank = rowT r := getD_of (by rw [List.getElem?_map, hr]; rfl)
        rw [er] at k
        have lr := rowT_len o1 o2
        have e1 := congrArg Str.length (text_row (r := r))
        rw [TL.len_tl, TL.len_tl (rowT r), tl_append, tl_append, List.length_append, List.length_append, ← TL.len_tl, ← TL.len_tl, ← TL.len_tl, ← TL.len_tl] at e1
        refine ⟨b, _, rfl, hb, rfl, _, _, rfl, _, _, rfl, rfl, rfl, ifT rfl ?_⟩
        refine ⟨w1, rfl, w1, r.1.part, rfl, k1, Tst.part_ok o1, fun Ha fa => ?_⟩
        refine ⟨_, _, rfl, rfl, Nat.le_trans (m := 1000) (by show _ + blank.length ≤ 1000; omega) (by decide), ?_⟩
        refine ⟨w2, rfl, w2, r.2.part, rfl, k2.ext fa, Ans.part_ok o2, fun Hb fb => ?_⟩
        refine ⟨_, _, rfl, rfl, Nat.le_trans (m := 1000) ?_ (by decide), ?_⟩
        · show (jb r.1.part.words ++ blank).length + (jb r.2.part.words).length ≤ 1000
          rw [TL.len_tl, tl_append, List.length_append, ← TL.len_tl, ← TL.len_tl]
          omega
        · have e2 : jb r.1.part.words ++ Str.ofString " " ++ jb r.2.part.words = rowT r := text_row
          rw [e2]
          exact k _ (fa.trans fb)
      · have eL : (List.range xs.length).map (fun i => V.str ((m.map rowT).getD i blank)) = (m.map rowT).map V.str := by
          rw [hl]
          refine List.ext_getElem? fun j => ?_
          rw [List.getElem?_map, List.getElem?_map, List.getElem?_map]
          by_cases c : j < m.length
          · rw [List.getElem?_range c, List.getElem?_eq_getElem c]
            have e2 : (m.map rowT).getD j blank = rowT m[j] := getD_of (by rw [List.getElem?_map, List.getElem?_eq_getElem c]; rfl)
            show some (V.str ((m.map rowT).getD j blank)) = some (V.str (rowT m[j]))
            rw [e2]
          · rw [List.getElem?_eq_none (by simp; omega), List.getElem?_eq_none (by omega)]
            rfl
        rw [eL] at hL
        have hsum := sum_le (ws := m.map rowT) (m := 488) fun w hw => by
          obtain ⟨r, hr, rfl⟩ := List.mem_map.mp hw
          obtain ⟨o1, o2⟩ := hm.rows r hr
          exact rowT_len o1 o2
        rw [List.length_map] at hsum
        refine ⟨nl, W, m.map rowT, rfl, rfl, .inl (SqL.of hL), ?_, ?_⟩
        · rw [List.length_map]
          show _ + m.length * 1 ≤ 16777216
          omega
        have km5 : Dp K H5 (.ref tm) (machD m) := .tup (f.sqT hs) (hx.ext f)
        obtain ⟨al1, al2⟩ := mach_alike4 hm
        refine ⟨_, rfl, .ref tm, m, rfl, km5, hm, fun H6 f6 => ⟨_, rfl, _, _, .str (machT m), rfl, .str _, .str _, by simp [PyData.depth], rfl, fun H7 f7 => ⟨_, rfl, ifF rfl ?_⟩⟩⟩
        refine ⟨_, rfl, m, rfl, hm, fun H8 v8 f8 d8 => ⟨_, rfl, v8, _, machD m, rfl, d8, km5.ext ((f6.trans f7).trans f8), al1, al2, fun H9 f9 => ⟨_, rfl, ifF rfl ?_⟩⟩⟩
        exact ⟨_, _, _, s4, rfl, D.go (D4.mv ((((f.trans f6).trans f7).trans f8).trans f9))⟩
    · obtain ⟨y2, y3, y4, st, rfl, D⟩ := hP
      exact q _
end Mh
/-! MhEnd -/
open PySem PySem.W PySem.Calls PyProof.Rows
theorem PySem.Challenge.cw_measurehall_k04_machines_written_holds : PySem.Challenge.rw_measurehall_k04_machines_written.Holds := by
  w_on; o_law
  refine HandSHeadRun.head_any (r := OpenLaw.row PySem.Challenge.rw_measurehall_k04_machines_written) (q := view (OpenLaw.row PySem.Challenge.rw_measurehall_k04_machines_written).prog [36]) (H := Mh.hk) (ob := Mh.ob) (M := 9000) (loose := Mh.looseN) (d := HandSHeadRun.topDef (OpenLaw.row PySem.Challenge.rw_measurehall_k04_machines_written).prog 36) (kwd := []) Mh.ob_eq
    (by kernel_rfl) (fun s => by kernel_rfl) Mh.run (by kernel_rfl) (by kernel_rfl) (by kernel_rfl) (by rfl) (by first | assumption | decide +kernel) (by decide +kernel) ⟨rfl, rfl, rfl, rfl, rfl, by decide +kernel⟩ ?hw ?hc
  case hw => w_witness2
  case hc =>
    refine L2.walk_ofE (l := PySem.Challenge.rw_measurehall_k04_machines_written) (n := 63) (k := Mh.lawLevel) (x := "_law_script") (CX := L2.CX0) rfl (by decide) (by kernel_rfl) ⟨rfl, by decide, by decide⟩ ?F (fun _ _ _ _ z => z)
    intro w mg fa h Y G hmg0
    obtain ⟨K, KX, c⟩ := Y
    have hmg : mg ("law" : PySem.Str) = some (.ref fa) := by
      have e : (HandSHeadRun.topDef (OpenLaw.row PySem.Challenge.rw_measurehall_k04_machines_written).prog 36).name = ("law" : PySem.Str) := by kernel_rfl
      rw [← e]
      exact hmg0
    have TD : Mh.TabD K w := ⟨congrArg (fun z => z.2.1) c, congrArg (fun z => z.2.2) c⟩
    have c : He.SaysD Mh.fa Mh.fn K := congrArg Prod.fst c
    have T : Mh.Tx K mg := ⟨c, h, KX, G⟩
    obtain ⟨fd, F⟩ := T.d_law
    have e := hmg.symm.trans T.g_law
    cases e
    have b := L2.FunD.bindsA (ps := ["_law_script"]) F fun _ _ _ _ _ _ us hl => match us, hl with | [_], _ => rfl
    exact ⟨K, fd, Mh.spLaw K, KX, fun s v => b s [v] rfl, fun H a ns hl _ hS => ⟨a, ns, rfl, hS, hl, fun _ => rfl⟩, fun base _ _ => Mh.ok_law T TD F⟩
#print axioms PySem.Challenge.cw_measurehall_k04_machines_written_holds
