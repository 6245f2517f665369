import PyProof.Rows.All
import Wide.All
import OpenK.AllK
import Wide.FinOn
import HandS.ForMost
import HandS.Exc
import HandS.ExcOwn
import HandS.ExcInit
import HandS.WordsExc
import HandS.Defaults
import HandS.IsInst
import HandS.Zip
import HandS.Strs
import HandS.Flow
import HandS.HeadHook2
import HandS.SetFor
import KE.GoesMore
import HandS.Walk
import HandS.Evl
import HandS.Head2
import HandS.HeadEnd
import HandS.HeadHook3
import PySem.Challenge.RW_measurehall_k09_whole_ways_tried
import HandS.Conv
import HandS.MakeKwOnly
set_option Elab.async false
set_option linter.all false
set_option maxRecDepth 100000
set_option maxHeartbeats 0
/-! MhBase -/
namespace Mh
open PySem PySem.Spec PyProof.Rows L2

/-! ### frames -/
/-- what is tracked stands as it was, but at the places of M; tuples and locked things stand there too; nothing is lost -/
structure Fx (M : List Addr) (H H' : Hp) : Prop where
  k : ∀ a o, H a = some o → a ∉ M → H' a = some o
  t : ∀ a xs, H a = some (.tup xs) → H' a = some (.tup xs)
  z : ∀ a o u, H a = some (.frz o u) → H' a = some (.frz o u)
  d : ∀ a, H' a = none → H a = none
theorem Fx.refl {M : List Addr} {H : Hp} : Fx M H H := ⟨fun _ _ h _ => h, fun _ _ h => h, fun _ _ _ h => h, fun _ h => h⟩
theorem Fx.trans {M : List Addr} {H H1 H2 : Hp} (a : Fx M H H1) (b : Fx M H1 H2) : Fx M H H2 :=
  ⟨fun c o h n => b.k c o (a.k c o h n) n, fun c o h => b.t c o (a.t c o h), fun c o u h => b.z c o u (a.z c o u h), fun c h => a.d c (b.d c h)⟩
theorem Fx.mono {M N : List Addr} {H H' : Hp} (a : Fx M H H') (h : ∀ x, x ∈ M → x ∈ N) : Fx N H H' := ⟨fun c o e n => a.k c o e fun m => n (h c m), a.t, a.z, a.d⟩
theorem Fx.nil {N : List Addr} {H H' : Hp} (a : Fx [] H H') : Fx N H H' := a.mono fun _ m => nomatch m
theorem Fx.new {M : List Addr} {H : Hp} {p : Addr} {o : HO} (h : H p = none) : Fx M H (upd H p o) :=
  ⟨fun a u e _ => by rw [upd_ne (ne_of_none e h)]; exact e, fun a u e => by rw [upd_ne (ne_of_none e h)]; exact e, fun a u v e => by rw [upd_ne (ne_of_none e h)]; exact e,
    fun a e => by
      by_cases q : a = p
      · rw [q]; exact h
      · rw [upd_ne q] at e; exact e⟩
/-- what is at p may change if it is no tuple and not locked -/
def Chg (H : Hp) (p : Addr) : Prop := (∀ xs, H p ≠ some (.tup xs)) ∧ ∀ o u, H p ≠ some (.frz o u)
theorem Chg.none {H : Hp} {p : Addr} (h : H p = none) : Chg H p := ⟨fun xs e => (by rw [h] at e; cases e), fun o u e => (by rw [h] at e; cases e)⟩
theorem Chg.lst {H : Hp} {p : Addr} {ys : List V} (h : H p = some (.lst ys)) : Chg H p := ⟨fun xs e => (by rw [h] at e; cases e), fun o u e => (by rw [h] at e; cases e)⟩
theorem Chg.dK {H : Hp} {p : Addr} {ys : List (Key × V)} (h : H p = some (.dK ys)) : Chg H p := ⟨fun xs e => (by rw [h] at e; cases e), fun o u e => (by rw [h] at e; cases e)⟩
theorem Chg.ins {H : Hp} {p C dx : Addr} {fs : List (Str × V)} (h : H p = some (.ins C dx fs)) : Chg H p := ⟨fun xs e => (by rw [h] at e; cases e), fun o u e => (by rw [h] at e; cases e)⟩
theorem Fx.set {M : List Addr} {H : Hp} {p : Addr} {o : HO} (m : p ∈ M) (c : Chg H p) : Fx M H (upd H p o) :=
  ⟨fun a u e n => by rw [upd_ne (show a ≠ p from fun z => n (by rw [z]; exact m))]; exact e,
    fun a u e => by rw [upd_ne (show a ≠ p from fun z => c.1 u (by rw [← z]; exact e))]; exact e, fun a u v e => by rw [upd_ne (show a ≠ p from fun z => c.2 u v (by rw [← z]; exact e))]; exact e,
    fun a e => by
      by_cases q : a = p
      · rw [q, upd_same] at e; cases e
      · rw [upd_ne q] at e; exact e⟩
/-- a place that was free ahead needn't be named -/
theorem Fx.drop {M : List Addr} {H H' : Hp} {p : Addr} (a : Fx (p :: M) H H') (h : H p = none) : Fx M H H' :=
  ⟨fun c o e n => a.k c o e fun m => (by
    rcases List.mem_cons.mp m with q | q
    · rw [q, h] at e; cases e
    · exact n q), a.t, a.z, a.d⟩
theorem Fx.free {M : List Addr} {H H' : Hp} {p : Addr} (a : Fx M H H') (h : H' p = none) : H p = none := a.d p h
theorem Fx.same {H H' : Hp} (a : Fx [] H H') : Same H H' := fun b o e => a.k b o e fun m => nomatch m
theorem Fx.to {M : List Addr} {H H' : Hp} {p : Addr} {o : HO} (a : Fx M H H') (h : H p = some o) (n : p ∉ M) : H' p = some o := a.k p o h n
theorem Fx.rdT {M : List Addr} {H H' : Hp} {p : Addr} {xs : List V} (a : Fx M H H') (h : Rd H p (.tup xs)) : Rd H' p (.tup xs) := by
  rcases h with h | ⟨o, h⟩
  · exact .inl (a.t _ _ h)
  · exact .inr ⟨o, a.z _ _ _ h⟩
theorem Fx.sqT {M : List Addr} {H H' : Hp} {K : PySem.W.Frag} {p : Addr} {xs : List V} (a : Fx M H H') (h : SqT K H p xs) : SqT K H' p xs := by
  rcases h with h | h
  · exact .inl (a.rdT h)
  · exact .inr h
theorem Fx.sqL {M : List Addr} {H H' : Hp} {K : PySem.W.Frag} {p : Addr} {xs : List V} (a : Fx M H H') (h : SqL K H p xs) (n : p ∉ M) : SqL K H' p xs := by
  rcases h with (h | ⟨o, h⟩) | h
  · exact .inl (.inl (a.k _ _ h n))
  · exact .inl (.inr ⟨o, a.z _ _ _ h⟩)
  · exact .inr h

/-! ### data that stands in the heap -/
mutual
/-- no list within -/
def nol : PyData → Bool
  | .list _ => false
  | .dict _ => false
  | .tuple xs => nolA xs
  | _ => true
def nolA : List PyData → Bool
  | [] => true
  | x :: xs => nol x && nolA xs
end
end Mh
namespace L2
open PySem PySem.Spec PyProof.Rows Mh
section
variable {K : PySem.W.Frag} {M : List Addr} {H H' : Hp}
mutual
theorem Dp.fx (a : Fx M H H') : ∀ (d : PyData) (v : V), nol d = true → Dp K H v d → Dp K H' v d
  | .none, _, _, h => by cases h; exact .non
  | .bool b, _, _, h => by cases h; exact .bl b
  | .int i, _, _, h => by cases h; exact .int i
  | .str x, _, _, h => by cases h; exact .str x
  | .list ds, _, n, _ => by cases n
  | .tuple ds, _, n, h => by
    cases h with
    | tup hs ha => exact .tup (a.sqT hs) (DpA.fx a ds _ n ha)
  | .dict _, _, _, h => by cases h
theorem DpA.fx (a : Fx M H H') : ∀ (ds : List PyData) (vs : List V), nolA ds = true → DpAll K H vs ds → DpAll K H' vs ds
  | [], _, _, h => by cases h; exact .nil
  | d :: ds, _, n, h => by
    cases h with
    | cons h1 h2 =>
      have n2 : (nol d && nolA ds) = true := n
      obtain ⟨n3, n4⟩ := Bool.and_eq_true_iff.mp n2
      exact .cons (Dp.fx a d _ n3 h1) (DpA.fx a ds _ n4 h2)
end
mutual
theorem Dp.up (a : Fx [] H H') : ∀ (d : PyData) (v : V), Dp K H v d → Dp K H' v d
  | .none, _, h => by cases h; exact .non
  | .bool b, _, h => by cases h; exact .bl b
  | .int i, _, h => by cases h; exact .int i
  | .str x, _, h => by cases h; exact .str x
  | .list ds, _, h => by
    cases h with
    | lst hs ha => exact .lst (a.sqL hs fun m => nomatch m) (DpA.up a ds _ ha)
  | .tuple ds, _, h => by
    cases h with
    | tup hs ha => exact .tup (a.sqT hs) (DpA.up a ds _ ha)
  | .dict _, _, h => by cases h
theorem DpA.up (a : Fx [] H H') : ∀ (ds : List PyData) (vs : List V), DpAll K H vs ds → DpAll K H' vs ds
  | [], _, h => by cases h; exact .nil
  | d :: ds, _, h => by
    cases h with
    | cons h1 h2 => exact .cons (Dp.up a d _ h1) (DpA.up a ds _ h2)
end
theorem Dp.tupI {v : V} {ds : List PyData} (h : Dp K H v (.tuple ds)) : ∃ a xs, v = .ref a ∧ SqT K H a xs ∧ DpAll K H xs ds := by
  cases h with
  | tup hs ha => exact ⟨_, _, rfl, hs, ha⟩
theorem Dp.tup1 {K : PySem.W.Frag} {H : Hp} {v : V} {d1 : PyData} (h : Dp K H v (.tuple [d1])) : ∃ a v1, v = .ref a ∧ SqT K H a [v1] ∧ Dp K H v1 d1 := by
  obtain ⟨a, xs, e, hs, ha⟩ := h.tupI
  cases ha with | cons h1 t => cases t; exact ⟨a, _, e, hs, h1⟩
theorem Dp.tup2 {K : PySem.W.Frag} {H : Hp} {v : V} {d1 d2 : PyData} (h : Dp K H v (.tuple [d1, d2])) : ∃ a v1 v2, v = .ref a ∧ SqT K H a [v1, v2] ∧ Dp K H v1 d1 ∧ Dp K H v2 d2 := by
  obtain ⟨a, xs, e, hs, ha⟩ := h.tupI
  cases ha with | cons h1 t => cases t with | cons h2 t => cases t; exact ⟨a, _, _, e, hs, h1, h2⟩
theorem Dp.tup3 {K : PySem.W.Frag} {H : Hp} {v : V} {d1 d2 d3 : PyData} (h : Dp K H v (.tuple [d1, d2, d3])) : ∃ a v1 v2 v3, v = .ref a ∧ SqT K H a [v1, v2, v3] ∧ Dp K H v1 d1 ∧ Dp K H v2 d2 ∧ Dp K H v3 d3 := by
  obtain ⟨a, xs, e, hs, ha⟩ := h.tupI
  cases ha with | cons h1 t => cases t with | cons h2 t => cases t with | cons h3 t => cases t; exact ⟨a, _, _, _, e, hs, h1, h2, h3⟩
theorem Dp.lstI {v : V} {ds : List PyData} (h : Dp K H v (.list ds)) : ∃ a xs, v = .ref a ∧ SqL K H a xs ∧ DpAll K H xs ds := by
  cases h with
  | lst hs ha => exact ⟨_, _, rfl, hs, ha⟩
theorem Dp.intI {v : V} {i : Int} (h : Dp K H v (.int i)) : v = .int i := by cases h; rfl
theorem Dp.strI {v : V} {i : Str} (h : Dp K H v (.str i)) : v = .str i := by cases h; rfl
theorem Dp.blI {v : V} {i : Bool} (h : Dp K H v (.bool i)) : v = .bl i := by cases h; rfl
theorem Dp.nonI {v : V} (h : Dp K H v .none) : v = .non := by cases h; rfl
theorem Dp.mv {v : V} {d : PyData} (h : Dp K H v d) (a : Fx M H H') (n : nol d = true) : Dp K H' v d := Dp.fx a d v n h
theorem Dp.ext {v : V} {d : PyData} (h : Dp K H v d) (a : Fx [] H H') : Dp K H' v d := Dp.up a d v h
theorem DpAll.mv {vs : List V} {ds : List PyData} (h : DpAll K H vs ds) (a : Fx M H H') (n : nolA ds = true) : DpAll K H' vs ds := DpA.fx a ds vs n h
theorem DpAll.ext {vs : List V} {ds : List PyData} (h : DpAll K H vs ds) (a : Fx [] H H') : DpAll K H' vs ds := DpA.up a ds vs h
theorem DpAll.len : ∀ {vs : List V} {ds : List PyData}, DpAll K H vs ds → vs.length = ds.length
  | _, _, .nil => rfl
  | _, _, .cons _ t => congrArg Nat.succ (DpAll.len t)
theorem DpAll.get : ∀ {vs : List V} {ds : List PyData} {i : Nat} {v : V}, DpAll K H vs ds → vs[i]? = some v → ∃ d, ds[i]? = some d ∧ Dp K H v d
  | _, _, _, _, .nil, e => by simp at e
  | _, _, 0, _, .cons r _, e => by simp at e; subst e; exact ⟨_, rfl, r⟩
  | _, _, i + 1, v, .cons _ t, e => by
    obtain ⟨d, h1, h2⟩ := DpAll.get (i := i) (v := v) t (by simpa using e)
    exact ⟨d, by simpa using h1, h2⟩
theorem DpAll.at : ∀ {vs : List V} {ds : List PyData} {i : Nat} {d : PyData}, DpAll K H vs ds → ds[i]? = some d → ∃ v, vs[i]? = some v ∧ Dp K H v d
  | _, _, _, _, .nil, e => by simp at e
  | _, _, 0, _, .cons r _, e => by simp at e; subst e; exact ⟨_, rfl, r⟩
  | _, _, i + 1, d, .cons _ t, e => by
    obtain ⟨v, h1, h2⟩ := DpAll.at (i := i) (d := d) t (by simpa using e)
    exact ⟨v, by simpa using h1, h2⟩
theorem DpAll.snoc : ∀ {vs : List V} {ds : List PyData} {v : V} {d : PyData}, DpAll K H vs ds → Dp K H v d → DpAll K H (vs ++ [v]) (ds ++ [d])
  | _, _, _, _, .nil, h => .cons h .nil
  | _, _, _, _, .cons r t, h => .cons r (DpAll.snoc t h)
end

end L2
namespace Mh
open PySem PySem.Spec PyProof.Rows L2
/-! ### isinstance of data, a built-in type -/
def isTy (n : String) : PyData → Bool
  | .none => n == "NoneType"
  | .bool _ => n == "bool" || n == "int"
  | .int _ => n == "int"
  | .str _ => n == "str"
  | .list _ => n == "list"
  | .tuple _ => n == "tuple"
  | .dict _ => n == "dict"
def tyD : PyData → String
  | .none => "NoneType"
  | .bool _ => "bool"
  | .int _ => "int"
  | .str _ => "str"
  | .list _ => "list"
  | .tuple _ => "tuple"
  | .dict _ => "dict"
def sixTy : List String := ["int", "bool", "str", "tuple", "list"]
theorem kit_tab : sixTy.all (fun n => ["NoneType", "bool", "int", "str", "list", "tuple"].all fun t => decide (kitB t n = some ((t == n) || (t == "bool" && n == "int")))) = true := by decide +kernel
theorem isTy_eq (n : String) (d : PyData) (hn : n ∈ sixTy) : isTy n d = ((tyD d == n) || (tyD d == "bool" && n == "int")) := by
  simp only [sixTy, List.mem_cons, List.mem_nil_iff, or_false] at hn
  rcases hn with rfl | rfl | rfl | rfl | rfl <;> cases d <;> rfl
section
variable {K : PySem.W.Frag} {H : Hp}
theorem tyx_of {v : V} {d : PyData} (h : Dp K H v d) : TyX K H v (.type (tyD d)) := by
  cases h with
  | non => exact .base .non
  | bl b => exact .base (.bl b)
  | int i => exact .base (.int i)
  | str x => exact .base (.str x)
  | lst hs _ =>
    rcases hs with (h | ⟨o, h⟩) | ⟨o, its, n, hk, hc, _⟩
    · exact .base (.lst h)
    · exact .base (.frz h)
    · exact .kList hk hc
  | tup hs _ =>
    rcases hs with (h | ⟨o, h⟩) | ⟨o, its, n, hk, hc, _⟩
    · exact .base (.tup h)
    · exact .fTuple h
    · exact .kTuple hk hc
theorem tyD_mem {v : V} {d : PyData} (h : Dp K H v d) : tyD d ∈ ["NoneType", "bool", "int", "str", "list", "tuple"] := by
  cases h <;> simp [tyD]
theorem kit_of_tab {t n : String} (ht : t ∈ ["NoneType", "bool", "int", "str", "list", "tuple"]) (hn : n ∈ sixTy) : kitB t n = some ((t == n) || (t == "bool" && n == "int")) := by
  have h := List.all_eq_true.mp (List.all_eq_true.mp kit_tab n hn) t ht
  exact of_decide_eq_true h
/-- isinstance(x, n) -/
def rIsD (K : PySem.W.Frag) : List V → Hp → VK → Prop := fun xs H Q => ∃ (x : V) (n : String) (d : PyData), xs = [x, .ty n] ∧ n ∈ sixTy ∧ Dp K H x d ∧ Q (.bl (isTy n d)) H
theorem call_isiD {X : Cx} : CallR X (.builtin "isinstance") (rIsD X.K) := fun pins s σ H xs us Q I r h => by
  obtain ⟨x, n, d, e, hn, hd, q⟩ := h
  refine call_isi pins s σ H xs us Q I r ⟨x, .ty n, .type (tyD d), .type n, isTy n d, e, .ty n, tyx_of hd, kit_ty ?_, q⟩
  rw [kit_of_tab (tyD_mem hd) hn, isTy_eq n d hn]
end

/-! ### a def of the text, as its callers want it -/
structure Def (P : Program) (w : World) (K : PySem.W.Frag) (mg : Str → Option Value) (base : Heap) (CX : CXT) (k : Nat) (x : Str) (ps : List Str) (sp : Sp) : Prop where
  ex : ∃ (f : Addr) (fd : FuncData), FnOk P w K mg base CX k f fd ps sp ∧ Binds K fd ps [] ∧ mg x = some (.ref f) ∧ PySem.W.keepIn K (.ref f) = true
section
variable {X : Cx} {CX : CXT} {k : Nat} {ps : List Str} {sp : Sp} {E : XK} {x : Str} {p pos : Pos} {e : Expr} {es : List Expr} {t : TA}
theorem pe_def (F : Def X.prog X.w X.K X.mg X.base CX k x ps sp) (hr : Room k X.A) (hx : Passes CX X E) (ha : PA X (e :: es) t) (hg : Gl X x := by rfl) (hdb : (x == ("__debug__" : Str)) = false := by decide)
    (he : starEach (e :: es) X.env = (false, eval e X.env) :: starEach es X.env := by rfl) (hpl : (backTo pos (starEach es X.env)).any (·.1) = false := by rfl) :
    PE X (.Call (.Name x p) (e :: es) [] pos) (tCall sp [] E t) := by
  obtain ⟨f, fd, F1, b, g, kp⟩ := F.ex
  exact pe_call F1 hr hg g kp b .nil hx ha hdb he hpl
theorem pe_def0 (F : Def X.prog X.w X.K X.mg X.base CX k x ps sp) (hr : Room k X.A) (hx : Passes CX X E) (hg : Gl X x := by rfl) (hdb : (x == ("__debug__" : Str)) = false := by decide) :
    PE X (.Call (.Name x p) [] [] pos) (tCall sp [] E tNil) := by
  obtain ⟨f, fd, F1, b, g, kp⟩ := F.ex
  exact pe_call0 F1 hr hg g kp b .nil hx hdb
/-- a module's number, text -/
theorem gC {i : Int} (h : ∃ t, X.mg x = some (.int i t)) (hg : Gl X x := by rfl) (hd : (x == ("__debug__" : Str)) = false := by decide) : PE X (.Name x pos) (tC (.int i)) := by
  obtain ⟨t, h⟩ := h
  exact pe_glob hg h ⟨t, rfl⟩ hd
theorem gS {z : Str} (h : ∃ t, X.mg x = some (.str z t)) (hg : Gl X x := by rfl) (hd : (x == ("__debug__" : Str)) = false := by decide) : PE X (.Name x pos) (tC (.str z)) := by
  obtain ⟨t, h⟩ := h
  exact pe_glob hg h ⟨t, rfl⟩ hd
/-- a built-in type's name as a value -/
theorem gT {n : String} (hm : X.mg x = none) (hg : Gl X x := by rfl) (hv : bootBuiltins x = some (.type n) := by decide +kernel) (hn : x ≠ "__name__" := by decide) (hd : (x == ("__debug__" : Str)) = false := by decide) : PE X (.Name x pos) (tC (.ty n)) :=
  pe_bltn hg hm hv rfl hn hd
end
/-! ### small things -/
theorem ifT {c : Bool} {A B : Prop} (h : c = true) (a : A) : if c = true then A else B := by rw [if_pos h]; exact a
theorem ifF {c : Bool} {A B : Prop} (h : c = false) (b : B) : if c = true then A else B := by rw [if_neg (by rw [h]; decide)]; exact b
theorem ifB {c : Bool} {A B : Prop} (a : c = true → A) (b : c = false → B) : if c = true then A else B := by
  cases h : c with
  | true => exact ifT rfl (a h)
  | false => exact ifF rfl (b h)
theorem sz2 {n : Nat} (h : n ≤ 1000) : n ≤ sizeLine := Nat.le_trans h (by decide)
end Mh
/-! MhSet -/
namespace Mh
open PySem PySem.Spec PyProof.Rows L2

/-! ### set(xs), xs a list of ints, as the hand layer's sets are told (an adaption of the library's own way for a tuple) -/
section
variable {P : Program} {w : World} {A : Around} {E : Value → Shared → Prop} {s : Shared}
abbrev newS (w : World) : Obj := { cls := .type "set", dict := none, data := .set #[] 0 (.fresh 0 0 (!w.params.followText "set-order")) }
set_option maxHeartbeats 8000000 in
theorem set_listI {l : Addr} {items : Array Value} (ns : List Int) {Q : Value → Shared → Prop} (hh : A.handled = none) (hl : s.heap.IsList l items) (hit : IntsAre items.toList ns) (hb : ns.length + 1 < scanBound)
    (h : ∀ (h' : Heap) (tk c : Nat), SetR w h' s.heap.objs.size (fun j => decide (j ∈ ns)) c → c ≤ ns.length → (∀ b o, s.heap.get? b = some o → h'.get? b = some o) → Q (.ref s.heap.objs.size) { s with heap := h', toks := tk }) :
    wpAny (model P w) A (call (.type "set") [.ref l]) Q E s := by
  have sz : items.size = ns.length := by
    have q := IntsAre.length hit
    rw [Array.length_toList] at q
    exact q
  obtain ⟨c, tl, hmro⟩ := F.called_set.mro
  have a1 := F.called_set.made
  have a2 := F.called_set.sub
  refine wpAny_call (codeAny_of_tree ?_)
  show wpAny _ _ (callAny (.type "set") _) _ _ _
  refine wpAny_pure ⟨Code.quiet_builtin _ (by decide +kernel), codeAny_builtin F.entry_type_call ?_⟩
  rw [Around.under_plain (weight_type_call_type "set" [.ref l] []) rfl]
  have a3 := F.called_set.notType
  have a4 := F.called_set.canCreate
  have a5 := F.typeCall_set_1 (.ref l)
  repeat (any_goals (first | assumption | wp_step))
  refine codeAny_mono (code_set_led1 (.ref l) (E := E) (Q₁ := fun obj s₁ => obj = .ref s.heap.objs.size ∧ s₁ = { s with heap := s.heap.push (newS w) }) ⟨rfl, rfl⟩) fun r s₁ hr => ?_
  cases r with
  | error e => exact hr
  | ok fl =>
    cases fl with
    | ret obj =>
      obtain ⟨rfl, rfl⟩ := hr
      have hS : (s.heap.push (newS w)).get? s.heap.objs.size = some (newS w) := Heap.get?_push_size _ rfl
      have hT : Shared.TypeIs { s with heap := s.heap.push (newS w) } (.ref s.heap.objs.size) "set" := ⟨_, hS, rfl⟩
      have a6 := F.called_set.init.lookup
      have a7 := F.called_set.init.bind (.ref s.heap.objs.size)
      repeat (any_goals (first | assumption | wp_step))
      refine codeAny_mono (codeAny_call_builtin (R := wants (fun r s₂ => r = .none ∧ ∃ h' tk c, s₂ = { s with heap := h', toks := tk } ∧ SetR w h' s.heap.objs.size (fun j => decide (j ∈ ns)) c ∧ c ≤ ns.length ∧
          (∀ b o, s.heap.get? b = some o → h'.get? b = some o)) E) F.called_set.init.plain F.entry_set_init (check_set_init_1 hT ?_)) fun r₂ s₂ hr₂ => ?_
      · obtain ⟨ol, hol, hcl, nl, hdl⟩ := hl
        obtain ⟨ocls, odict, odata, oslots⟩ := ol
        simp only at hcl hdl
        subst hcl; subst hdl
        have hol' : (s.heap.push (newS w)).get? l = some { cls := .type "list", dict := odict, data := .seq items nl, slots := oslots } := Heap.get?_push_of_some _ hol
        have b1 := F.sub_list_set
        have b2 := F.sub_list_frozenset
        have b3 : (Value.type "list" == Value.type "dict") = false := by decide
        have hl1 : (s.heap.push (newS w)).IsList l items := ⟨_, hol', rfl, nl, rfl⟩
        unfold Builtin.«set.__init__» noKeywords Builtin.Frozenset.updateFrom
        generalize hPI : pyIter = PI
        wp_walk
        subst hPI
        refine wpAny_pyIter_list hl1 (wpAny_bind (wpAny_runValue ?_))
        have hlS : l < s.heap.objs.size := Heap.lt_size hol
        have hh3 : A.in1.in1.in1.handled = none := by simp [hh]
        have z1 : (s.heap.push (newS w)).objs.size = s.heap.objs.size + 1 := Heap.size_push ..
        have hneI : l ≠ (s.heap.push (newS w)).objs.size := by rw [z1]; exact Nat.ne_of_lt (Nat.lt_succ_of_lt hlS)
        have hSf : s.heap.objs.size ∉ [(s.heap.push (newS w)).objs.size, l] := by
          rw [z1]
          intro m
          rcases List.mem_cons.mp m with m | m
          · exact Nat.ne_of_lt (Nat.lt_succ_self _) m
          · exact Nat.ne_of_gt hlS (List.mem_singleton.mp m)
        have hval : ∀ (i : Nat) (v : Value), items[i]? = some v → ∃ k t, ns[i]? = some k ∧ v = .int k t := fun i v hv => by
          have hi : i < ns.length := by rw [← sz]; exact (Array.getElem?_eq_some_iff.mp hv).1
          obtain ⟨t, e⟩ := PyProof.Rows.IntsAre.int_at hit i v (by rw [Array.getElem?_toList]; exact hv)
          refine ⟨ns[i], t, List.getElem?_eq_getElem hi, ?_⟩
          rw [e, List.getD_eq_getElem?_getD, List.getElem?_eq_getElem hi] <;> rfl
        refine set_update_ints ((Walks.list hh3 _ l hneI items).toS) s.heap.objs.size hSf ns sz hb hval (items.size - 0) 0 _ (by omega) (Nat.zero_le _) ⟨⟨_, Heap.get?_push_size _ rfl, rfl, rfl⟩, (hl1.push _)⟩ ?hS0 ?hR
        case hS0 =>
          have g0 : ((s.heap.push (newS w)).push { cls := .type "list_iterator", data := .fields #[.ref l, .int 0 0] }).get? s.heap.objs.size = some (newS w) := Heap.get?_push_of_some _ hS
          exact ⟨0, Nat.le_refl 0, setR_new_at g0⟩
        case hR =>
          intro s' c' hm hc' hS'
          obtain ⟨h', g2, d', tk', os'⟩ := s'
          have e1 : g2 = s.gens := hm.gens
          have e2 : d' = s.drawn := hm.drawn
          have e3 : os' = s.os := hm.os
          subst e1; subst e2; subst e3
          show wpAny _ _ _ _ _ _
          refine wpAny_pure ?_
          show wpAny _ _ (ret Value.none) _ _ _
          rw [sz] at hc'
          refine wpAny_pure ⟨rfl, h', tk', c', rfl, hS', hc', fun b o e => ?_⟩
          have hb0 : b < s.heap.objs.size := Heap.lt_size e
          have n1 : b ≠ s.heap.objs.size := Nat.ne_of_lt hb0
          have n2 : b ≠ (s.heap.push (newS w)).objs.size := by rw [z1]; exact Nat.ne_of_lt (Nat.lt_succ_of_lt hb0)
          refine hm.heap b o (fun m => ?_) (Heap.get?_push_of_some _ (Heap.get?_push_of_some _ e))
          rcases List.mem_cons.mp m with m | m
          · exact n1 m
          · exact n2 (List.mem_singleton.mp m)
      · cases r₂ with
        | error e => exact hr₂
        | ok fl₂ =>
          cases fl₂ with
          | ret r =>
            obtain ⟨rfl, h', tk, c', rfl, hS', hc', hk'⟩ := hr₂
            repeat (any_goals (first | assumption | wp_step))
            exact h _ _ _ hS' hc' hk'
          | _ => exact hr₂.elim
    | _ => exact hr.elim
end
def rSetL (K : PySem.W.Frag) (w : World) : List V → Hp → VK → Prop := fun xs H Q => ∃ (l : Addr) (ns : List Int), xs = [V.ref l] ∧ SqL K H l (ns.map V.int) ∧ ns.length < 60 ∧
  ∀ a c, H a = none → c ≤ ns.length → Q (.ref a) (upd H a (SetO w a (fun j => decide (j ∈ ns)) c))
theorem cr_setL {X : Cx} (hc : X.calm = true) : CallR X (.type "set") (rSetL X.K X.w) := fun pins s σ H xs us Q I r h => by
  obtain ⟨l, ns, rfl, hq, hn, q⟩ := h
  rw [Vals.ref1 r]
  obtain ⟨its, rv, pl, hz⟩ := I.list hq
  refine set_listI ns (I.ok.hd hc) pl.isList (by simpa using rv.ints) (by unfold scanBound; omega) fun h' tk c R hcn k => ?_
  have fr : H s.heap.objs.size = none := I.hok.fresh (Nat.le_refl _)
  exact ⟨.ref s.heap.objs.size, _, I.laid (t' := tk) (fun b u e => k b u e) (Nat.le_refl _) (setO_new R), rfl, q _ c fr hcn⟩

end Mh
/-! MhRules -/
namespace Mh
open PySem PySem.Spec PyProof.Rows L2

/-! ### for i, x in enumerate(t), t a tuple -/
section
variable {prog : Program} {w : World} {A : Around} {E : Value → Shared → Prop} {s : Shared}
theorem meets_enT (l : Addr) (items : Array Value) (n : Nat) (dct : Option Addr) (sl : Array (Option Value)) :
    Meets (Builtin.«enumerate.__new__» ⟨[.type "enumerate", .ref l], []⟩) (fun _ R s => s.heap.get? l = some { cls := .type "tuple", dict := dct, data := .seq items n, slots := sl } ∧
      R (.ok (.ret (.ref (s.heap.push { cls := .type "tuple_iterator", data := .fields #[.ref l, .int 0 0] }).objs.size)))
        { s with heap := (s.heap.push { cls := .type "tuple_iterator", data := .fields #[.ref l, .int 0 0] }).push { cls := .type "enumerate", data := .fields #[.none, .bool false, .ref s.heap.objs.size, rawInt 0, .none, .none] } }) :=
  .of_wp fun prog w A R s h => by
    obtain ⟨hp, g, d, tk, os⟩ := s
    obtain ⟨hl, h⟩ := h
    have hsub := sub_enumerate
    have hL : Heap.IsTuple (Shared.heap ⟨hp, g, d, tk, os⟩) l items := ⟨_, hl, rfl, n, rfl⟩
    wp_walk using AutoSeq1.wpAny_loadPart' hl
    refine wpAny_stack_any fun st => wpAny_pure ?_
    split
    · rename_i c _ _ _ _ _
      cases (c == Value.type "enumerate") <;> (wp_walk using AutoSeq1.wpAny_loadPart' hl, wpAny_pyIter_tuple hL; exact ⟨_, rfl, h⟩)
    · wp_walk using AutoSeq1.wpAny_loadPart' hl, wpAny_pyIter_tuple hL
      exact ⟨_, rfl, h⟩
theorem call_enT {l : Addr} {items : Array Value} {Q : Value → Shared → Prop} (hL : s.heap.IsTuple l items)
    (h : ∀ h', IsEnum h' (s.heap.objs.size + 1) s.heap.objs.size 0 .none → h'.IsTupleIter s.heap.objs.size l 0 → (∀ b o, s.heap.get? b = some o → h'.get? b = some o) → Q (.ref (s.heap.objs.size + 1)) { s with heap := h' }) :
    wpAny (model prog w) A (call (.type "enumerate") [.ref l]) Q E s := by
  obtain ⟨⟨c, dct, dt, sl⟩, hl, hc, n, hd⟩ := hL
  replace hc : c = .type "tuple" := hc
  replace hd : dt = .seq items n := hd
  subst hc hd
  refine callType_new F.called_enumerate (by decide) (F.typeCall_enumerate_1 _) (F.newCall_enumerate_1 _) (fun obj => F.args_object_init_2 obj _) F.entry_enumerate_new (meets_enT l items n dct sl) ⟨hl, ?_⟩
  have hz : (s.heap.push { cls := .type "tuple_iterator", data := .fields #[.ref l, .int 0 0] }).objs.size = s.heap.objs.size + 1 := Heap.size_push ..
  show _ ∧ _
  rw [hz]
  have he : IsEnum ((s.heap.push { cls := .type "tuple_iterator", data := .fields #[.ref l, .int 0 0] }).push { cls := .type "enumerate", data := .fields #[.none, .bool false, .ref s.heap.objs.size, rawInt 0, .none, .none] }) (s.heap.objs.size + 1) s.heap.objs.size 0 .none := by
    have q := Heap.get?_push_size (s.heap.push { cls := .type "tuple_iterator", data := .fields #[.ref l, .int 0 0] }) (o := { cls := .type "enumerate", data := .fields #[.none, .bool false, .ref s.heap.objs.size, rawInt 0, .none, .none] }) rfl
    rw [hz] at q
    exact q
  exact ⟨⟨_, he, rfl⟩, h _ he ⟨_, Heap.get?_push_of_some _ (Heap.get?_push_size _ rfl), rfl, rfl⟩ fun b o x => Heap.get?_push_of_some _ (Heap.get?_push_of_some _ x)⟩
theorem enT_end {e it l : Addr} {i : Nat} {items : Array Value} {old : Value} {Q : Option Value → Shared → Prop} (hh : A.handled = none)
    (he : IsEnum s.heap e it i old) (hit : s.heap.IsTupleIter it l i) (hl : s.heap.IsTuple l items) (hx : items[i]? = none) (hQ : ∀ h', Heap.ExtBut it s.heap h' → Q none { s with heap := h' }) : wpAny (model prog w) A (pyNext (.ref e)) Q E s := by
  have hT : s.TypeIs (.ref e) "enumerate" := ⟨_, he, rfl⟩
  unfold pyNext
  refine wpAny_bind (wpAny_attempt (wpAny_callSpecial?_slot (name := Str.ofString "__next__") hT F.slot_enumerate_next (wpAny_call_entry F.slot_enumerate_next hT F.entry_enumerate_next ?_ (F.args_enumerate_next_1 _))))
  show wpAny _ _ (field (.ref e) 2 >>= _) _ _ _
  refine wpAny_bind (wpAny_field he rfl (x := .ref it) rfl ?_)
  refine wpAny_bind (RZ.nextOf_tuple_end hh hit hl hx fun h' x he' hx' => ?_)
  obtain ⟨o, ho, hc⟩ := hx'
  exact wpAny_bind (wpAny_isInstance (T := "StopIteration") (b := true) ⟨o, ho, hc⟩ isSubtype_stop (wpAny_pure (hQ _ he')))
end
def IteT (K : PySem.W.Frag) (a : Addr) : It :=
  ⟨fun i H => ∃ (xs : List V) (x : V), SqT K H a xs ∧ xs[i]? = some x, fun i H v H' => ∃ T x, v = .ref T ∧ H T = none ∧ H' = upd H T (.tup [.int (i : Nat), x]) ∧ ∀ xs, SqT K H a xs → xs[i]? = some x, fun i H => ∃ xs : List V, SqT K H a xs ∧ xs.length ≤ i⟩
theorem turn_enT {P : Program} {w : World} {K : PySem.W.Frag} {elts : List Expr} {kk : Nat} {tpos : Pos} (a e it : Addr) :
    Turn P w K (.Tuple elts kk tpos) (IteT K a) [e, it] e (fun i h => (∃ old, IsEnum h e it ((i : Nat) : Int) old) ∧ h.IsTupleIter it a i ∧ e ≠ it) where
  mem := by simp
  obj := fun i h st b hb => by
    obtain ⟨⟨old, he⟩, ⟨o, ho, hc, hd⟩, _⟩ := st
    have e' : b = e ∨ b = it := by simpa using hb
    rcases e' with z | z
    · rw [z]; exact ⟨_, he, fun v q => nomatch q⟩
    · rw [z]; exact ⟨o, ho, fun v q => by rw [hd] at q; cases q⟩
  keep := fun i h h' st k => let ⟨⟨old, he⟩, hi, hne⟩ := st; ⟨⟨old, k e (by simp) _ he⟩, hi.at fun o q => k it (by simp) o q, hne⟩
  item := fun {X} hP hw hK hc i pins s σ H E I hf st hg => by
    subst hP hw hK
    obtain ⟨⟨old, he⟩, hit, hne⟩ := st
    obtain ⟨xs, x, hq, hx⟩ := hg
    obtain ⟨its, rv, p, hz⟩ := I.tuple hq
    obtain ⟨u, hu, ru⟩ := rv.get hx
    have hel : e < s.heap.objs.size := Heap.lt_size he
    have hil : it < s.heap.objs.size := by obtain ⟨_, q, _⟩ := hit; exact Heap.lt_size q
    have hat : a ≠ it := fun z => by
      obtain ⟨o1, q1, c1, _⟩ := hit
      obtain ⟨o2, q2, c2, _⟩ := p
      rw [z, q1] at q2
      rw [← Option.some.inj q2, c1] at c2
      exact absurd (Value.type.inj c2) (by decide)
    have hae : e ≠ a := fun z => by
      obtain ⟨o2, q2, c2, _⟩ := p
      rw [← z, he] at q2
      rw [← Option.some.inj q2] at c2
      exact absurd (Value.type.inj c2) (by decide)
    have hlt : i < its.toArray.size := by
      have := (List.getElem?_eq_some_iff.mp hu).1
      simpa using this
    refine wpAny_pyNext_enum_itemD (Draws.tuple (by rw [show X.A.in1.handled = X.A.handled from rfl]; exact I.ok.hd hc) it a hat its.toArray) he ⟨hit, p⟩ hlt hne (fun m => ?_) fun x1 h' tk hx1 ho hst' hT hsz hk => ?_
    · rcases List.mem_cons.mp m with m | m
      · exact hne m
      · exact hae (List.mem_singleton.mp m)
    obtain ⟨hit', _⟩ := hst'
    have e1 : x1 = u := by
      have q : its[i]? = some x1 := by simpa using hx1
      rw [hu] at q
      exact (Option.some.inj q).symm
    subst e1
    refine ⟨_, rfl, wpAny_letOwnedTupleGo_enum (s := { s with heap := h', toks := tk + 1 }) ho fun h'' he' sb => ?_⟩
    have hT2 : h''.get? s.heap.objs.size = some { cls := .type "tuple", data := .seq #[.int i tk, x1] } := (sb.2 _ (Nat.ne_of_gt hel)).trans hT
    have new : ObjOk X.prog X.w (upd H s.heap.objs.size (.tup [.int (i : Nat), x])) h'' s.heap.objs.size (.tup [.int (i : Nat), x]) :=
      ⟨by show 2 ≤ sizeLine; decide, [.int i tk, x1], .cons ⟨_, rfl⟩ (.cons ru .nil), ⟨_, hT2, rfl, _, rfl⟩⟩
    have I1 : Inv X pins σ (upd H s.heap.objs.size (.tup [.int (i : Nat), x])) { s with heap := h'', toks := tk + 1 } :=
      I.turnedNew (ch := [e, it]) (fun b ob hb q => (sb.2 b (fun z => hb (by simp [z]))).trans (hk b ob (fun z => hb (by simp [z])) (fun z => hb (by simp [z])) q)) hf (Nat.le_refl _) new
    refine ⟨.ref s.heap.objs.size, _, I1, rfl, ⟨_, x, rfl, I.hok.fresh (Nat.le_refl _), rfl, fun ys hy => by rw [I.tuple_inj hy hq]; exact hx⟩, ⟨⟨x1, ?_⟩, hit'.at fun o q => (sb.2 it (Ne.symm hne)).trans q, hne⟩, fun b hb => ?_⟩
    · have e2 : ((i + 1 : Nat) : Int) = (i : Int) + 1 := by omega
      rw [e2]
      exact he'
    · have hb' : b < s.heap.objs.size := by
        have e' : b = e ∨ b = it := by simpa using hb
        rcases e' with z | z
        · rw [z]; exact hel
        · rw [z]; exact hil
      rw [upd_ne (Nat.ne_of_lt hb')]
      exact (hf b hb).1
  done := fun {X} hP hw hK hc i pins s σ H E I hf st hg => by
    subst hP hw hK
    obtain ⟨⟨old, he⟩, hit, hne⟩ := st
    obtain ⟨xs, hq, hx⟩ := hg
    obtain ⟨its, rv, p, hz⟩ := I.tuple hq
    have hl := rv.length
    have hat : a ≠ it := fun z => by
      obtain ⟨o1, q1, c1, _⟩ := hit
      obtain ⟨o2, q2, c2, _⟩ := p
      rw [z, q1] at q2
      rw [← Option.some.inj q2, c1] at c2
      exact absurd (Value.type.inj c2) (by decide)
    obtain ⟨f0, f1, f2, f3, f4, f5⟩ := hf it (by simp)
    refine enT_end (I.ok.hd hc) he hit p (by simp; omega) fun h' eb => ⟨rfl, I.turned (t' := s.toks) (fun b o hb q => eb b o hb q) f0 f1 f3 f4 f5⟩
  self := fun A i s Q E st h => let ⟨⟨_, he⟩, _⟩ := st; wpAny_pyIter_enum he h
def iEnT (K : PySem.W.Frag) (ta : TA) : TI := fun σ H R => ta σ H fun vs H1 => ∃ a xs, vs = [.ref a] ∧ SqT K H1 a xs ∧ R (IteT K a) H1
theorem pi_enumT {X : Cx} {e : Expr} {ta : TA} {p pos tpos : Pos} {elts : List Expr} {kk : Nat} (hg : Gl X "enumerate") (hm : X.mg "enumerate" = none) (ha : PA X [e] ta) (hs : starEach [e] X.env = [(false, eval e X.env)] := by rfl) :
    PI X (.Tuple elts kk tpos) (.Call (.Name "enumerate" p) [e] [] pos) (iEnT X.K ta) := ⟨fun pins s σ H R I h => by
  refine Call_ (ld_blt I hg hm boot_enumerate (PyProof.Rows.callWith_type1 (thn (ha.run pos pins s σ H _ I h) fun us s1 ⟨vs, H1, I1, r1, q1⟩ => ?_) hs rfl))
  obtain ⟨a, xs, ex, hq, q⟩ := q1
  subst ex
  rw [Vals.ref1 r1]
  obtain ⟨its, rv, p', hz⟩ := I1.tuple hq
  refine call_enT p' fun h' he hit hk => wpAny_pyIter_enum he ?_
  have I2 : Inv X pins σ H1 { s1 with heap := h' } := I1.kept (t' := s1.toks) hk
  refine ⟨s1.heap.objs.size + 1, [s1.heap.objs.size + 1, s1.heap.objs.size], _, _, H1, rfl, I2, turn_enT a (s1.heap.objs.size + 1) s1.heap.objs.size, ⟨⟨.none, he⟩, hit, Nat.succ_ne_self _⟩, fun b hb => ?_, q⟩
  have hle : s1.heap.objs.size ≤ b := by
    rcases List.mem_cons.mp hb with z | z
    · rw [z]; exact Nat.le_add_right _ _
    · rw [List.mem_singleton.mp z]; exact Nat.le_refl _
  exact I1.fpOk hle (I1.hok.fresh hle)⟩
/-- a loop over enumerate(t) -/
theorem for_enT {K : PySem.W.Frag} {a : Addr} {xs : List V} {g : TG} {tb : TS} {D : Ends} {σ : L2.St} {H : Hp} (Pv : Nat → L2.St → Hp → Prop) (h0 : Pv 0 σ H) (hq : ∀ i σ H, Pv i σ H → SqT K H a xs)
    (hs : ∀ (i : Nat) (x : V) (T : Addr) (σ : L2.St) (H : Hp), xs[i]? = some x → Pv i σ H → H T = none → g (.ref T) σ (upd H T (.tup [.int (i : Nat), x])) fun σ2 H2 => tb { D with nx := Pv (i + 1), ct := Pv (i + 1), bk := D.nx } σ2 H2) (hd : ∀ σ H, Pv xs.length σ H → D.nx σ H) :
    ∃ W : Nat → Nat → L2.St → Hp → Prop, (∃ m, W 0 m σ H) ∧ ∀ i m σ H, W i m σ H →
      ((IteT K a).stop i H ∧ D.nx σ H) ∨ ((IteT K a).go i H ∧ ∃ N : L2.St → Hp → Prop, (∀ σ' H', N σ' H' → ∃ m', m' < m ∧ W (i + 1) m' σ' H') ∧ ∀ v H', (IteT K a).yld i H v H' → g v σ H' fun σ2 H2 => tb { D with nx := N, ct := N, bk := D.nx } σ2 H2) := by
  refine ⟨fun i m σ H => m = xs.length - i ∧ i ≤ xs.length ∧ Pv i σ H, ⟨xs.length, rfl, Nat.zero_le _, h0⟩, ?_⟩
  rintro i m σ H ⟨rfl, hi, p⟩
  have q := hq i σ H p
  by_cases hlt : i < xs.length
  · refine .inr ⟨⟨xs, xs[i], q, List.getElem?_eq_getElem hlt⟩, Pv (i + 1), fun σ' H' p' => ⟨xs.length - (i + 1), by omega, rfl, hlt, p'⟩, fun v H' y => ?_⟩
    obtain ⟨T, x', rfl, hT, rfl, f1⟩ := y
    exact hs i x' T σ H (f1 xs q) p hT
  · have e : i = xs.length := by omega
    subst e
    exact .inl ⟨⟨xs, q, Nat.le_refl _⟩, hd σ H p⟩
/-- a comprehension over enumerate(t) -/
theorem lc_enT {K : PySem.W.Frag} {a : Addr} {xs : List V} {g : TG} {tt : TT} {te : TE} {vs : List Nat} {σ : L2.St} {H1 : Hp} {D : Addr} {Qd : Hp → Prop} (Pv : Nat → Hp → Prop) (h0 : Pv 0 (upd H1 D (.lst []))) (hl : ∀ i H, Pv i H → SqT K H a xs)
    (hs : ∀ (i : Nat) (x : V) (T : Addr) H, xs[i]? = some x → Pv i H → H T = none → g (.ref T) (wipe σ vs) (upd H T (.tup [.int (i : Nat), x])) fun σ2 H2 => wipe σ2 vs = wipe σ vs ∧ tt σ2 H2 fun b H3 =>
      if b = true then te σ2 H3 fun y H4 => ∃ acc, H4 D = some (.lst acc) ∧ acc.length < sizeLine ∧ Pv (i + 1) (upd H4 D (.lst (acc ++ [y]))) else Pv (i + 1) H3) (hd : ∀ H, Pv xs.length H → Qd H) :
    ∃ W : Nat → Nat → Hp → Prop, (∃ m, W 0 m (upd H1 D (.lst []))) ∧ ∀ i m H, W i m H →
      ((IteT K a).stop i H ∧ Qd H) ∨ ((IteT K a).go i H ∧ ∃ Nx : Hp → Prop, (∀ H', Nx H' → ∃ m', m' < m ∧ W (i + 1) m' H') ∧ ∀ x H', (IteT K a).yld i H x H' → g x (wipe σ vs) H' fun σ2 H2 => wipe σ2 vs = wipe σ vs ∧ tt σ2 H2 fun b H3 =>
        if b = true then te σ2 H3 fun y H4 => ∃ acc, H4 D = some (.lst acc) ∧ acc.length < sizeLine ∧ Nx (upd H4 D (.lst (acc ++ [y]))) else Nx H3) := by
  refine ⟨fun i m H => m = xs.length - i ∧ i ≤ xs.length ∧ Pv i H, ⟨xs.length, by simp, Nat.zero_le _, h0⟩, ?_⟩
  rintro i m H ⟨rfl, hi, p⟩
  have q := hl i H p
  by_cases hlt : i < xs.length
  · refine .inr ⟨⟨xs, xs[i], q, List.getElem?_eq_getElem hlt⟩, Pv (i + 1), fun H' p' => ⟨xs.length - (i + 1), by omega, rfl, hlt, p'⟩, fun x H' y => ?_⟩
    obtain ⟨T, x', rfl, hT, rfl, f1⟩ := y
    exact hs i x' T H (f1 xs q) p hT
  · have e : i = xs.length := by omega
    subst e
    exact .inl ⟨⟨xs, q, Nat.le_refl _⟩, hd H p⟩
end Mh
/-! MhMore -/
namespace Mh
open PySem PySem.Spec PyProof.Rows L2
/-- an object of one's own, new since H0, may change -/
theorem Fx.loc {M : List Addr} {H0 H : Hp} {D : Addr} {o : HO} (a : Fx M H0 H) (h : H0 D = none) (c : Chg H D) : Fx M H0 (upd H D o) :=
  ((a.mono fun x m => List.mem_cons_of_mem _ m).trans (Fx.set (M := D :: M) List.mem_cons_self c)).drop h
theorem Fx.ne {M : List Addr} {H0 H : Hp} {p q : Addr} {o : HO} (a : Fx M H0 H) (h : H0 p = some o) (h2 : H q = none) : p ≠ q := fun z => by
  have := a.free h2
  rw [← z, h] at this
  cases this
theorem execs_app (env : Env) (b : List Stmt) : ∀ a : List Stmt, execs (a ++ b) env = execs a env >>= fun f => match f with | .next => execs b env | f => pure f
  | [] => by
    show execs b env = pure Flow.next >>= _
    rw [pure_bind]
  | st :: r => by
    show (exec st env >>= fun f => match f with | .next => execs (r ++ b) env | f => pure f) = ((exec st env >>= fun f => match f with | .next => execs r env | f => pure f) >>= _)
    rw [bind_assoc]
    congr 1
    funext f
    cases f with
    | next => exact execs_app env b r
    | _ => rw [pure_bind]
/-- a block in two parts, a word between them -/
theorem pss_at {X : Cx} {st : List Stmt} {t u : TS} (n : Nat) (h1 : PSs X (st.take n) t) (h2 : PSs X (st.drop n) u) : PSs X st (Evl.tCut t u) := by
  refine ⟨fun pins s σ H D I h => ?_⟩
  obtain ⟨Mid, hm, hu⟩ := h
  rw [← List.take_append_drop n st, execs_app]
  refine wpAny_bind (thn (h1.run pins s σ H { D with nx := Mid } I hm) fun f s1 q => ?_)
  cases f with
  | next =>
    obtain ⟨σ', H', I', q⟩ := q
    exact h2.run pins s1 σ' H' D I' (hu σ' H' q)
  | ret v => exact wpAny_pure q
  | brk => exact wpAny_pure q
  | cont => exact wpAny_pure q
section
variable {X : Cx} {K : PySem.W.Frag}
theorem kix_list (h : X.K = K) : IxR X (rIxL K) := by rw [← h]; exact ix_list
theorem kix_tup (h : X.K = K) : IxR X (rIxT K) := by rw [← h]; exact ix_tup
theorem kix_seq (h : X.K = K) : IxR X (rIx K) := by rw [← h]; exact ix_seq
theorem kop_in (h : X.K = K) : OpR X (compareOp .In) (rIn K false) := by rw [← h]; exact op_in_seq
theorem kop_notIn (h : X.K = K) : OpR X (compareOp .NotIn) (rIn K true) := by rw [← h]; exact op_notIn_seq
theorem kcall_isi (h : X.K = K) : CallR X (.builtin "isinstance") (rIsD K) := by rw [← h]; exact call_isiD
theorem kcr_all (h : X.K = K) (hc : X.calm = true) : CallR X (.builtin "all") (rAll K) := by rw [← h]; exact cr_all hc
theorem kcr_sum (h : X.K = K) (hc : X.calm = true) : CallR X (.builtin "sum") (rSum K) := by rw [← h]; exact cr_sum hc
theorem kop_eqD (h : X.K = K) (hu : X.A.units + 64 < cLine) : OpR X (compareOp .Eq) (rEqD K) := by rw [← h]; exact op_eqD hu
theorem kop_neD (h : X.K = K) (hu : X.A.units + 64 < cLine) : OpR X (compareOp .NotEq) (rNeD K) := by rw [← h]; exact op_neD hu
theorem ksl_tup (h : X.K = K) : SlR X (rSlT K) := by rw [← h]; exact sl_tup
theorem ksl_list (h : X.K = K) : SlR X (rSlL K) := by rw [← h]; exact sl_list
def rLenK (K : PySem.W.Frag) : List V → Hp → VK → Prop := fun xs H Q => ∃ p ys, xs = [.ref p] ∧ (SqL K H p ys ∨ SqT K H p ys) ∧ Q (.int ys.length) H
theorem kcall_len (h : X.K = K) : CallR X (.builtin "len") (rLenK K) := by rw [← h]; exact call_len_seq
def rTupK (K : PySem.W.Frag) : List V → Hp → VK → Prop := fun xs H Q => ∃ p ys, xs = [.ref p] ∧ ((SqL K H p ys ∧ ∀ l, H l = none → Q (.ref l) (upd H l (.tup ys))) ∨ (SqT K H p ys ∧ Q (.ref p) H))
theorem kcall_tuple (h : X.K = K) : CallR X (.type "tuple") (rTupK K) := by rw [← h]; exact call_tuple_of
def rLstK (K : PySem.W.Frag) : List V → Hp → VK → Prop := fun xs H Q => ∃ p ys, xs = [.ref p] ∧ (SqL K H p ys ∨ SqT K H p ys) ∧ ∀ l, H l = none → Q (.ref l) (upd H l (.lst ys))
theorem kcall_list (h : X.K = K) : CallR X (.type "list") (rLstK K) := by rw [← h]; exact call_list_of
theorem kpi_list {tg l : Expr} {tl : TE} (h : X.K = K) (hl : PE X l tl) : PI X tg l (iList K tl) := by rw [← h]; exact pi_list hl
theorem kpi_tup {tg l : Expr} {tl : TE} (h : X.K = K) (hl : PE X l tl) : PI X tg l (iTup K tl) := by rw [← h]; exact pi_tup hl
end
section
variable {K : PySem.W.Frag} {a b : Addr} {xs ys : List V}
theorem walk_enT : Walk (IteT K a) xs.length (fun H => SqT K H a xs) (YPair (fun i => some (.int (i : Nat))) (fun i => xs[i]?)) := by
  refine ⟨fun i _ hi q => ⟨xs, xs[i], q, List.getElem?_eq_getElem hi⟩, fun _ q => ⟨xs, q, Nat.le_refl _⟩, fun i H v H' _ q y => ?_⟩
  obtain ⟨T, x, h1, h2, h3, h4⟩ := y
  exact ⟨T, .int (i : Nat), x, h1, h2, h3, rfl, h4 xs q⟩
theorem walk_zipT {n : Nat} (hn : n = min xs.length ys.length) : Walk (RZ.ItzT K a b) n (fun H => SqT K H a xs ∧ SqT K H b ys) (YPair (fun i => xs[i]?) (fun i => ys[i]?)) := by
  subst hn
  refine ⟨fun i _ hi q => ?_, fun _ q => ⟨xs, ys, q.1, q.2, by omega⟩, fun i H v H' _ q y => ?_⟩
  · have h1 : i < xs.length := by omega
    have h2 : i < ys.length := by omega
    exact ⟨xs, ys, xs[i], ys[i], q.1, q.2, List.getElem?_eq_getElem h1, List.getElem?_eq_getElem h2⟩
  · obtain ⟨T, x, z, h1, h2, h3, h4, h5⟩ := y
    exact ⟨T, x, z, h1, h2, h3, h4 xs q.1, h5 ys q.2⟩
theorem YAt.fx {M : List Addr} {i : Nat} {H H' : Hp} {x : V} (y : YAt xs i H x H') : Fx M H H' := by rw [y.1]; exact .refl
theorem YFn.fx {M : List Addr} {f : Nat → V} {i : Nat} {H H' : Hp} {x : V} (y : YFn f i H x H') : Fx M H H' := by rw [y.1]; exact .refl
theorem YPair.fx {M : List Addr} {p q : Nat → Option V} {i : Nat} {H H' : Hp} {x : V} (y : YPair p q i H x H') : Fx M H H' := by
  obtain ⟨T, _, _, _, h, e, _⟩ := y
  rw [e]
  exact .new h
theorem YPair.tup {p q : Nat → Option V} {i : Nat} {H H' : Hp} {x : V} (y : YPair p q i H x H') : ∃ T u v, x = .ref T ∧ H' T = some (.tup [u, v]) ∧ p i = some u ∧ q i = some v := by
  obtain ⟨T, u, v, h1, h, e, h2, h3⟩ := y
  exact ⟨T, u, v, h1, by rw [e]; exact upd_same, h2, h3⟩
end
section
variable {J : It} {n : Nat} {G : Hp → Prop} {Y : Nat → Hp → V → Hp → Prop}
/-- what stands while a comprehension runs: R by the turn, what is made so far (it stands at D), the heap -/
def Pvl (R : Nat → List V → Hp → Prop) (D : Addr) (i : Nat) (H : Hp) : Prop := ∃ acc, acc.length ≤ i ∧ H D = some (.lst acc) ∧ R i acc H
def Put (R : Nat → List V → Hp → Prop) (D : Addr) (i : Nat) : VK := fun y H => ∃ acc, H D = some (.lst acc) ∧ acc.length < sizeLine ∧ Pvl R D i (upd H D (.lst (acc ++ [y])))
theorem Put.ok {R : Nat → List V → Hp → Prop} {D : Addr} {i : Nat} {y : V} {H : Hp} {acc : List V} (hl : acc.length ≤ i) (hi : i < 1000000) (hD : H D = some (.lst acc)) (r : R (i + 1) (acc ++ [y]) (upd H D (.lst (acc ++ [y])))) : Put R D (i + 1) y H :=
  ⟨acc, hD, Nat.lt_of_lt_of_le (show acc.length < 1000000 by omega) (by decide), acc ++ [y], by rw [List.length_append]; exact Nat.succ_le_succ hl, upd_same, r⟩
theorem Pvl.skip {R : Nat → List V → Hp → Prop} {D : Addr} {i : Nat} {H : Hp} {acc : List V} (hl : acc.length ≤ i) (hD : H D = some (.lst acc)) (r : R (i + 1) acc H) : Pvl R D (i + 1) H := ⟨acc, Nat.le_succ_of_le hl, hD, r⟩
theorem lc_rel (w : Walk J n G Y) {g : TG} {tt : TT} {te : TE} {vs : List Nat} {σ : L2.St} {H1 : Hp} {D : Addr} {Qd : Hp → Prop} (R : Nat → List V → Hp → Prop) (h0 : R 0 [] (upd H1 D (.lst []))) (hG : ∀ i acc H, R i acc H → G H)
    (hs : ∀ i acc x H H', i < n → acc.length ≤ i → H D = some (.lst acc) → R i acc H → Y i H x H' → g x (wipe σ vs) H' fun σ2 H2 => wipe σ2 vs = wipe σ vs ∧ tt σ2 H2 fun b H3 =>
      if b = true then te σ2 H3 (Put R D (i + 1)) else Pvl R D (i + 1) H3)
    (hd : ∀ acc H, acc.length ≤ n → H D = some (.lst acc) → R n acc H → Qd H) :
    ∃ W : Nat → Nat → Hp → Prop, (∃ m, W 0 m (upd H1 D (.lst []))) ∧ ∀ i m H, W i m H →
      (J.stop i H ∧ Qd H) ∨ (J.go i H ∧ ∃ Nx : Hp → Prop, (∀ H', Nx H' → ∃ m', m' < m ∧ W (i + 1) m' H') ∧ ∀ x H', J.yld i H x H' → g x (wipe σ vs) H' fun σ2 H2 => wipe σ2 vs = wipe σ vs ∧ tt σ2 H2 fun b H3 =>
        if b = true then te σ2 H3 fun y H4 => ∃ acc, H4 D = some (.lst acc) ∧ acc.length < sizeLine ∧ Nx (upd H4 D (.lst (acc ++ [y]))) else Nx H3) :=
  lc_it w (Pvl R D) ⟨[], Nat.le_refl _, upd_same, h0⟩ (fun i H _ ⟨acc, _, _, r⟩ => hG i acc H r) (fun i x H H' hi ⟨acc, hl, hD, r⟩ y => hs i acc x H H' hi hl hD r y) (fun H ⟨acc, hl, hD, r⟩ => hd acc H hl hD r)
/-- a comprehension without a test whose i-th item is f i, that leaves what stood -/
theorem lc_map (w : Walk J n G Y) {g : TG} {te : TE} {vs : List Nat} {σ : L2.St} {H1 : Hp} {D : Addr} {Qd : Hp → Prop} (f : Nat → V) (hn : n < 1000000) (hD : H1 D = none) (hG : ∀ H, Fx [] H1 H → G H) (hY : ∀ i H x H', Y i H x H' → Fx [] H H')
    (hs : ∀ i x H H' (Qe : VK) (Z : Hp → Prop), i < n → Fx [] H1 H → Y i H x H' → (∀ H4, Fx [] H' H4 → Qe (f i) H4) → g x (wipe σ vs) H' fun σ2 H2 => wipe σ2 vs = wipe σ vs ∧ (if true = true then te σ2 H2 Qe else Z H2))
    (hd : ∀ H, Fx [] H1 H → H D = some (.lst ((List.range n).map f)) → Qd H) :
    ∃ W : Nat → Nat → Hp → Prop, (∃ m, W 0 m (upd H1 D (.lst []))) ∧ ∀ i m H, W i m H →
      (J.stop i H ∧ Qd H) ∨ (J.go i H ∧ ∃ Nx : Hp → Prop, (∀ H', Nx H' → ∃ m', m' < m ∧ W (i + 1) m' H') ∧ ∀ x H', J.yld i H x H' → g x (wipe σ vs) H' fun σ2 H2 => wipe σ2 vs = wipe σ vs ∧ tYes σ2 H2 fun b H3 =>
        if b = true then te σ2 H3 fun y H4 => ∃ acc, H4 D = some (.lst acc) ∧ acc.length < sizeLine ∧ Nx (upd H4 D (.lst (acc ++ [y]))) else Nx H3) :=
  lc_rel w (fun i acc H => Fx [] H1 H ∧ acc = (List.range i).map f) ⟨Fx.new hD, rfl⟩ (fun i acc H r => hG H r.1) (fun i acc x H H' hi hl hDa r y =>
    hs i x H H' _ (Pvl (fun i acc H => Fx [] H1 H ∧ acc = (List.range i).map f) D (i + 1)) hi r.1 y fun H4 k => by
      have k2 := (r.1.trans (hY i H x H' y)).trans k
      have hD4 : H4 D = some (.lst acc) := k.to ((hY i H x H' y).to hDa fun m => nomatch m) fun m => nomatch m
      exact Put.ok hl (by omega) hD4 ⟨k2.loc hD (Chg.lst hD4), by rw [r.2, List.range_succ, List.map_append]; rfl⟩)
    (fun acc H _ hDa r => hd H r.1 (by rw [hDa, r.2]))
end
end Mh
/-! MhHead -/
namespace Mh
open PySem PySem.Spec PyProof.Rows L2
def top (i : Nat) : Stmt := PySem.Challenge.pw_measurehall_k09_whole_ways_tried.main.body.getD i (.Pass ⟨0, 0, 0, 0⟩)
abbrev s_is_number : Stmt := top 13
abbrev s_is_tagged : Stmt := top 14
abbrev s_is_rest : Stmt := top 15
abbrev s_are_known : Stmt := top 16
abbrev s_is_test : Stmt := top 17
abbrev s_is_answer : Stmt := top 18
abbrev s_need_machine : Stmt := top 19
abbrev s_need_seed : Stmt := top 20
abbrev s_holds_for : Stmt := top 21
abbrev s_answer_by : Stmt := top 22
abbrev s_asked : Stmt := top 23
abbrev s_is_asked : Stmt := top 28
abbrev s_need_task : Stmt := top 29
abbrev s_right_of : Stmt := top 30
abbrev s_right : Stmt := top 31
abbrev s_choose : Stmt := top 32
abbrev s_heart : Stmt := top 33
abbrev s_l_dice : Stmt := top 35
abbrev s_l_off : Stmt := top 36
abbrev s_law : Stmt := top 37
abbrev s_BadMachine_init : Stmt := inClass (top 3) 0
abbrev s_BadTask_init : Stmt := inClass (top 4) 0
def fa : List He.Fa := [(.free "int"), (.free "str"), (.free "bool"), (.free "tuple"), (.free "len"), (.free "isinstance"), (.free "all"), (.free "sum"), (.free "abs"), (.free "zip"), (.free "enumerate"), (.free "range"), (.free "ValueError"), (.int "MOST_ROWS" 12), (.int "MOST_KNOWN" 8), (.int "MOST_BY" 99), (.int "GREAT" 9999), (.int "MOST_SEED" 999), (.int "BY_QUESTION" 7), (.int "BY_SEED" 13), (.int "MOST_QUESTIONS" 16), (.int "MOST_WEIGHT" 9), (.int "MOST_DUE" 99999999), (.glo "is_number"), (.glo "is_tagged"), (.glo "is_rest"), (.glo "are_known"), (.glo "is_test"), (.glo "is_answer"), (.glo "need_machine"), (.glo "need_seed"), (.glo "holds_for"), (.glo "answer_by"), (.glo "asked"), (.glo "is_asked"), (.glo "need_task"), (.glo "right_of"), (.glo "right"), (.glo "choose"), (.glo "heart"), (.glo "_law_dice"), (.glo "_law_off"), (.glo "law"), (.glo "HallError"), (.glo "BadSeed"), (.glo "BadMachine"), (.glo "BadTask")]
def dd_is_number : He.DefD := ⟨("is_number", none), "is_number", "is_number", defArgs s_is_number, defBody s_is_number, defScope s_is_number, [], []⟩
def dd_is_tagged : He.DefD := ⟨("is_tagged", none), "is_tagged", "is_tagged", defArgs s_is_tagged, defBody s_is_tagged, defScope s_is_tagged, [], []⟩
def dd_is_rest : He.DefD := ⟨("is_rest", none), "is_rest", "is_rest", defArgs s_is_rest, defBody s_is_rest, defScope s_is_rest, [], []⟩
def dd_are_known : He.DefD := ⟨("are_known", none), "are_known", "are_known", defArgs s_are_known, defBody s_are_known, defScope s_are_known, [], []⟩
def dd_is_test : He.DefD := ⟨("is_test", none), "is_test", "is_test", defArgs s_is_test, defBody s_is_test, defScope s_is_test, [], []⟩
def dd_is_answer : He.DefD := ⟨("is_answer", none), "is_answer", "is_answer", defArgs s_is_answer, defBody s_is_answer, defScope s_is_answer, [], []⟩
def dd_need_machine : He.DefD := ⟨("need_machine", none), "need_machine", "need_machine", defArgs s_need_machine, defBody s_need_machine, defScope s_need_machine, [], []⟩
def dd_need_seed : He.DefD := ⟨("need_seed", none), "need_seed", "need_seed", defArgs s_need_seed, defBody s_need_seed, defScope s_need_seed, [], []⟩
def dd_holds_for : He.DefD := ⟨("holds_for", none), "holds_for", "holds_for", defArgs s_holds_for, defBody s_holds_for, defScope s_holds_for, [], []⟩
def dd_answer_by : He.DefD := ⟨("answer_by", none), "answer_by", "answer_by", defArgs s_answer_by, defBody s_answer_by, defScope s_answer_by, [], []⟩
def dd_asked : He.DefD := ⟨("asked", none), "asked", "asked", defArgs s_asked, defBody s_asked, defScope s_asked, [], []⟩
def dd_is_asked : He.DefD := ⟨("is_asked", none), "is_asked", "is_asked", defArgs s_is_asked, defBody s_is_asked, defScope s_is_asked, [], []⟩
def dd_need_task : He.DefD := ⟨("need_task", none), "need_task", "need_task", defArgs s_need_task, defBody s_need_task, defScope s_need_task, [], []⟩
def dd_right_of : He.DefD := ⟨("right_of", none), "right_of", "right_of", defArgs s_right_of, defBody s_right_of, defScope s_right_of, [], []⟩
def dd_right : He.DefD := ⟨("right", none), "right", "right", defArgs s_right, defBody s_right, defScope s_right, [], [("seed", .int 0)]⟩
def dd_choose : He.DefD := ⟨("choose", none), "choose", "choose", defArgs s_choose, defBody s_choose, defScope s_choose, [], []⟩
def dd_heart : He.DefD := ⟨("heart", none), "heart", "heart", defArgs s_heart, defBody s_heart, defScope s_heart, [], [("seed", .int 0)]⟩
def dd_l_dice : He.DefD := ⟨("_law_dice", none), "_law_dice", "_law_dice", defArgs s_l_dice, defBody s_l_dice, defScope s_l_dice, [], []⟩
def dd_l_off : He.DefD := ⟨("_law_off", none), "_law_off", "_law_off", defArgs s_l_off, defBody s_l_off, defScope s_l_off, [], []⟩
def dd_law : He.DefD := ⟨("law", none), "law", "law", defArgs s_law, defBody s_law, defScope s_law, [], []⟩
def dd_BadMachine_init : He.DefD := ⟨("BadMachine", some "__init__"), "__init__", "BadMachine.__init__", defArgs s_BadMachine_init, defBody s_BadMachine_init, defScope s_BadMachine_init, [], []⟩
def dd_BadTask_init : He.DefD := ⟨("BadTask", some "__init__"), "__init__", "BadTask.__init__", defArgs s_BadTask_init, defBody s_BadTask_init, defScope s_BadTask_init, [], []⟩
def fn : List He.DefD := [dd_is_number, dd_is_tagged, dd_is_rest, dd_are_known, dd_is_test, dd_is_answer, dd_need_machine, dd_need_seed, dd_holds_for, dd_answer_by, dd_asked, dd_is_asked, dd_need_task, dd_right_of, dd_right, dd_choose, dd_heart, dd_l_dice, dd_l_off, dd_law, dd_BadMachine_init, dd_BadTask_init]
/-- what the walk leans on of what the top has left -/
structure Tx (K : PySem.W.Frag) (mg : Str → Option Value) : Prop where
  c : He.SaysD fa fn K
  x : ∃ h : Heap, K.In h ∧ h.Ns mainGlobals mg
section
variable {K : PySem.W.Frag} {mg : Str → Option Value}
theorem Tx.f_int (T : Tx K mg) : mg "int" = none := let ⟨_, X, G⟩ := T.x; He.free_ok X G (T.c.fact 0 rfl)
theorem Tx.f_str (T : Tx K mg) : mg "str" = none := let ⟨_, X, G⟩ := T.x; He.free_ok X G (T.c.fact 1 rfl)
theorem Tx.f_bool (T : Tx K mg) : mg "bool" = none := let ⟨_, X, G⟩ := T.x; He.free_ok X G (T.c.fact 2 rfl)
theorem Tx.f_tuple (T : Tx K mg) : mg "tuple" = none := let ⟨_, X, G⟩ := T.x; He.free_ok X G (T.c.fact 3 rfl)
theorem Tx.f_len (T : Tx K mg) : mg "len" = none := let ⟨_, X, G⟩ := T.x; He.free_ok X G (T.c.fact 4 rfl)
theorem Tx.f_isinstance (T : Tx K mg) : mg "isinstance" = none := let ⟨_, X, G⟩ := T.x; He.free_ok X G (T.c.fact 5 rfl)
theorem Tx.f_all (T : Tx K mg) : mg "all" = none := let ⟨_, X, G⟩ := T.x; He.free_ok X G (T.c.fact 6 rfl)
theorem Tx.f_sum (T : Tx K mg) : mg "sum" = none := let ⟨_, X, G⟩ := T.x; He.free_ok X G (T.c.fact 7 rfl)
theorem Tx.f_abs (T : Tx K mg) : mg "abs" = none := let ⟨_, X, G⟩ := T.x; He.free_ok X G (T.c.fact 8 rfl)
theorem Tx.f_zip (T : Tx K mg) : mg "zip" = none := let ⟨_, X, G⟩ := T.x; He.free_ok X G (T.c.fact 9 rfl)
theorem Tx.f_enumerate (T : Tx K mg) : mg "enumerate" = none := let ⟨_, X, G⟩ := T.x; He.free_ok X G (T.c.fact 10 rfl)
theorem Tx.f_range (T : Tx K mg) : mg "range" = none := let ⟨_, X, G⟩ := T.x; He.free_ok X G (T.c.fact 11 rfl)
theorem Tx.f_ValueError (T : Tx K mg) : mg "ValueError" = none := let ⟨_, X, G⟩ := T.x; He.free_ok X G (T.c.fact 12 rfl)
theorem Tx.c_MOST_ROWS (T : Tx K mg) : ∃ t, mg "MOST_ROWS" = some (.int 12 t) := let ⟨_, X, G⟩ := T.x; He.int_ok X G (T.c.fact 13 rfl)
theorem Tx.c_MOST_KNOWN (T : Tx K mg) : ∃ t, mg "MOST_KNOWN" = some (.int 8 t) := let ⟨_, X, G⟩ := T.x; He.int_ok X G (T.c.fact 14 rfl)
theorem Tx.c_MOST_BY (T : Tx K mg) : ∃ t, mg "MOST_BY" = some (.int 99 t) := let ⟨_, X, G⟩ := T.x; He.int_ok X G (T.c.fact 15 rfl)
theorem Tx.c_GREAT (T : Tx K mg) : ∃ t, mg "GREAT" = some (.int 9999 t) := let ⟨_, X, G⟩ := T.x; He.int_ok X G (T.c.fact 16 rfl)
theorem Tx.c_MOST_SEED (T : Tx K mg) : ∃ t, mg "MOST_SEED" = some (.int 999 t) := let ⟨_, X, G⟩ := T.x; He.int_ok X G (T.c.fact 17 rfl)
theorem Tx.c_BY_QUESTION (T : Tx K mg) : ∃ t, mg "BY_QUESTION" = some (.int 7 t) := let ⟨_, X, G⟩ := T.x; He.int_ok X G (T.c.fact 18 rfl)
theorem Tx.c_BY_SEED (T : Tx K mg) : ∃ t, mg "BY_SEED" = some (.int 13 t) := let ⟨_, X, G⟩ := T.x; He.int_ok X G (T.c.fact 19 rfl)
theorem Tx.c_MOST_QUESTIONS (T : Tx K mg) : ∃ t, mg "MOST_QUESTIONS" = some (.int 16 t) := let ⟨_, X, G⟩ := T.x; He.int_ok X G (T.c.fact 20 rfl)
theorem Tx.c_MOST_WEIGHT (T : Tx K mg) : ∃ t, mg "MOST_WEIGHT" = some (.int 9 t) := let ⟨_, X, G⟩ := T.x; He.int_ok X G (T.c.fact 21 rfl)
theorem Tx.c_MOST_DUE (T : Tx K mg) : ∃ t, mg "MOST_DUE" = some (.int 99999999 t) := let ⟨_, X, G⟩ := T.x; He.int_ok X G (T.c.fact 22 rfl)
theorem Tx.g_is_number (T : Tx K mg) : mg "is_number" = some (.ref (He.ga K "is_number")) := let ⟨_, X, G⟩ := T.x; He.glo_ok X G (T.c.fact 23 rfl)
theorem Tx.g_is_tagged (T : Tx K mg) : mg "is_tagged" = some (.ref (He.ga K "is_tagged")) := let ⟨_, X, G⟩ := T.x; He.glo_ok X G (T.c.fact 24 rfl)
theorem Tx.g_is_rest (T : Tx K mg) : mg "is_rest" = some (.ref (He.ga K "is_rest")) := let ⟨_, X, G⟩ := T.x; He.glo_ok X G (T.c.fact 25 rfl)
theorem Tx.g_are_known (T : Tx K mg) : mg "are_known" = some (.ref (He.ga K "are_known")) := let ⟨_, X, G⟩ := T.x; He.glo_ok X G (T.c.fact 26 rfl)
theorem Tx.g_is_test (T : Tx K mg) : mg "is_test" = some (.ref (He.ga K "is_test")) := let ⟨_, X, G⟩ := T.x; He.glo_ok X G (T.c.fact 27 rfl)
theorem Tx.g_is_answer (T : Tx K mg) : mg "is_answer" = some (.ref (He.ga K "is_answer")) := let ⟨_, X, G⟩ := T.x; He.glo_ok X G (T.c.fact 28 rfl)
theorem Tx.g_need_machine (T : Tx K mg) : mg "need_machine" = some (.ref (He.ga K "need_machine")) := let ⟨_, X, G⟩ := T.x; He.glo_ok X G (T.c.fact 29 rfl)
theorem Tx.g_need_seed (T : Tx K mg) : mg "need_seed" = some (.ref (He.ga K "need_seed")) := let ⟨_, X, G⟩ := T.x; He.glo_ok X G (T.c.fact 30 rfl)
theorem Tx.g_holds_for (T : Tx K mg) : mg "holds_for" = some (.ref (He.ga K "holds_for")) := let ⟨_, X, G⟩ := T.x; He.glo_ok X G (T.c.fact 31 rfl)
theorem Tx.g_answer_by (T : Tx K mg) : mg "answer_by" = some (.ref (He.ga K "answer_by")) := let ⟨_, X, G⟩ := T.x; He.glo_ok X G (T.c.fact 32 rfl)
theorem Tx.g_asked (T : Tx K mg) : mg "asked" = some (.ref (He.ga K "asked")) := let ⟨_, X, G⟩ := T.x; He.glo_ok X G (T.c.fact 33 rfl)
theorem Tx.g_is_asked (T : Tx K mg) : mg "is_asked" = some (.ref (He.ga K "is_asked")) := let ⟨_, X, G⟩ := T.x; He.glo_ok X G (T.c.fact 34 rfl)
theorem Tx.g_need_task (T : Tx K mg) : mg "need_task" = some (.ref (He.ga K "need_task")) := let ⟨_, X, G⟩ := T.x; He.glo_ok X G (T.c.fact 35 rfl)
theorem Tx.g_right_of (T : Tx K mg) : mg "right_of" = some (.ref (He.ga K "right_of")) := let ⟨_, X, G⟩ := T.x; He.glo_ok X G (T.c.fact 36 rfl)
theorem Tx.g_right (T : Tx K mg) : mg "right" = some (.ref (He.ga K "right")) := let ⟨_, X, G⟩ := T.x; He.glo_ok X G (T.c.fact 37 rfl)
theorem Tx.g_choose (T : Tx K mg) : mg "choose" = some (.ref (He.ga K "choose")) := let ⟨_, X, G⟩ := T.x; He.glo_ok X G (T.c.fact 38 rfl)
theorem Tx.g_heart (T : Tx K mg) : mg "heart" = some (.ref (He.ga K "heart")) := let ⟨_, X, G⟩ := T.x; He.glo_ok X G (T.c.fact 39 rfl)
theorem Tx.g_l_dice (T : Tx K mg) : mg "_law_dice" = some (.ref (He.ga K "_law_dice")) := let ⟨_, X, G⟩ := T.x; He.glo_ok X G (T.c.fact 40 rfl)
theorem Tx.g_l_off (T : Tx K mg) : mg "_law_off" = some (.ref (He.ga K "_law_off")) := let ⟨_, X, G⟩ := T.x; He.glo_ok X G (T.c.fact 41 rfl)
theorem Tx.g_law (T : Tx K mg) : mg "law" = some (.ref (He.ga K "law")) := let ⟨_, X, G⟩ := T.x; He.glo_ok X G (T.c.fact 42 rfl)
theorem Tx.g_HallError (T : Tx K mg) : mg "HallError" = some (.ref (He.ga K "HallError")) := let ⟨_, X, G⟩ := T.x; He.glo_ok X G (T.c.fact 43 rfl)
theorem Tx.g_BadSeed (T : Tx K mg) : mg "BadSeed" = some (.ref (He.ga K "BadSeed")) := let ⟨_, X, G⟩ := T.x; He.glo_ok X G (T.c.fact 44 rfl)
theorem Tx.g_BadMachine (T : Tx K mg) : mg "BadMachine" = some (.ref (He.ga K "BadMachine")) := let ⟨_, X, G⟩ := T.x; He.glo_ok X G (T.c.fact 45 rfl)
theorem Tx.g_BadTask (T : Tx K mg) : mg "BadTask" = some (.ref (He.ga K "BadTask")) := let ⟨_, X, G⟩ := T.x; He.glo_ok X G (T.c.fact 46 rfl)
theorem Tx.d_is_number (T : Tx K mg) : ∃ fd, FunD K "is_number" "is_number" (defArgs s_is_number) (defBody s_is_number) (defScope s_is_number) [] [] (He.fAd K ("is_number", none)) fd := T.c.def_ 0 (d := dd_is_number) rfl
theorem Tx.d_is_tagged (T : Tx K mg) : ∃ fd, FunD K "is_tagged" "is_tagged" (defArgs s_is_tagged) (defBody s_is_tagged) (defScope s_is_tagged) [] [] (He.fAd K ("is_tagged", none)) fd := T.c.def_ 1 (d := dd_is_tagged) rfl
theorem Tx.d_is_rest (T : Tx K mg) : ∃ fd, FunD K "is_rest" "is_rest" (defArgs s_is_rest) (defBody s_is_rest) (defScope s_is_rest) [] [] (He.fAd K ("is_rest", none)) fd := T.c.def_ 2 (d := dd_is_rest) rfl
theorem Tx.d_are_known (T : Tx K mg) : ∃ fd, FunD K "are_known" "are_known" (defArgs s_are_known) (defBody s_are_known) (defScope s_are_known) [] [] (He.fAd K ("are_known", none)) fd := T.c.def_ 3 (d := dd_are_known) rfl
theorem Tx.d_is_test (T : Tx K mg) : ∃ fd, FunD K "is_test" "is_test" (defArgs s_is_test) (defBody s_is_test) (defScope s_is_test) [] [] (He.fAd K ("is_test", none)) fd := T.c.def_ 4 (d := dd_is_test) rfl
theorem Tx.d_is_answer (T : Tx K mg) : ∃ fd, FunD K "is_answer" "is_answer" (defArgs s_is_answer) (defBody s_is_answer) (defScope s_is_answer) [] [] (He.fAd K ("is_answer", none)) fd := T.c.def_ 5 (d := dd_is_answer) rfl
theorem Tx.d_need_machine (T : Tx K mg) : ∃ fd, FunD K "need_machine" "need_machine" (defArgs s_need_machine) (defBody s_need_machine) (defScope s_need_machine) [] [] (He.fAd K ("need_machine", none)) fd := T.c.def_ 6 (d := dd_need_machine) rfl
theorem Tx.d_need_seed (T : Tx K mg) : ∃ fd, FunD K "need_seed" "need_seed" (defArgs s_need_seed) (defBody s_need_seed) (defScope s_need_seed) [] [] (He.fAd K ("need_seed", none)) fd := T.c.def_ 7 (d := dd_need_seed) rfl
theorem Tx.d_holds_for (T : Tx K mg) : ∃ fd, FunD K "holds_for" "holds_for" (defArgs s_holds_for) (defBody s_holds_for) (defScope s_holds_for) [] [] (He.fAd K ("holds_for", none)) fd := T.c.def_ 8 (d := dd_holds_for) rfl
theorem Tx.d_answer_by (T : Tx K mg) : ∃ fd, FunD K "answer_by" "answer_by" (defArgs s_answer_by) (defBody s_answer_by) (defScope s_answer_by) [] [] (He.fAd K ("answer_by", none)) fd := T.c.def_ 9 (d := dd_answer_by) rfl
theorem Tx.d_asked (T : Tx K mg) : ∃ fd, FunD K "asked" "asked" (defArgs s_asked) (defBody s_asked) (defScope s_asked) [] [] (He.fAd K ("asked", none)) fd := T.c.def_ 10 (d := dd_asked) rfl
theorem Tx.d_is_asked (T : Tx K mg) : ∃ fd, FunD K "is_asked" "is_asked" (defArgs s_is_asked) (defBody s_is_asked) (defScope s_is_asked) [] [] (He.fAd K ("is_asked", none)) fd := T.c.def_ 11 (d := dd_is_asked) rfl
theorem Tx.d_need_task (T : Tx K mg) : ∃ fd, FunD K "need_task" "need_task" (defArgs s_need_task) (defBody s_need_task) (defScope s_need_task) [] [] (He.fAd K ("need_task", none)) fd := T.c.def_ 12 (d := dd_need_task) rfl
theorem Tx.d_right_of (T : Tx K mg) : ∃ fd, FunD K "right_of" "right_of" (defArgs s_right_of) (defBody s_right_of) (defScope s_right_of) [] [] (He.fAd K ("right_of", none)) fd := T.c.def_ 13 (d := dd_right_of) rfl
theorem Tx.d_right (T : Tx K mg) : ∃ fd, FunD K "right" "right" (defArgs s_right) (defBody s_right) (defScope s_right) [] [("seed", .int 0)] (He.fAd K ("right", none)) fd := T.c.def_ 14 (d := dd_right) rfl
theorem Tx.d_choose (T : Tx K mg) : ∃ fd, FunD K "choose" "choose" (defArgs s_choose) (defBody s_choose) (defScope s_choose) [] [] (He.fAd K ("choose", none)) fd := T.c.def_ 15 (d := dd_choose) rfl
theorem Tx.d_heart (T : Tx K mg) : ∃ fd, FunD K "heart" "heart" (defArgs s_heart) (defBody s_heart) (defScope s_heart) [] [("seed", .int 0)] (He.fAd K ("heart", none)) fd := T.c.def_ 16 (d := dd_heart) rfl
theorem Tx.d_l_dice (T : Tx K mg) : ∃ fd, FunD K "_law_dice" "_law_dice" (defArgs s_l_dice) (defBody s_l_dice) (defScope s_l_dice) [] [] (He.fAd K ("_law_dice", none)) fd := T.c.def_ 17 (d := dd_l_dice) rfl
theorem Tx.d_l_off (T : Tx K mg) : ∃ fd, FunD K "_law_off" "_law_off" (defArgs s_l_off) (defBody s_l_off) (defScope s_l_off) [] [] (He.fAd K ("_law_off", none)) fd := T.c.def_ 18 (d := dd_l_off) rfl
theorem Tx.d_law (T : Tx K mg) : ∃ fd, FunD K "law" "law" (defArgs s_law) (defBody s_law) (defScope s_law) [] [] (He.fAd K ("law", none)) fd := T.c.def_ 19 (d := dd_law) rfl
theorem Tx.d_BadMachine_init (T : Tx K mg) : ∃ fd, FunD K "__init__" "BadMachine.__init__" (defArgs s_BadMachine_init) (defBody s_BadMachine_init) (defScope s_BadMachine_init) [] [] (He.fAd K ("BadMachine", some "__init__")) fd := T.c.def_ 20 (d := dd_BadMachine_init) rfl
theorem Tx.d_BadTask_init (T : Tx K mg) : ∃ fd, FunD K "__init__" "BadTask.__init__" (defArgs s_BadTask_init) (defBody s_BadTask_init) (defScope s_BadTask_init) [] [] (He.fAd K ("BadTask", some "__init__")) fd := T.c.def_ 21 (d := dd_BadTask_init) rfl
end
end Mh
/-! MhMach -/
namespace Mh
open PySem PySem.Spec PyProof.Rows L2

/-! ### what the small looks of machines.py say of data -/
def isNum (d : PyData) (lo hi : Int) : Bool := match d with
  | .int i => decide (lo ≤ i) && decide (i ≤ hi)
  | _ => false
def isTag (n : Nat) : PyData → Bool
  | .tuple (.str _ :: xs) => xs.length + 1 == n
  | _ => false
theorem rd_isD {K : PySem.W.Frag} {σ : L2.St} {H : Hp} {Q : VK} {i : Nat} {v : V} {n : String} {d : PyData} (hv : σ[i]? = some (some v)) (hn : n ∈ sixTy) (hd : Dp K H v d) (q : Q (.bl (isTy n d)) H) :
    tCB (rIsD K) (tCons (tVar i) (tCons (tC (.ty n)) tNil)) σ H Q := ⟨v, hv, v, n, d, rfl, hn, hd, q⟩
theorem sc_is_number : FnScope ["thing", "low", "high"] ["thing", "low", "high"] (defScope s_is_number) := ⟨rfl, rfl, rfl, by decide +kernel, rfl, by decide +kernel, by decide +kernel⟩
def spIsNumber (K : PySem.W.Frag) : Sp := fun vs H Q _ => ∃ v d lo hi, vs = [v, .int lo, .int hi] ∧ Dp K H v d ∧ Q (.bl (isNum d lo hi)) H
theorem ok_is_number {P : Program} {w : World} {K : PySem.W.Frag} {mg : Str → Option Value} {base : Heap} (T : Tx K mg) : Def P w K mg base CX0 1 "is_number" ["thing", "low", "high"] (spIsNumber K) := by
  obtain ⟨fd, F⟩ := T.d_is_number
  refine ⟨_, fd, F.ok sc_is_number (fun vs H Q E h => ?_) (fun cdv A outer s H vs Q E hr h => ?_), F.bindsN fun _ _ _ _ _ _ us hl => match us, hl with | [_, _, _], _ => rfl, T.g_is_number, F.kp⟩
  · obtain ⟨v, d, lo, hi, rfl, _⟩ := h
    rfl
  · obtain ⟨v, d, lo, hi, rfl, hd, q⟩ := h
    refine ⟨_, PSs.nox (pss_one (ps_ret (pe_and (pe_callB call_isiD (by rfl) T.f_isinstance (by decide +kernel) (pa_cons (pv 0) (pa_cons (gT (n := "int") T.f_int) pa_nil))) (pe_and (pe_not (pe_callB call_isiD (by rfl) T.f_isinstance (by decide +kernel) (pa_cons (pv 0) (pa_cons (gT (n := "bool") T.f_bool) pa_nil)))) (pe_one (pe_chain op_le op_le (pv 1) (pv 0) (pv 2))))))), ?_⟩
    refine rd_isD rfl (by decide) hd ⟨_, rfl, ?_⟩
    cases hd with
    | int i =>
      refine ifT rfl (rd_isD rfl (by decide) (.int i) ⟨_, rfl, _, rfl, ifT rfl ?_⟩)
      refine ⟨_, rfl, _, rfl, _, _, rfl, rfl, _, rfl, ?_⟩
      have q2 : Q (.bl (decide (lo ≤ i) && decide (i ≤ hi))) H := q
      refine ifB (fun c => ?_) (fun c => ?_)
      · rw [c] at q2
        exact ⟨_, rfl, _, _, rfl, rfl, q2⟩
      · rw [c] at q2
        exact q2
    | bl b => exact ifT rfl (rd_isD rfl (by decide) (.bl b) ⟨_, rfl, _, rfl, ifF rfl q⟩)
    | _ => exact ifF rfl q

/-- an item of a tuple at a written place -/
theorem rd_ixT {K : PySem.W.Frag} {σ : L2.St} {H : Hp} {Q : VK} {i j : Nat} {a : Addr} {xs : List V} {v : V} (hv : σ[i]? = some (some (.ref a))) (hs : SqT K H a xs) (hj : xs[j]? = some v) (q : Q v H) : tOp (rIxT K) (tVar i) (tC (.int (j : Int))) σ H Q :=
  ⟨_, hv, a, xs, (j : Int), v, rfl, rfl, hs, atI_nat hj, q⟩
theorem isTag_inv {n : Nat} {d : PyData} (h : isTag n d = true) : ∃ z xs, d = .tuple (.str z :: xs) ∧ xs.length + 1 = n := by
  unfold isTag at h
  split at h
  · exact ⟨_, _, rfl, by simpa using h⟩
  · cases h
theorem sc_is_tagged : FnScope ["thing", "many"] ["thing", "many"] (defScope s_is_tagged) := ⟨rfl, rfl, rfl, by decide +kernel, rfl, by decide +kernel, by decide +kernel⟩
def spIsTagged (K : PySem.W.Frag) : Sp := fun vs H Q _ => ∃ v d n, vs = [v, .int ((n + 1 : Nat) : Int)] ∧ Dp K H v d ∧ Q (.bl (isTag (n + 1) d)) H
theorem ok_is_tagged {P : Program} {w : World} {K : PySem.W.Frag} {mg : Str → Option Value} {base : Heap} (T : Tx K mg) : Def P w K mg base CX0 1 "is_tagged" ["thing", "many"] (spIsTagged K) := by
  obtain ⟨fd, F⟩ := T.d_is_tagged
  refine ⟨_, fd, F.ok sc_is_tagged (fun vs H Q E h => ?_) (fun cdv A outer s H vs Q E hr h => ?_), F.bindsN fun _ _ _ _ _ _ us hl => match us, hl with | [_, _], _ => rfl, T.g_is_tagged, F.kp⟩
  · obtain ⟨v, d, n, rfl, _⟩ := h
    rfl
  · obtain ⟨v, d, n, rfl, hd, q⟩ := h
    refine ⟨_, PSs.nox (pss_one (ps_ret (pe_and (pe_callB call_isiD (by rfl) T.f_isinstance (by decide +kernel) (pa_cons (pv 0) (pa_cons (gT (n := "tuple") T.f_tuple) pa_nil))) (pe_and (pe_cmpR op_eq (pe_callB call_len_seq (by rfl) T.f_len (by decide +kernel) (pa_cons (pv 0) pa_nil)) (pv 1) (nomark _)) (pe_one (pe_callB call_isiD (by rfl) T.f_isinstance (by decide +kernel) (pa_cons (pe_ix ix_tup (pv 0) pe_int (fun _ _ => rfl)) (pa_cons (gT (n := "str") T.f_str) pa_nil)))))))), ?_⟩
    refine rd_isD rfl (by decide) hd ⟨_, rfl, ?_⟩
    cases hd with
    | @tup a xs ds hs ha =>
      refine ifT rfl ⟨_, rfl, a, xs, rfl, .inr hs, _, rfl, rfl, _, rfl, ifB (fun c => ?_) (fun c => ?_)⟩
      · have e : ((xs.length : Nat) : Int) = ((n + 1 : Nat) : Int) := V.int.inj (of_decide_eq_true c)
        cases ha with
        | nil => exact absurd e (by simp; omega)
        | @cons x0 xs d0 ds h0 ht =>
          refine rd_ixT (j := 0) rfl hs rfl ⟨x0, "str", d0, rfl, by decide, h0, ?_⟩
          have e2 : ds.length + 1 = n + 1 := by
            rw [← ht.len]
            exact Int.ofNat.inj e
          cases h0 with
          | str z =>
            have e3 : isTag (n + 1) (.tuple (.str z :: ds)) = true := by
              show (ds.length + 1 == n + 1) = true
              rw [e2]
              exact beq_self_eq_true _
            rw [e3] at q
            exact q
          | _ => exact q
      · have c2 := of_decide_eq_false c
        have e3 : isTag (n + 1) (.tuple ds) = false := by
          cases e : isTag (n + 1) (.tuple ds) with
          | false => rfl
          | true =>
            obtain ⟨z, ys, e4, e5⟩ := isTag_inv e
            refine absurd ?_ c2
            have e6 : ds = .str z :: ys := PyData.tuple.inj e4
            rw [ha.len, e6, List.length_cons, e5]
        rw [e3] at q
        exact q
    | _ => exact ifF rfl q

def intOf : PyData → Int
  | .int i => i
  | _ => 0
theorem isNum_inv {d : PyData} {lo hi : Int} (h : isNum d lo hi = true) : ∃ i, d = .int i ∧ lo ≤ i ∧ i ≤ hi := by
  unfold isNum at h
  split at h
  · obtain ⟨h1, h2⟩ := Bool.and_eq_true_iff.mp h
    exact ⟨_, rfl, of_decide_eq_true h1, of_decide_eq_true h2⟩
  · cases h
def isRest : PyData → Bool
  | .tuple [.str _, x, y] => isNum x 2 99 && isNum y 0 (intOf x - 1)
  | _ => false
theorem sc_is_rest : FnScope ["thing"] ["thing"] (defScope s_is_rest) := ⟨rfl, rfl, rfl, by decide +kernel, rfl, by decide +kernel, by decide +kernel⟩
def spIsRest (K : PySem.W.Frag) : Sp := fun vs H Q _ => ∃ v d, vs = [v] ∧ Dp K H v d ∧ Q (.bl (isRest d)) H
theorem ok_is_rest {P : Program} {w : World} {K : PySem.W.Frag} {mg : Str → Option Value} {base : Heap} (T : Tx K mg) : Def P w K mg base CX0 2 "is_rest" ["thing"] (spIsRest K) := by
  obtain ⟨fd, F⟩ := T.d_is_rest
  have G_is_tagged := ok_is_tagged (P := P) (w := w) (base := base) T
  have G_is_number := ok_is_number (P := P) (w := w) (base := base) T
  refine ⟨_, fd, F.ok sc_is_rest (fun vs H Q E h => ?_) (fun cdv A outer s H vs Q E hr h => ?_), F.bindsN fun _ _ _ _ _ _ us hl => match us, hl with | [_], _ => rfl, T.g_is_rest, F.kp⟩
  · obtain ⟨v, d, rfl, _⟩ := h
    rfl
  · obtain ⟨v, d, rfl, hd, q⟩ := h
    refine ⟨_, PSs.nox (pss_one (ps_ret (pe_and (pe_def G_is_tagged (hr.mono (by omega)) pass0 (pa_cons (pv 0) (pa_cons pe_int pa_nil))) (pe_and (pe_def G_is_number (hr.mono (by omega)) pass0 (pa_cons (pe_ix ix_tup (pv 0) pe_int (fun _ _ => rfl)) (pa_cons pe_int (pa_cons (gC T.c_MOST_BY) pa_nil)))) (pe_one (pe_def G_is_number (hr.mono (by omega)) pass0 (pa_cons (pe_ix ix_tup (pv 0) pe_int (fun _ _ => rfl)) (pa_cons pe_int (pa_cons (pe_op op_sub (pe_ix ix_tup (pv 0) pe_int (fun _ _ => rfl)) pe_int) pa_nil))))))))), ?_⟩
    refine ⟨v, rfl, v, d, 2, rfl, hd, _, rfl, ifB (fun c => ?_) (fun c => ?_)⟩
    · obtain ⟨z, xs, rfl, e⟩ := isTag_inv c
      obtain ⟨x, y, rfl⟩ : ∃ x y, xs = [x, y] := by
        match xs, e with
        | [x, y], _ => exact ⟨x, y, rfl⟩
      obtain ⟨a, v0, v1, v2, rfl, hs, h0, h1, h2⟩ := hd.tup3
      have q2 : Q (.bl (isNum x 2 99 && isNum y 0 (intOf x - 1))) H := q
      refine rd_ixT (j := 1) rfl hs rfl ⟨v1, x, 2, 99, rfl, h1, _, rfl, ifB (fun c1 => ?_) (fun c1 => ?_)⟩
      · obtain ⟨m, rfl, _⟩ := isNum_inv c1
        rw [c1, Bool.true_and] at q2
        cases h1
        refine rd_ixT (j := 2) rfl hs rfl ⟨_, rfl, ?_⟩
        exact ⟨a, _, 1, _, rfl, rfl, hs, atI_nat (j := 1) rfl, m, 1, rfl, rfl, v2, y, 0, m - 1, rfl, h2, q2⟩
      · rw [c1, Bool.false_and] at q2
        exact q2
    · have e : isRest d = false := by
        unfold isRest
        split
        · cases c
        · rfl
      rw [e] at q
      exact q
end Mh
/-! MhMach2 -/
namespace Mh
open PySem PySem.Spec PyProof.Rows L2
def rising : List Int → Bool
  | x :: y :: r => decide (x < y) && rising (y :: r)
  | _ => true
def areKnown : PyData → Bool
  | .tuple xs => (decide (1 ≤ xs.length) && decide (xs.length ≤ 8)) && ((xs.all fun x => isNum x 0 9999) && rising (xs.map intOf))
  | _ => false
theorem areKnown_tup (xs : List PyData) : areKnown (.tuple xs) = ((decide (1 ≤ xs.length) && decide (xs.length ≤ 8)) && ((xs.all fun x => isNum x 0 9999) && rising (xs.map intOf))) := rfl
theorem range_all {n : Nat} {p : Nat → Bool} {q : Bool} (h : ((List.range n).all p) = q) : (((List.range n).map fun i => p i).all id) = q := by
  rw [List.all_map]
  exact h
theorem all_range_get {α : Type} (p : α → Bool) (d : α) (xs : List α) : (List.range xs.length).all (fun i => p (xs.getD i d)) = xs.all p := by
  apply Bool.eq_iff_iff.mpr
  rw [List.all_eq_true, List.all_eq_true]
  constructor
  · intro h x hx
    obtain ⟨i, hi, e⟩ := List.getElem_of_mem hx
    have := h i (List.mem_range.mpr hi)
    rw [List.getD_eq_getElem?_getD, List.getElem?_eq_getElem hi] at this
    rw [← e]
    exact this
  · intro h i hi
    have hi := List.mem_range.mp hi
    show p (xs.getD i d) = true
    rw [List.getD_eq_getElem?_getD, List.getElem?_eq_getElem hi]
    exact h _ (List.getElem_mem hi)
theorem rising_range : ∀ xs : List Int, (List.range (xs.length - 1)).all (fun i => decide (xs.getD i 0 < xs.getD (i + 1) 0)) = rising xs
  | [] => rfl
  | [_] => rfl
  | x :: y :: r => by
    have ih := rising_range (y :: r)
    have e : (x :: y :: r).length - 1 = (r.length) + 1 := by simp
    rw [e, List.range_succ_eq_map, List.all_cons, List.all_map]
    show (decide (x < y) && ((List.range r.length).all fun i => decide ((y :: r).getD i 0 < (y :: r).getD (i + 1) 0))) = _
    have e2 : (y :: r).length - 1 = r.length := by simp
    rw [e2] at ih
    rw [ih]
    rfl
theorem getD_of {α : Type} {xs : List α} {i : Nat} {d x : α} (h : xs[i]? = some x) : xs.getD i d = x := by
  rw [List.getD_eq_getElem?_getD, h]
  rfl
theorem sc_are_known : FnScope ["thing", "one", "other"] ["thing"] (defScope s_are_known) := ⟨rfl, rfl, rfl, by decide +kernel, rfl, by decide +kernel, by decide +kernel⟩
def spAreKnown (K : PySem.W.Frag) : Sp := fun vs H Q _ => ∃ v d, vs = [v] ∧ Dp K H v d ∧ ∀ H', Fx [] H H' → Q (.bl (areKnown d)) H'
theorem ok_are_known {P : Program} {w : World} {K : PySem.W.Frag} {mg : Str → Option Value} {base : Heap} (T : Tx K mg) : Def P w K mg base CX0 2 "are_known" ["thing"] (spAreKnown K) := by
  obtain ⟨fd, F⟩ := T.d_are_known
  have G_is_number := ok_is_number (P := P) (w := w) (base := base) T
  refine ⟨_, fd, F.ok sc_are_known (fun vs H Q E h => ?_) (fun cdv A outer s H vs Q E hr h => ?_), F.bindsN fun _ _ _ _ _ _ us hl => match us, hl with | [_], _ => rfl, T.g_are_known, F.kp⟩
  · obtain ⟨v, d, rfl, _⟩ := h
    rfl
  · obtain ⟨v, d, rfl, hd, q⟩ := h
    refine ⟨_, PSs.nox (pss_cons (ps_if (PW.pt (pw_or (pt_not (pt_val (pe_callB call_isiD (by rfl) T.f_isinstance (by decide +kernel) (pa_cons (pv 0) (pa_cons (gT (n := "tuple") T.f_tuple) pa_nil))))) (pw_or1 (pt_not (pt_chain op_le op_le pe_int (pe_callB call_len_seq (by rfl) T.f_len (by decide +kernel) (pa_cons (pv 0) pa_nil)) (gC T.c_MOST_KNOWN))))))
        (pss_one (ps_ret pe_bl))
        pss_nil)
        (pss_cons (ps_if (pt_not (pt_val (pe_callB (cr_all rfl) (by rfl) T.f_all (by decide +kernel) (pa_cons (pe_lc (own := [("one", 1)]) (g := (gName 1)) (tt := tYes) rfl sc_are_known.nd (pi_tup (pv 0)) (blkOk_by (own := [("one", 1)]) (N := ["thing", "one", "other"]) (sc := defScope s_are_known) (by decide +kernel)) (fun _ _ _ _ _ => pg_name (i := 1) sc_are_known.nd rfl (Or.inl rfl)) (fun _ _ _ _ _ => pts_nil) (fun _ _ _ _ _ => (pe_def G_is_number (hr.mono (by omega)) pass0 (pa_cons (pv 1) (pa_cons pe_int (pa_cons (gC T.c_GREAT) pa_nil)))))) pa_nil))))
        (pss_one (ps_ret pe_bl))
        pss_nil)
        (pss_one (ps_ret (pe_callB (cr_all rfl) (by rfl) T.f_all (by decide +kernel) (pa_cons (pe_lc (own := [("one", 1), ("other", 2)]) (g := (gTup _ 2 (gCons (gName 1) (gCons (gName 2) gNil)))) (tt := tYes) rfl sc_are_known.nd (RZ.pi_zipA (by rfl) T.f_zip (pa_cons (pv 0) (pa_cons (pe_slice sl_tup (pv 0) (po_some pe_int) po_none) pa_nil))) (blkOk_by (own := [("one", 1), ("other", 2)]) (N := ["thing", "one", "other"]) (sc := defScope s_are_known) (by decide +kernel)) (fun _ _ _ _ _ => pg_tup rfl (pgs_cons (pg_name (i := 1) sc_are_known.nd rfl (Or.inl rfl)) (pgs_cons (pg_name (i := 2) sc_are_known.nd rfl (Or.inl rfl)) pgs_nil))) (fun _ _ _ _ _ => pts_nil) (fun _ _ _ _ _ => (pe_cmpR op_lt (pv 1) (pv 2) (nomark _)))) pa_nil)))))), ?_⟩
    refine rd_isD rfl (by decide) hd ⟨_, rfl, ?_⟩
    cases hd with
    | @tup a xs ds hs ha =>
      have hl := ha.len
      have qf : areKnown (.tuple ds) = false → Q (.bl false) H := fun e => by
        have := q H Fx.refl
        rw [e] at this
        exact this
      refine ifF rfl ⟨_, rfl, a, xs, rfl, .inr hs, _, _, rfl, rfl, _, rfl, ?_⟩
      refine ifB (fun c1 => ⟨_, _, rfl, rfl, _, rfl, ?_⟩) (fun c1 => ⟨_, rfl, ifT rfl ?_⟩)
      · have c1' : (1 : Int) ≤ (xs.length : Int) := of_decide_eq_true c1
        refine ifB (fun c2 => ?_) (fun c2 => ?_)
        · exact qf (by
            have c2' : decide ((xs.length : Int) ≤ 8) = false := by simpa using c2
            have : ¬ ds.length ≤ 8 := fun z => absurd c2' (by rw [decide_eq_true (by omega)]; decide)
            simp [areKnown_tup, this])
        · have c2' : (xs.length : Int) ≤ 8 := by simpa using c2
          -- all([is_number(one, 0, GREAT) for one in thing])
          refine ⟨_, rfl, a, rfl, ⟨xs, hs⟩, fun D hD => lc_map (walk_tup (xs := xs)) (fun i => .bl (isNum (ds.getD i .none) 0 9999)) (by omega) hD (fun H2 f => f.sqT hs) (fun _ _ _ _ y => YAt.fx y) (fun i x H2 H3 Qe Z hi f y k => ?_) (fun H2 f hL => ?_)⟩
          · refine ⟨rfl, ifT rfl ?_⟩
            obtain ⟨d, h1, h2⟩ := ha.get y.2
            refine ⟨x, rfl, x, d, 0, 9999, rfl, (h2.ext f).ext (YAt.fx y), ?_⟩
            rw [getD_of (d := .none) h1] at k
            exact k _ .refl
          · refine ⟨D, (List.range xs.length).map fun i => isNum (ds.getD i .none) 0 9999, rfl, SqL.of (by rw [hL, List.map_map]; rfl), _, rfl, ?_⟩
            have eA : (((List.range xs.length).map fun i => isNum (ds.getD i .none) 0 9999).all id) = ds.all fun x => isNum x 0 9999 := range_all (by rw [hl]; exact all_range_get (fun x => isNum x 0 9999) .none ds)
            rw [eA]
            refine ifB (fun c3 => ?_) (fun c3 => ?_)
            · have := q H2 f
              have e3 : (ds.all fun x => isNum x 0 9999) = false := by simpa using c3
              have e4 : areKnown (.tuple ds) = false := by
                rw [areKnown_tup]
                rw [e3, Bool.false_and, Bool.and_false]
              rw [e4] at this
              exact this
            · have e3 : (ds.all fun x => isNum x 0 9999) = true := by simpa using c3
              have hs2 := f.sqT hs
              -- all([one < other for one, other in zip(thing, thing[1:])])
              refine ⟨_, rfl, _, rfl, 1, rfl, a, xs, rfl, hs2, ?_, fun p hp => ?_⟩
              · rw [HT.sIx_none, show HT.sIx xs.length 0 (some 1) = min 1 xs.length from HT.sIx_nat xs.length 0 1]
                intro z
                omega
              have f2 : Fx [] H2 (upd H2 p (.tup (cutV xs (some 1) none))) := Fx.new hp
              have ecut : cutV xs (some 1) none = xs.drop 1 := by
                unfold cutV
                rw [HT.sIx_none, show HT.sIx xs.length 0 (some 1) = min 1 xs.length from HT.sIx_nat xs.length 0 1, show min 1 xs.length = 1 by omega]
                exact List.take_of_length_le (by rw [List.length_drop]; exact Nat.le_refl _)
              rw [ecut] at f2 ⊢
              have hs3 := f2.sqT hs2
              have hp3 : SqT K (upd H2 p (.tup (xs.drop 1))) p (xs.drop 1) := SqT.of upd_same
              refine ⟨a, p, xs, xs.drop 1, rfl, .inr ⟨hs3, hp3, fun D2 hD2 => ?_⟩⟩
              have hm : xs.length - 1 = min xs.length (xs.drop 1).length := by rw [List.length_drop]; omega
              refine lc_map (walk_zipT hm) (fun i => .bl (decide ((ds.map intOf).getD i 0 < (ds.map intOf).getD (i + 1) 0))) (by omega) hD2 (fun H4 f4 => ⟨f4.sqT hs3, f4.sqT hp3⟩) (fun _ _ _ _ y => YPair.fx y) (fun i x H4 H5 Qe Z hi f4 y k => ?_) (fun H4 f4 hL4 => ?_)
              · obtain ⟨T, u, v, rfl, hT, hu, hv⟩ := YPair.tup y
                obtain ⟨d1, g1, g2⟩ := ha.get hu
                have hv' : xs[i + 1]? = some v := by
                  rw [List.getElem?_drop, Nat.add_comm] at hv
                  exact hv
                obtain ⟨d2, g3, g4⟩ := ha.get hv'
                have a1 := List.all_eq_true.mp e3 d1 (List.mem_of_getElem? g1)
                have a2 := List.all_eq_true.mp e3 d2 (List.mem_of_getElem? g3)
                obtain ⟨m1, rfl, _⟩ := isNum_inv a1
                obtain ⟨m2, rfl, _⟩ := isNum_inv a2
                cases g2
                cases g4
                refine ⟨T, _, rfl, SqT.of hT, rfl, _, _, rfl, _, _, rfl, rfl, rfl, ifT rfl ⟨_, rfl, _, rfl, m1, m2, rfl, rfl, ?_⟩⟩
                rw [show (ds.map intOf).getD i 0 = m1 from getD_of (by rw [List.getElem?_map, g1]; rfl), show (ds.map intOf).getD (i + 1) 0 = m2 from getD_of (by rw [List.getElem?_map, g3]; rfl)] at k
                exact k _ .refl
              · refine ⟨D2, (List.range (xs.length - 1)).map fun i => decide ((ds.map intOf).getD i 0 < (ds.map intOf).getD (i + 1) 0), rfl, SqL.of (by rw [hL4, List.map_map]; rfl), ?_⟩
                have eB : (((List.range (xs.length - 1)).map fun i => decide ((ds.map intOf).getD i 0 < (ds.map intOf).getD (i + 1) 0)).all id) = rising (ds.map intOf) := range_all (by rw [hl, ← List.length_map (f := intOf)]; exact rising_range _)
                rw [eB]
                have := q H4 ((f.trans f2).trans f4)
                have e4 : areKnown (.tuple ds) = rising (ds.map intOf) := by
                  rw [areKnown_tup]
                  rw [e3, Bool.true_and, decide_eq_true (show 1 ≤ ds.length by omega), decide_eq_true (show ds.length ≤ 8 by omega)]
                  rfl
                rw [e4] at this
                exact this
      · exact qf (by
          have c1' : ¬ (1 : Int) ≤ (xs.length : Int) := of_decide_eq_false c1
          have : ds.length = 0 := by omega
          simp [areKnown_tup, this])
    | _ => exact ifT rfl (q H .refl)
end Mh
/-! MhMach3 -/
namespace Mh
open PySem PySem.Spec PyProof.Rows L2
def isTest : PyData → Bool
  | .tuple [.str z] => z == ("any" : Str)
  | .tuple [.str z, x] => (z == ("below" : Str) && isNum x 0 9999) || (z == ("known" : Str) && areKnown x)
  | .tuple [.str z, x, y] => isRest (.tuple [.str z, x, y]) && inV (.str z) [.str "rest", .str "chance"]
  | _ => false
theorem isTag_no {n : Nat} {d : PyData} (h : isTag n d = false) {z : Str} {xs : List PyData} (e : xs.length + 1 = n) : d ≠ .tuple (.str z :: xs) := fun q => by
  subst q
  have : (xs.length + 1 == n) = false := h
  rw [e] at this
  simp at this
theorem isRest_inv {d : PyData} (h : isRest d = true) : ∃ z x y, d = .tuple [.str z, x, y] := by
  unfold isRest at h
  split at h
  · exact ⟨_, _, _, rfl⟩
  · cases h
/-- x == a written text -/
theorem rd_eqS {σ : L2.St} {H : Hp} {Q : VK} {x : Str} {z : Str} (q : Q (.bl (x == z)) H) : tC (.str z) σ H fun y H2 => rEq (.str x) y H2 Q := ⟨rfl, by rw [dec_str]; exact q⟩
theorem sc_is_test : FnScope ["thing"] ["thing"] (defScope s_is_test) := ⟨rfl, rfl, rfl, by decide +kernel, rfl, by decide +kernel, by decide +kernel⟩
def spIsTest (K : PySem.W.Frag) : Sp := fun vs H Q _ => ∃ v d, vs = [v] ∧ Dp K H v d ∧ ∀ H', Fx [] H H' → Q (.bl (isTest d)) H'
theorem ok_is_test {P : Program} {w : World} {K : PySem.W.Frag} {mg : Str → Option Value} {base : Heap} (T : Tx K mg) : Def P w K mg base CX0 3 "is_test" ["thing"] (spIsTest K) := by
  obtain ⟨fd, F⟩ := T.d_is_test
  have G_is_tagged := ok_is_tagged (P := P) (w := w) (base := base) T
  have G_is_rest := ok_is_rest (P := P) (w := w) (base := base) T
  have G_is_number := ok_is_number (P := P) (w := w) (base := base) T
  have G_are_known := ok_are_known (P := P) (w := w) (base := base) T
  refine ⟨_, fd, F.ok sc_is_test (fun vs H Q E h => ?_) (fun cdv A outer s H vs Q E hr h => ?_), F.bindsN fun _ _ _ _ _ _ us hl => match us, hl with | [_], _ => rfl, T.g_is_test, F.kp⟩
  · obtain ⟨v, d, rfl, _⟩ := h
    rfl
  · obtain ⟨v, d, rfl, hd, q⟩ := h
    refine ⟨_, PSs.nox (pss_cons (ps_if (pt_val (pe_def G_is_tagged (hr.mono (by omega)) pass0 (pa_cons (pv 0) (pa_cons pe_int pa_nil))))
        (pss_one (ps_ret (pe_cmpR op_eq (pe_ix ix_tup (pv 0) pe_int (fun _ _ => rfl)) pe_str (nomark _))))
        pss_nil)
        (pss_cons (ps_if (pt_val (pe_def G_is_tagged (hr.mono (by omega)) pass0 (pa_cons (pv 0) (pa_cons pe_int pa_nil))))
        (pss_one (ps_ret (pe_or (pe_and (pe_cmpR op_eq (pe_ix ix_tup (pv 0) pe_int (fun _ _ => rfl)) pe_str (nomark _)) (pe_one (pe_def G_is_number (hr.mono (by omega)) pass0 (pa_cons (pe_ix ix_tup (pv 0) pe_int (fun _ _ => rfl)) (pa_cons pe_int (pa_cons (gC T.c_GREAT) pa_nil)))))) (pe_one (pe_and (pe_cmpR op_eq (pe_ix ix_tup (pv 0) pe_int (fun _ _ => rfl)) pe_str (nomark _)) (pe_one (pe_def G_are_known (hr.mono (by omega)) pass0 (pa_cons (pe_ix ix_tup (pv 0) pe_int (fun _ _ => rfl)) pa_nil))))))))
        pss_nil)
        (pss_one (ps_ret (pe_and (pe_def G_is_rest (hr.mono (by omega)) pass0 (pa_cons (pv 0) pa_nil)) (pe_one (pe_cmpR op_in_seq (pe_ix ix_tup (pv 0) pe_int (fun _ _ => rfl)) (pe_tup (pa_cons pe_str (pa_cons pe_str pa_nil))) (by rfl)))))))), ?_⟩
    refine ⟨v, rfl, v, d, 0, rfl, hd, _, rfl, ifB (fun c => ?_) (fun c => ?_)⟩
    · obtain ⟨z, xs, rfl, e⟩ := isTag_inv c
      obtain rfl : xs = [] := List.length_eq_zero_iff.mp (by omega)
      obtain ⟨a, v0, rfl, hs, h0⟩ := hd.tup1
      cases h0
      exact rd_ixT (j := 0) rfl hs rfl (rd_eqS (q H .refl))
    refine ⟨v, rfl, v, d, 1, rfl, hd, _, rfl, ifB (fun c2 => ?_) (fun c2 => ?_)⟩
    · obtain ⟨z, xs, rfl, e⟩ := isTag_inv c2
      obtain ⟨x, rfl⟩ : ∃ x, xs = [x] := by
        match xs, e with
        | [x], _ => exact ⟨x, rfl⟩
      obtain ⟨a, v0, v1, rfl, hs, h0, h1⟩ := hd.tup2
      cases h0
      have q2 : ∀ H', Fx [] H H' → Q (.bl ((z == ("below" : Str) && isNum x 0 9999) || (z == ("known" : Str) && areKnown x))) H' := q
      have fin : (z == ("below" : Str) && isNum x 0 9999) = false → tAndV (tOp rEq (tOp (rIxT K) (tVar 0) (tC (.int 0))) (tC (.str "known"))) (tCall (spAreKnown K) [] E0 (tCons (tOp (rIxT K) (tVar 0) (tC (.int 1))) tNil)) [some (.ref a)] H Q := fun e0 => by
        refine rd_ixT (j := 0) rfl hs rfl (rd_eqS ⟨_, rfl, ifB (fun c4 => ?_) (fun c4 => ?_)⟩)
        · refine rd_ixT (j := 1) rfl hs rfl ⟨v1, x, rfl, h1, fun H' f => ?_⟩
          have := q2 H' f
          rw [e0, c4, Bool.false_or, Bool.true_and] at this
          exact this
        · have := q2 H .refl
          rw [e0, c4] at this
          exact this
      refine rd_ixT (j := 0) rfl hs rfl (rd_eqS ⟨_, rfl, ifB (fun c3 => ?_) (fun c3 => ?_)⟩)
      · refine rd_ixT (j := 1) rfl hs rfl ⟨v1, x, 0, 9999, rfl, h1, _, rfl, ifB (fun c4 => ?_) (fun c4 => ?_)⟩
        · have := q2 H .refl
          rw [c3, c4] at this
          exact this
        · exact fin (by rw [c3, c4]; rfl)
      · exact ⟨_, rfl, ifF rfl (fin (by rw [c3]; rfl))⟩
    · refine ⟨v, rfl, v, d, rfl, hd, _, rfl, ifB (fun c3 => ?_) (fun c3 => ?_)⟩
      · obtain ⟨z, x, y, rfl⟩ := isRest_inv c3
        obtain ⟨a, v0, v1, v2, rfl, hs, h0, h1, h2⟩ := hd.tup3
        cases h0
        have q2 : ∀ H', Fx [] H H' → Q (.bl (isRest (.tuple [.str z, x, y]) && inV (.str z) [.str "rest", .str "chance"])) H' := q
        refine rd_ixT (j := 0) rfl hs rfl ⟨by show 2 ≤ sizeLine; decide, fun p hp => ?_⟩
        have := q2 _ (Fx.new (o := .tup [.str "rest", .str "chance"]) hp)
        rw [c3] at this
        exact ⟨p, _, rfl, .inr (SqT.of upd_same), rfl, rfl, this⟩
      · have e : isTest d = false := by
          unfold isTest
          split
          · exact absurd rfl (isTag_no c rfl)
          · exact absurd rfl (isTag_no c2 rfl)
          · rw [c3]; rfl
          · rfl
        have := q H .refl
        rw [e] at this
        exact this

def isAns : PyData → Bool
  | .tuple [.str z] => z == ("none" : Str)
  | .tuple [.str z, x] => if z == ("rest" : Str) then isNum x 2 99 else inV (.str z) [.str "num", .str "plus", .str "times"] && isNum x (-9999) 9999
  | _ => false
theorem sc_is_answer : FnScope ["thing"] ["thing"] (defScope s_is_answer) := ⟨rfl, rfl, rfl, by decide +kernel, rfl, by decide +kernel, by decide +kernel⟩
def spIsAnswer (K : PySem.W.Frag) : Sp := fun vs H Q _ => ∃ v d, vs = [v] ∧ Dp K H v d ∧ ∀ H', Fx [] H H' → Q (.bl (isAns d)) H'
theorem ok_is_answer {P : Program} {w : World} {K : PySem.W.Frag} {mg : Str → Option Value} {base : Heap} (T : Tx K mg) : Def P w K mg base CX0 2 "is_answer" ["thing"] (spIsAnswer K) := by
  obtain ⟨fd, F⟩ := T.d_is_answer
  have G_is_tagged := ok_is_tagged (P := P) (w := w) (base := base) T
  have G_is_number := ok_is_number (P := P) (w := w) (base := base) T
  refine ⟨_, fd, F.ok sc_is_answer (fun vs H Q E h => ?_) (fun cdv A outer s H vs Q E hr h => ?_), F.bindsN fun _ _ _ _ _ _ us hl => match us, hl with | [_], _ => rfl, T.g_is_answer, F.kp⟩
  · obtain ⟨v, d, rfl, _⟩ := h
    rfl
  · obtain ⟨v, d, rfl, hd, q⟩ := h
    refine ⟨_, PSs.nox (pss_cons (ps_if (pt_val (pe_def G_is_tagged (hr.mono (by omega)) pass0 (pa_cons (pv 0) (pa_cons pe_int pa_nil))))
        (pss_one (ps_ret (pe_cmpR op_eq (pe_ix ix_tup (pv 0) pe_int (fun _ _ => rfl)) pe_str (nomark _))))
        pss_nil)
        (pss_cons (ps_if (pt_not (pt_val (pe_def G_is_tagged (hr.mono (by omega)) pass0 (pa_cons (pv 0) (pa_cons pe_int pa_nil)))))
        (pss_one (ps_ret pe_bl))
        pss_nil)
        (pss_cons (ps_if (pt_cmpR op_eq (pe_ix ix_tup (pv 0) pe_int (fun _ _ => rfl)) pe_str (nomark _))
        (pss_one (ps_ret (pe_def G_is_number (hr.mono (by omega)) pass0 (pa_cons (pe_ix ix_tup (pv 0) pe_int (fun _ _ => rfl)) (pa_cons pe_int (pa_cons (gC T.c_MOST_BY) pa_nil))))))
        pss_nil)
        (pss_one (ps_ret (pe_and (pe_cmpR op_in_seq (pe_ix ix_tup (pv 0) pe_int (fun _ _ => rfl)) (pe_tup (pa_cons pe_str (pa_cons pe_str (pa_cons pe_str pa_nil)))) (by rfl)) (pe_one (pe_def G_is_number (hr.mono (by omega)) pass0 (pa_cons (pe_ix ix_tup (pv 0) pe_int (fun _ _ => rfl)) (pa_cons (pe_op op_sub pe_int (gC T.c_GREAT)) (pa_cons (gC T.c_GREAT) pa_nil))))))))))), ?_⟩
    refine ⟨v, rfl, v, d, 0, rfl, hd, _, rfl, ifB (fun c => ?_) (fun c => ?_)⟩
    · obtain ⟨z, xs, rfl, e⟩ := isTag_inv c
      obtain rfl : xs = [] := List.length_eq_zero_iff.mp (by omega)
      obtain ⟨a, v0, rfl, hs, h0⟩ := hd.tup1
      cases h0
      exact rd_ixT (j := 0) rfl hs rfl (rd_eqS (q H .refl))
    refine ⟨v, rfl, v, d, 1, rfl, hd, _, rfl, ifB (fun c2 => ?_) (fun c2 => ?_)⟩
    · have e : isAns d = false := by
        have c2' : isTag 2 d = false := by simpa using c2
        unfold isAns
        split
        · exact absurd rfl (isTag_no c rfl)
        · exact absurd rfl (isTag_no c2' rfl)
        · rfl
      have := q H .refl
      rw [e] at this
      exact this
    · have c2' : isTag 2 d = true := by simpa using c2
      obtain ⟨z, xs, rfl, e⟩ := isTag_inv c2'
      obtain ⟨x, rfl⟩ : ∃ x, xs = [x] := by
        match xs, e with
        | [x], _ => exact ⟨x, rfl⟩
      obtain ⟨a, v0, v1, rfl, hs, h0, h1⟩ := hd.tup2
      cases h0
      have q2 : ∀ H', Fx [] H H' → Q (.bl (if z == ("rest" : Str) then isNum x 2 99 else inV (.str z) [.str "num", .str "plus", .str "times"] && isNum x (-9999) 9999)) H' := q
      refine rd_ixT (j := 0) rfl hs rfl (rd_eqS ⟨_, rfl, ifB (fun c3 => ?_) (fun c3 => ?_)⟩)
      · rw [c3] at q2
        exact rd_ixT (j := 1) rfl hs rfl ⟨v1, x, 2, 99, rfl, h1, q2 H .refl⟩
      · rw [c3] at q2
        refine rd_ixT (j := 0) rfl hs rfl ⟨by show 3 ≤ sizeLine; decide, fun p hp => ?_⟩
        have fp : Fx [] H (upd H p (.tup [.str "num", .str "plus", .str "times"])) := Fx.new hp
        have q3 : Q (.bl (inV (.str z) [.str "num", .str "plus", .str "times"] && isNum x (-9999) 9999)) _ := q2 _ fp
        refine ⟨p, _, rfl, .inr (SqT.of upd_same), rfl, rfl, _, rfl, ifB (fun c4 => ?_) (fun c4 => ?_)⟩
        · have c4' : inV (.str z) [.str "num", .str "plus", .str "times"] = true := c4
          rw [c4', Bool.true_and] at q3
          exact rd_ixT (j := 1) rfl (fp.sqT hs) rfl ⟨0, 9999, rfl, rfl, v1, x, -9999, 9999, rfl, h1.ext fp, q3⟩
        · have c4' : inV (.str z) [.str "num", .str "plus", .str "times"] = false := c4
          rw [c4', Bool.false_and] at q3
          exact q3
end Mh
/-! MhMach4 -/
namespace Mh
open PySem PySem.Spec PyProof.Rows L2
def rowOk : PyData → Bool
  | .tuple [t, a] => isTest t && isAns a
  | _ => false
theorem rowOk_inv {d : PyData} (h : rowOk d = true) : ∃ t a, d = .tuple [t, a] ∧ isTest t = true ∧ isAns a = true := by
  unfold rowOk at h
  split at h
  · obtain ⟨h1, h2⟩ := Bool.and_eq_true_iff.mp h
    exact ⟨_, _, rfl, h1, h2⟩
  · cases h
/-- x == n, n a written number -/
theorem rd_eqI {σ : L2.St} {H : Hp} {Q : VK} {x : Int} {z : Int} (q : Q (.bl (x == z)) H) : tC (.int z) σ H fun y H2 => rEq (.int x) y H2 Q := ⟨rfl, by rw [dec_int]; exact q⟩
theorem sc_need_machine : FnScope ["machine", "row", "one"] ["machine"] (defScope s_need_machine) := ⟨rfl, rfl, rfl, by decide +kernel, rfl, by decide +kernel, by decide +kernel⟩
def spNeedMachine (K : PySem.W.Frag) : Sp := fun vs H Q _ => ∃ v ds, vs = [v] ∧ Dp K H v (.tuple ds) ∧ ds ≠ [] ∧ ds.length ≤ 12 ∧ (∀ d ∈ ds, rowOk d = true) ∧ SeqAt.shaped (.tuple ds) = true ∧ ∀ H', Fx [] H H' → Q .non H'
theorem ok_need_machine {P : Program} {w : World} {K : PySem.W.Frag} {mg : Str → Option Value} {base : Heap} (T : Tx K mg) : Def P w K mg base CX0 4 "need_machine" ["machine"] (spNeedMachine K) := by
  obtain ⟨fd, F⟩ := T.d_need_machine
  have G_is_test := ok_is_test (P := P) (w := w) (base := base) T
  have G_is_answer := ok_is_answer (P := P) (w := w) (base := base) T
  refine ⟨_, fd, F.ok sc_need_machine (fun vs H Q E h => ?_) (fun cdv A outer s H vs Q E hr h => ?_), F.bindsN fun _ _ _ _ _ _ us hl => match us, hl with | [_], _ => rfl, T.g_need_machine, F.kp⟩
  · obtain ⟨v, ds, rfl, _⟩ := h
    rfl
  · obtain ⟨v, ds, rfl, hd, hne, hlen, hrows, hsh, q⟩ := h
    refine ⟨_, PSs.nox (pss_cons (ps_if (PW.pt (pw_or (pt_not (pt_val (pe_callB call_isiD (by rfl) T.f_isinstance (by decide +kernel) (pa_cons (pv 0) (pa_cons (gT (n := "tuple") T.f_tuple) pa_nil))))) (pw_or1 (pt_cmpR (op_eqD hr.units) (pv 0) (pe_tup pa_nil) (nomark _)))))
        (pss_one ps_never)
        pss_nil)
        (pss_one (ps_for PassesOwn.never rfl (pi_enumT (by rfl) T.f_enumerate (pa_cons (pv 0) pa_nil)) (pg_tup rfl (pgs_cons (pg_name (i := 1) sc_need_machine.nd rfl (by first | exact Or.inl rfl | exact Or.inr rfl)) (pgs_cons (pg_name (i := 2) sc_need_machine.nd rfl (by first | exact Or.inl rfl | exact Or.inr rfl)) pgs_nil)))
        (pss_cons (ps_if (PW.pt (pw_or (pt_cmpR op_eq (pv 1) (gC T.c_MOST_ROWS) (nomark _)) (pw_or (pt_not (pt_val (pe_callB call_isiD (by rfl) T.f_isinstance (by decide +kernel) (pa_cons (pv 2) (pa_cons (gT (n := "tuple") T.f_tuple) pa_nil))))) (pw_or1 (pt_cmpR op_ne (pe_callB call_len_seq (by rfl) T.f_len (by decide +kernel) (pa_cons (pv 2) pa_nil)) pe_int (nomark _))))))
        (pss_one ps_never)
        pss_nil)
        (pss_one (ps_if (PW.pt (pw_or (pt_not (pt_val (pe_def G_is_test (hr.mono (by omega)) pass0 (pa_cons (pe_ix ix_tup (pv 2) pe_int (fun _ _ => rfl)) pa_nil)))) (pw_or1 (pt_not (pt_val (pe_def G_is_answer (hr.mono (by omega)) pass0 (pa_cons (pe_ix ix_tup (pv 2) pe_int (fun _ _ => rfl)) pa_nil)))))))
        (pss_one ps_never)
        pss_nil)))))), ?_⟩
    obtain ⟨a, xs, rfl, hs, ha⟩ := hd.tupI
    have hl := ha.len
    refine rd_isD rfl (by decide) hd ⟨_, rfl, ifF rfl ⟨_, rfl, by show 0 ≤ sizeLine; decide, fun p hp => ?_⟩⟩
    have f1 : Fx [] H (upd H p (.tup [])) := Fx.new hp
    refine ⟨.tuple ds, .tuple [], hd.ext f1, .tup (SqT.of upd_same) .nil, hsh, by decide +kernel, _, rfl, ifF ?_ ?_⟩
    · cases ds with
      | nil => exact absurd rfl hne
      | cons d ds => simp [PyData.eqv, PyData.eqvAll]
    refine ⟨_, rfl, a, xs, rfl, f1.sqT hs, for_it walk_enT (fun i σ' H' => ∃ y1 y2, σ' = [some (.ref a), y1, y2] ∧ Fx [] H H') ⟨none, none, rfl, f1⟩ (fun i σ' H' _ ⟨_, _, _, f⟩ => f.sqT hs) (fun i x σ' H2 H3 hi hP y => ?_) (fun σ' H' hP => ?_)⟩
    · obtain ⟨y1, y2, rfl, f⟩ := hP
      obtain ⟨T, u, v, rfl, hT, hu, hv⟩ := YPair.tup y
      cases hu
      have f3 := f.trans (YPair.fx y)
      obtain ⟨d, g1, g2⟩ := ha.get hv
      obtain ⟨t, an, rfl, ht, han⟩ := rowOk_inv (hrows d (List.mem_of_getElem? g1))
      have g3 := g2.ext f3
      obtain ⟨b, w1, w2, rfl, hb, k1, k2⟩ := g3.tup2
      refine ⟨T, _, rfl, SqT.of hT, rfl, _, _, rfl, _, _, rfl, rfl, ?_⟩
      refine ⟨_, rfl, rd_eqI ⟨_, rfl, ifF ?_ ?_⟩⟩
      · have : (i : Int) ≠ 12 := by omega
        simpa using this
      refine rd_isD rfl (by decide) g3 ⟨_, rfl, ifF rfl ⟨_, rfl, b, _, rfl, .inr hb, rfl, _, rfl, ifF rfl ?_⟩⟩
      refine rd_ixT (j := 0) rfl hb rfl ⟨w1, t, rfl, k1, fun H4 f4 => ⟨_, rfl, ifF (by rw [ht]; rfl) ?_⟩⟩
      refine rd_ixT (j := 1) rfl (f4.sqT hb) rfl ⟨w2, an, rfl, k2.ext f4, fun H5 f5 => ⟨_, rfl, ifF (by rw [han]; rfl) ?_⟩⟩
      exact ⟨_, _, rfl, (f3.trans f4).trans f5⟩
    · obtain ⟨y1, y2, rfl, f⟩ := hP
      exact q H' f

/-! ### good tests, answers, machines as data of Lean -/
inductive Tst where
  | any | below (n : Int) | rest (m r : Int) | chance (m r : Int) | known (ns : List Int)
inductive Ans where
  | num (n : Int) | plus (n : Int) | times (n : Int) | rest (m : Int) | none
def Tst.d : Tst → PyData
  | .any => .tuple [.str "any"]
  | .below n => .tuple [.str "below", .int n]
  | .rest m r => .tuple [.str "rest", .int m, .int r]
  | .chance m r => .tuple [.str "chance", .int m, .int r]
  | .known ns => .tuple [.str "known", .tuple (ns.map .int)]
def Ans.d : Ans → PyData
  | .num n => .tuple [.str "num", .int n]
  | .plus n => .tuple [.str "plus", .int n]
  | .times n => .tuple [.str "times", .int n]
  | .rest m => .tuple [.str "rest", .int m]
  | .none => .tuple [.str "none"]
def Tst.ok : Tst → Prop
  | .any => True
  | .below n => 0 ≤ n ∧ n ≤ 9999
  | .rest m r => 2 ≤ m ∧ m ≤ 99 ∧ 0 ≤ r ∧ r < m
  | .chance m r => 2 ≤ m ∧ m ≤ 99 ∧ 0 ≤ r ∧ r < m
  | .known ns => 1 ≤ ns.length ∧ ns.length ≤ 8 ∧ (∀ n ∈ ns, 0 ≤ n ∧ n ≤ 9999) ∧ rising ns = true
def Ans.ok : Ans → Prop
  | .num n => -9999 ≤ n ∧ n ≤ 9999
  | .plus n => -9999 ≤ n ∧ n ≤ 9999
  | .times n => -9999 ≤ n ∧ n ≤ 9999
  | .rest m => 2 ≤ m ∧ m ≤ 99
  | .none => True
abbrev Mch := List (Tst × Ans)
def rowD (r : Tst × Ans) : PyData := .tuple [r.1.d, r.2.d]
def machD (m : Mch) : PyData := .tuple (m.map rowD)
structure Mch.ok (m : Mch) : Prop where
  ne : m ≠ []
  len : m.length ≤ 12
  rows : ∀ r ∈ m, r.1.ok ∧ r.2.ok
theorem intOf_map (ns : List Int) : (ns.map PyData.int).map intOf = ns := by
  rw [List.map_map]
  exact List.map_id ns
theorem Tst.ok_test {t : Tst} (h : t.ok) : isTest t.d = true := by
  cases t with
  | any => decide +kernel
  | below n =>
    have e : isNum (.int n) 0 9999 = true := by simp [isNum, h.1, h.2]
    have e1 : (("below" : Str) == ("below" : Str)) = true := beq_self_eq_true _
    simp only [Tst.d, isTest, e1, e, Bool.and_self, Bool.true_or]
  | rest m r =>
    obtain ⟨h1, h2, h3, h4⟩ := h
    have e : isRest (.tuple [.str "rest", .int m, .int r]) = true := by
      have h5 : r ≤ m - 1 := by omega
      simp [isRest, isNum, intOf, h1, h2, h3, h5]
    show (isRest (.tuple [.str "rest", .int m, .int r]) && inV (.str "rest") [.str "rest", .str "chance"]) = true
    rw [e, Bool.true_and]
    decide +kernel
  | chance m r =>
    obtain ⟨h1, h2, h3, h4⟩ := h
    have e : isRest (.tuple [.str "chance", .int m, .int r]) = true := by
      have h5 : r ≤ m - 1 := by omega
      simp [isRest, isNum, intOf, h1, h2, h3, h5]
    show (isRest (.tuple [.str "chance", .int m, .int r]) && inV (.str "chance") [.str "rest", .str "chance"]) = true
    rw [e, Bool.true_and]
    decide +kernel
  | known ns =>
    obtain ⟨h1, h2, h3, h4⟩ := h
    have e : areKnown (.tuple (ns.map .int)) = true := by
      rw [areKnown_tup, intOf_map, h4, List.length_map, decide_eq_true h1, decide_eq_true h2, Bool.and_true, Bool.and_true, Bool.true_and]
      refine List.all_eq_true.mpr fun d hd => ?_
      obtain ⟨n, hn, rfl⟩ := List.mem_map.mp hd
      obtain ⟨h5, h6⟩ := h3 n hn
      simp [isNum, h5, h6]
    have e1 : (("known" : Str) == ("known" : Str)) = true := beq_self_eq_true _
    simp only [Tst.d, isTest, e1, e, Bool.and_self, Bool.or_true]
theorem Ans.ok_ans {a : Ans} (h : a.ok) : isAns a.d = true := by
  have key : ∀ (z : Str) (n : Int), -9999 ≤ n ∧ n ≤ 9999 → (z == ("rest" : Str)) = false → inV (.str z) [.str "num", .str "plus", .str "times"] = true → isAns (.tuple [.str z, .int n]) = true := fun z n h e1 e2 => by
    show (if z == ("rest" : Str) then isNum (.int n) 2 99 else inV (.str z) [.str "num", .str "plus", .str "times"] && isNum (.int n) (-9999) 9999) = true
    rw [e1, e2]
    simp [isNum, h.1, h.2]
  cases a with
  | num n => exact key _ n h (by decide +kernel) (by decide +kernel)
  | plus n => exact key _ n h (by decide +kernel) (by decide +kernel)
  | times n => exact key _ n h (by decide +kernel) (by decide +kernel)
  | rest m =>
    show (if ("rest" : Str) == ("rest" : Str) then isNum (.int m) 2 99 else inV (.str ("rest" : Str)) [.str "num", .str "plus", .str "times"] && isNum (.int m) (-9999) 9999) = true
    rw [beq_self_eq_true]
    simp [isNum, h.1, h.2]
  | none => decide +kernel
theorem lay_ints : ∀ ns : List Int, PyData.canLayAll0 (ns.map .int) = true ∧ PyData.depthAll (ns.map .int) = 0
  | [] => ⟨by simp [PyData.canLayAll0], by simp [PyData.depthAll]⟩
  | n :: ns => by
    obtain ⟨h1, h2⟩ := lay_ints ns
    exact ⟨by simp [PyData.canLayAll0, PyData.canLay0, h1], by simp [PyData.depthAll, PyData.depth, h2]⟩
theorem strOkA : (["any", "below", "rest", "chance", "known", "num", "plus", "times", "none"] : List Str).all (fun z => PyData.canLay0 (.str z)) = true := by decide +kernel
theorem strOk1 {z : Str} (h : z ∈ (["any", "below", "rest", "chance", "known", "num", "plus", "times", "none"] : List Str)) : PyData.canLay0 (.str z) = true := List.all_eq_true.mp strOkA z h
theorem Tst.lay (t : Tst) : t.d.canLay0 = true ∧ t.d.depth ≤ 2 := by
  cases t with
  | known ns =>
    obtain ⟨h1, h2⟩ := lay_ints ns
    have e := strOk1 (z := "known") (by decide +kernel)
    exact ⟨by simp [Tst.d, PyData.canLay0, PyData.canLayAll0, h1] at e ⊢; exact e, by simp [Tst.d, PyData.depth, PyData.depthAll, h2]⟩
  | any => exact ⟨by decide +kernel, by decide +kernel⟩
  | below n =>
    have e := strOk1 (z := "below") (by decide +kernel)
    exact ⟨by simp [Tst.d, PyData.canLay0, PyData.canLayAll0] at e ⊢; exact e, by simp [Tst.d, PyData.depth, PyData.depthAll]⟩
  | rest m r =>
    have e := strOk1 (z := "rest") (by decide +kernel)
    exact ⟨by simp [Tst.d, PyData.canLay0, PyData.canLayAll0] at e ⊢; exact e, by simp [Tst.d, PyData.depth, PyData.depthAll]⟩
  | chance m r =>
    have e := strOk1 (z := "chance") (by decide +kernel)
    exact ⟨by simp [Tst.d, PyData.canLay0, PyData.canLayAll0] at e ⊢; exact e, by simp [Tst.d, PyData.depth, PyData.depthAll]⟩
theorem Ans.lay (a : Ans) : a.d.canLay0 = true ∧ a.d.depth ≤ 2 := by
  have key : ∀ (z : Str) (n : Int), PyData.canLay0 (.str z) = true → (PyData.tuple [.str z, .int n]).canLay0 = true ∧ (PyData.tuple [.str z, .int n]).depth ≤ 2 := fun z n e =>
    ⟨by simp [PyData.canLay0, PyData.canLayAll0] at e ⊢; exact e, by simp [PyData.depth, PyData.depthAll]⟩
  cases a with
  | num n => exact key _ _ (strOk1 (by decide +kernel))
  | plus n => exact key _ _ (strOk1 (by decide +kernel))
  | times n => exact key _ _ (strOk1 (by decide +kernel))
  | rest n => exact key _ _ (strOk1 (by decide +kernel))
  | none => exact ⟨by decide +kernel, by decide +kernel⟩
theorem mach_lay : ∀ m : Mch, PyData.canLayAll0 (m.map rowD) = true ∧ PyData.depthAll (m.map rowD) ≤ 3
  | [] => ⟨by simp [PyData.canLayAll0], by simp [PyData.depthAll]⟩
  | r :: m => by
    obtain ⟨h1, h2⟩ := mach_lay m
    obtain ⟨a1, a2⟩ := r.1.lay
    obtain ⟨b1, b2⟩ := r.2.lay
    refine ⟨by simp [PyData.canLayAll0, PyData.canLay0, rowD, h1, a1, b1], ?_⟩
    simp only [List.map_cons, PyData.depthAll, rowD, PyData.depth]
    omega
theorem mach_shaped (m : Mch) : SeqAt.shaped (machD m) = true := by
  obtain ⟨h1, h2⟩ := mach_lay m
  show (PyData.canLay0 (.tuple (m.map rowD)) && decide (PyData.depth (.tuple (m.map rowD)) ≤ 64)) = true
  rw [Bool.and_eq_true_iff]
  refine ⟨by simp only [PyData.canLay0]; exact h1, decide_eq_true ?_⟩
  simp only [PyData.depth]
  omega
theorem nol_ints : ∀ ns : List Int, nolA (ns.map .int) = true
  | [] => rfl
  | n :: ns => by
    show (nol (.int n) && nolA (ns.map .int)) = true
    rw [nol_ints ns]
    rfl
theorem Tst.nol (t : Tst) : nol t.d = true := by
  cases t with
  | known ns =>
    show (true && ((nolA (ns.map .int)) && true)) = true
    rw [nol_ints]
    rfl
  | _ => rfl
theorem Ans.nol (a : Ans) : Mh.nol a.d = true := by cases a <;> rfl
theorem row_nol (r : Tst × Ans) : nol (rowD r) = true := by
  show (nol r.1.d && (nol r.2.d && true)) = true
  rw [r.1.nol, r.2.nol]
  rfl
theorem rows_nol : ∀ m : Mch, nolA (m.map rowD) = true
  | [] => rfl
  | r :: m => by
    show (nol (rowD r) && nolA (m.map rowD)) = true
    rw [row_nol, rows_nol m]
    rfl
theorem mach_nol (m : Mch) : nol (machD m) = true := rows_nol m
theorem mach_rows {m : Mch} (h : m.ok) : ∀ d ∈ m.map rowD, rowOk d = true := fun d hd => by
  obtain ⟨r, hr, rfl⟩ := List.mem_map.mp hd
  obtain ⟨h1, h2⟩ := h.rows r hr
  show (isTest r.1.d && isAns r.2.d) = true
  rw [Tst.ok_test h1, Ans.ok_ans h2]
  rfl
/-- need_machine of a good machine -/
theorem need_mach {K : PySem.W.Frag} {H : Hp} {Q : VK} {E : XK} {v : V} {m : Mch} (h : m.ok) (hd : Dp K H v (machD m)) (q : ∀ H', Fx [] H H' → Q .non H') : spNeedMachine K [v] H Q E :=
  ⟨v, m.map rowD, rfl, hd, fun z => h.ne (List.map_eq_nil_iff.mp z), by rw [List.length_map]; exact h.len, mach_rows h, mach_shaped m, q⟩
end Mh
/-! MhMach5 -/
namespace Mh
open PySem PySem.Spec PyProof.Rows L2
def holdsFor : Tst → Int → Int → Bool
  | .any, _, _ => true
  | .below n, q, _ => decide (q < n)
  | .rest m r, q, _ => q % m == r
  | .chance m r, q, s => (7 * q + 13 * s) % m == r
  | .known ns, q, _ => inV (.int q) (ns.map V.int)
def answerBy : Ans → Int → Option Int
  | .num n, _ => some n
  | .plus n, q => some (q + n)
  | .times n, q => some (q * n)
  | .rest m, q => some (q % m)
  | .none, _ => none
def askedM : Mch → Int → Int → Option Int
  | [], _, _ => none
  | r :: m, q, s => if holdsFor r.1 q s then answerBy r.2 q else askedM m q s
def oV : Option Int → V
  | some i => .int i
  | none => .non
def oD : Option Int → PyData
  | some i => .int i
  | none => .none
theorem dp_oV {K : PySem.W.Frag} {H : Hp} (o : Option Int) : Dp K H (oV o) (oD o) := by
  cases o with
  | none => exact .non
  | some i => exact .int i
theorem DpAll.intsI {K : PySem.W.Frag} {H : Hp} : ∀ {ns : List Int} {xs : List V}, DpAll K H xs (ns.map .int) → xs = ns.map V.int
  | [], _, h => by cases h; rfl
  | n :: ns, _, h => by
    cases h with
    | cons h1 h2 =>
      cases h1
      rw [DpAll.intsI h2]
      rfl
theorem all_flat (ns : List Int) : (ns.map V.int).all flatV = true := by
  rw [List.all_map]
  exact List.all_eq_true.mpr fun _ _ => rfl
/-- word = test[0], word == z -/
theorem rd_vS {σ : L2.St} {H : Hp} {Q : VK} {i : Nat} {x z : Str} (hv : σ[i]? = some (some (.str x))) (q : Q (.bl (x == z)) H) : tOp rEq (tVar i) (tC (.str z)) σ H Q := ⟨_, hv, rd_eqS (σ := σ) q⟩
theorem sTT {x z : Str} (h : x = z) : (x == z) = true := by rw [h]; exact beq_self_eq_true _
theorem sc_holds_for : FnScope ["test", "question", "seed", "word"] ["test", "question", "seed"] (defScope s_holds_for) := ⟨rfl, rfl, rfl, by decide +kernel, rfl, by decide +kernel, by decide +kernel⟩
def spHoldsFor (K : PySem.W.Frag) : Sp := fun vs H Q _ => ∃ v t q s, vs = [v, .int q, .int s] ∧ Dp K H v (Tst.d t) ∧ t.ok ∧ Q (.bl (holdsFor t q s)) H
theorem ok_holds_for {P : Program} {w : World} {K : PySem.W.Frag} {mg : Str → Option Value} {base : Heap} (T : Tx K mg) : Def P w K mg base CX0 1 "holds_for" ["test", "question", "seed"] (spHoldsFor K) := by
  obtain ⟨fd, F⟩ := T.d_holds_for
  refine ⟨_, fd, F.ok sc_holds_for (fun vs H Q E h => ?_) (fun cdv A outer s H vs Q E hr h => ?_), F.bindsN fun _ _ _ _ _ _ us hl => match us, hl with | [_, _, _], _ => rfl, T.g_holds_for, F.kp⟩
  · obtain ⟨v, t, q, s, rfl, _⟩ := h
    rfl
  · obtain ⟨v, t, qu, sd, rfl, hd, ht, q⟩ := h
    refine ⟨_, PSs.nox (pss_cons (ps_set (i := 3) sc_holds_for.nd rfl (by first | exact Or.inl rfl | exact Or.inr rfl) (pe_ix ix_tup (pv 0) pe_int (fun _ _ => rfl)))
        (pss_cons (ps_if (pt_cmpR op_eq (pv 3) pe_str (nomark _))
        (pss_one (ps_ret (pe_cmpR op_lt (pv 1) (pe_ix ix_tup (pv 0) pe_int (fun _ _ => rfl)) (nomark _))))
        pss_nil)
        (pss_cons (ps_if (pt_cmpR op_eq (pv 3) pe_str (nomark _))
        (pss_one (ps_ret (pe_cmpR op_in_seq (pv 1) (pe_ix ix_tup (pv 0) pe_int (fun _ _ => rfl)) (by rfl))))
        pss_nil)
        (pss_cons (ps_if (pt_cmpR op_eq (pv 3) pe_str (nomark _))
        (pss_one (ps_ret (pe_cmpR op_eq (pe_op op_mod (pv 1) (pe_ix ix_tup (pv 0) pe_int (fun _ _ => rfl))) (pe_ix ix_tup (pv 0) pe_int (fun _ _ => rfl)) (nomark _))))
        pss_nil)
        (pss_one (ps_ret (pe_or (pe_cmpR op_eq (pv 3) pe_str (nomark _)) (pe_one (pe_cmpR op_eq (pe_op op_mod (pe_op op_add (pe_op op_mul (gC T.c_BY_QUESTION) (pv 1)) (pe_op op_mul (gC T.c_BY_SEED) (pv 2))) (pe_ix ix_tup (pv 0) pe_int (fun _ _ => rfl))) (pe_ix ix_tup (pv 0) pe_int (fun _ _ => rfl)) (nomark _)))))))))), ?_⟩
    cases t with
    | any =>
      obtain ⟨a, v0, rfl, hs, h0⟩ := hd.tup1
      cases h0
      refine rd_ixT (j := 0) rfl hs rfl ?_
      refine rd_vS rfl ⟨_, rfl, ifF (by decide +kernel) (rd_vS rfl ⟨_, rfl, ifF (by decide +kernel) (rd_vS rfl ⟨_, rfl, ifF (by decide +kernel) ?_⟩)⟩)⟩
      exact rd_vS rfl ⟨_, rfl, ifT (by decide +kernel) q⟩
    | below n =>
      obtain ⟨a, v0, v1, rfl, hs, h0, h1⟩ := hd.tup2
      cases h0
      cases h1
      refine rd_ixT (j := 0) rfl hs rfl ?_
      refine rd_vS rfl ⟨_, rfl, ifT (by decide +kernel) ?_⟩
      exact ⟨_, rfl, rd_ixT (j := 1) rfl hs rfl ⟨_, _, rfl, rfl, q⟩⟩
    | known ns =>
      obtain ⟨a, v0, v1, rfl, hs, h0, h1⟩ := hd.tup2
      cases h0
      obtain ⟨b, xs, rfl, hb, hx⟩ := h1.tupI
      obtain rfl := DpAll.intsI hx
      refine rd_ixT (j := 0) rfl hs rfl ?_
      refine rd_vS rfl ⟨_, rfl, ifF (by decide +kernel) (rd_vS rfl ⟨_, rfl, ifT (by decide +kernel) ?_⟩)⟩
      exact ⟨_, rfl, rd_ixT (j := 1) rfl hs rfl ⟨b, _, rfl, .inr hb, rfl, all_flat ns, q⟩⟩
    | rest m r =>
      obtain ⟨a, v0, v1, v2, rfl, hs, h0, h1, h2⟩ := hd.tup3
      cases h0
      cases h1
      cases h2
      refine rd_ixT (j := 0) rfl hs rfl ?_
      refine rd_vS rfl ⟨_, rfl, ifF (by decide +kernel) (rd_vS rfl ⟨_, rfl, ifF (by decide +kernel) (rd_vS rfl ⟨_, rfl, ifT (by decide +kernel) ?_⟩)⟩)⟩
      refine ⟨_, rfl, rd_ixT (j := 1) rfl hs rfl ⟨_, _, rfl, rfl, (by have := ht.1; omega), rd_ixT (j := 2) rfl hs rfl ⟨rfl, ?_⟩⟩⟩
      rw [dec_int]
      exact q
    | chance m r =>
      obtain ⟨a, v0, v1, v2, rfl, hs, h0, h1, h2⟩ := hd.tup3
      cases h0
      cases h1
      cases h2
      refine rd_ixT (j := 0) rfl hs rfl ?_
      refine rd_vS rfl ⟨_, rfl, ifF (by decide +kernel) (rd_vS rfl ⟨_, rfl, ifF (by decide +kernel) (rd_vS rfl ⟨_, rfl, ifF (by decide +kernel) ?_⟩)⟩)⟩
      refine rd_vS rfl ⟨_, rfl, ifF (by decide +kernel) ?_⟩
      refine ⟨_, rfl, _, _, rfl, rfl, .inl (by decide), _, rfl, _, _, rfl, rfl, .inl (by decide), _, _, rfl, rfl, ?_⟩
      refine rd_ixT (j := 1) rfl hs rfl ⟨_, _, rfl, rfl, (by have := ht.1; omega), rd_ixT (j := 2) rfl hs rfl ⟨rfl, ?_⟩⟩
      rw [dec_int]
      exact q
theorem sc_answer_by : FnScope ["answer", "question", "word"] ["answer", "question"] (defScope s_answer_by) := ⟨rfl, rfl, rfl, by decide +kernel, rfl, by decide +kernel, by decide +kernel⟩
def spAnswerBy (K : PySem.W.Frag) : Sp := fun vs H Q _ => ∃ v a q, vs = [v, .int q] ∧ Dp K H v (Ans.d a) ∧ a.ok ∧ Q (oV (answerBy a q)) H
theorem ok_answer_by {P : Program} {w : World} {K : PySem.W.Frag} {mg : Str → Option Value} {base : Heap} (T : Tx K mg) : Def P w K mg base CX0 1 "answer_by" ["answer", "question"] (spAnswerBy K) := by
  obtain ⟨fd, F⟩ := T.d_answer_by
  refine ⟨_, fd, F.ok sc_answer_by (fun vs H Q E h => ?_) (fun cdv A outer s H vs Q E hr h => ?_), F.bindsN fun _ _ _ _ _ _ us hl => match us, hl with | [_, _], _ => rfl, T.g_answer_by, F.kp⟩
  · obtain ⟨v, t, q, rfl, _⟩ := h
    rfl
  · obtain ⟨v, t, qu, rfl, hd, ht, q⟩ := h
    refine ⟨_, PSs.nox (pss_cons (ps_set (i := 2) sc_answer_by.nd rfl (by first | exact Or.inl rfl | exact Or.inr rfl) (pe_ix ix_tup (pv 0) pe_int (fun _ _ => rfl)))
        (pss_cons (ps_if (pt_cmpR op_eq (pv 2) pe_str (nomark _))
        (pss_one (ps_ret pe_non))
        pss_nil)
        (pss_cons (ps_if (pt_cmpR op_eq (pv 2) pe_str (nomark _))
        (pss_one (ps_ret (pe_ix ix_tup (pv 0) pe_int (fun _ _ => rfl))))
        pss_nil)
        (pss_cons (ps_if (pt_cmpR op_eq (pv 2) pe_str (nomark _))
        (pss_one (ps_ret (pe_op op_mod (pv 1) (pe_ix ix_tup (pv 0) pe_int (fun _ _ => rfl)))))
        pss_nil)
        (pss_one (ps_ret (pe_ifExp (pt_cmpR op_eq (pv 2) pe_str (nomark _)) (pe_op op_add (pv 1) (pe_ix ix_tup (pv 0) pe_int (fun _ _ => rfl))) (pe_op op_mul (pv 1) (pe_ix ix_tup (pv 0) pe_int (fun _ _ => rfl)))))))))), ?_⟩
    cases t with
    | none =>
      obtain ⟨a, v0, rfl, hs, h0⟩ := hd.tup1
      cases h0
      refine rd_ixT (j := 0) rfl hs rfl ?_
      exact rd_vS rfl ⟨_, rfl, ifT (by decide +kernel) q⟩
    | num n =>
      obtain ⟨a, v0, v1, rfl, hs, h0, h1⟩ := hd.tup2
      cases h0
      cases h1
      refine rd_ixT (j := 0) rfl hs rfl ?_
      refine rd_vS rfl ⟨_, rfl, ifF (by decide +kernel) (rd_vS rfl ⟨_, rfl, ifT (by decide +kernel) ?_⟩)⟩
      exact rd_ixT (j := 1) rfl hs rfl q
    | rest n =>
      obtain ⟨a, v0, v1, rfl, hs, h0, h1⟩ := hd.tup2
      cases h0
      cases h1
      refine rd_ixT (j := 0) rfl hs rfl ?_
      refine rd_vS rfl ⟨_, rfl, ifF (by decide +kernel) (rd_vS rfl ⟨_, rfl, ifF (by decide +kernel) (rd_vS rfl ⟨_, rfl, ifT (by decide +kernel) ?_⟩)⟩)⟩
      exact ⟨_, rfl, rd_ixT (j := 1) rfl hs rfl ⟨_, _, rfl, rfl, (by have := ht.1; omega), q⟩⟩
    | plus n =>
      obtain ⟨a, v0, v1, rfl, hs, h0, h1⟩ := hd.tup2
      cases h0
      cases h1
      refine rd_ixT (j := 0) rfl hs rfl ?_
      refine rd_vS rfl ⟨_, rfl, ifF (by decide +kernel) (rd_vS rfl ⟨_, rfl, ifF (by decide +kernel) (rd_vS rfl ⟨_, rfl, ifF (by decide +kernel) ?_⟩)⟩)⟩
      refine rd_vS rfl ⟨_, rfl, ifT (by decide +kernel) ?_⟩
      exact ⟨_, rfl, rd_ixT (j := 1) rfl hs rfl ⟨_, _, rfl, rfl, q⟩⟩
    | times n =>
      obtain ⟨a, v0, v1, rfl, hs, h0, h1⟩ := hd.tup2
      cases h0
      cases h1
      refine rd_ixT (j := 0) rfl hs rfl ?_
      refine rd_vS rfl ⟨_, rfl, ifF (by decide +kernel) (rd_vS rfl ⟨_, rfl, ifF (by decide +kernel) (rd_vS rfl ⟨_, rfl, ifF (by decide +kernel) ?_⟩)⟩)⟩
      refine rd_vS rfl ⟨_, rfl, ifF (by decide +kernel) ?_⟩
      exact ⟨_, rfl, rd_ixT (j := 1) rfl hs rfl ⟨_, _, rfl, rfl, .inr (by obtain ⟨h1, h2⟩ := ht; constructor <;> omega), q⟩⟩
theorem sc_asked : FnScope ["machine", "question", "seed", "test", "answer"] ["machine", "question", "seed"] (defScope s_asked) := ⟨rfl, rfl, rfl, by decide +kernel, rfl, by decide +kernel, by decide +kernel⟩
def spAsked (K : PySem.W.Frag) : Sp := fun vs H Q _ => ∃ v m q s, vs = [v, .int q, .int s] ∧ Dp K H v (machD m) ∧ (∀ r ∈ m, r.1.ok ∧ r.2.ok) ∧ Q (oV (askedM m q s)) H
theorem DpAll.drop {K : PySem.W.Frag} {H : Hp} : ∀ {vs : List V} {ds : List PyData} (n : Nat), DpAll K H vs ds → DpAll K H (vs.drop n) (ds.drop n)
  | _, _, 0, h => h
  | _, _, _ + 1, .nil => .nil
  | _, _, n + 1, .cons _ t => DpAll.drop n t
theorem ok_asked {P : Program} {w : World} {K : PySem.W.Frag} {mg : Str → Option Value} {base : Heap} (T : Tx K mg) : Def P w K mg base CX0 2 "asked" ["machine", "question", "seed"] (spAsked K) := by
  obtain ⟨fd, F⟩ := T.d_asked
  have G_holds_for := ok_holds_for (P := P) (w := w) (base := base) T
  have G_answer_by := ok_answer_by (P := P) (w := w) (base := base) T
  refine ⟨_, fd, F.ok sc_asked (fun vs H Q E h => ?_) (fun cdv A outer s H vs Q E hr h => ?_), F.bindsN fun _ _ _ _ _ _ us hl => match us, hl with | [_, _, _], _ => rfl, T.g_asked, F.kp⟩
  · obtain ⟨v, t, q, s, rfl, _⟩ := h
    rfl
  · obtain ⟨v, m, qu, sd, rfl, hd, hm, q⟩ := h
    refine ⟨_, PSs.nox (pss_cons (ps_for PassesOwn.never rfl (pi_tup (pv 0)) (pg_tup rfl (pgs_cons (pg_name (i := 3) sc_asked.nd rfl (by first | exact Or.inl rfl | exact Or.inr rfl)) (pgs_cons (pg_name (i := 4) sc_asked.nd rfl (by first | exact Or.inl rfl | exact Or.inr rfl)) pgs_nil)))
        (pss_one (ps_if (pt_val (pe_def G_holds_for (hr.mono (by omega)) pass0 (pa_cons (pv 3) (pa_cons (pv 1) (pa_cons (pv 2) pa_nil)))))
        (pss_one (ps_ret (pe_def G_answer_by (hr.mono (by omega)) pass0 (pa_cons (pv 4) (pa_cons (pv 1) pa_nil)))))
        pss_nil)))
        (pss_one (ps_ret pe_non))), ?_⟩
    obtain ⟨a, xs, rfl, hs, ha⟩ := hd.tupI
    have hl : xs.length = m.length := by rw [ha.len, List.length_map]
    refine ⟨_, rfl, a, rfl, ⟨xs, hs⟩, for_it (walk_tup (xs := xs)) (fun i σ' H' => ∃ y3 y4, σ' = [some (.ref a), some (.int qu), some (.int sd), y3, y4] ∧ H' = H ∧ askedM (m.drop i) qu sd = askedM m qu sd) ⟨none, none, rfl, rfl, rfl⟩ (fun i σ' H' _ hP => ?_) (fun i x σ' H2 H3 hi hP y => ?_) (fun σ' H' hP => ?_)⟩
    · obtain ⟨_, _, _, rfl, _⟩ := hP
      exact hs
    · obtain ⟨y3, y4, rfl, rfl, he⟩ := hP
      obtain ⟨rfl, hx⟩ := y
      obtain ⟨d, g1, g2⟩ := ha.get hx
      have him : i < m.length := by rw [← hl]; exact hi
      have gr : m[i]? = some m[i] := List.getElem?_eq_getElem him
      rw [List.getElem?_map, gr] at g1
      have e1 : rowD m[i] = d := Option.some.inj g1
      subst e1
      obtain ⟨b, w1, w2, rfl, hb, k1, k2⟩ := g2.tup2
      obtain ⟨o1, o2⟩ := hm m[i] (List.getElem_mem him)
      have ed : m.drop i = m[i] :: m.drop (i + 1) := List.drop_eq_getElem_cons him
      rw [ed] at he
      have he2 : (if holdsFor m[i].1 qu sd then answerBy m[i].2 qu else askedM (m.drop (i + 1)) qu sd) = askedM m qu sd := he
      refine ⟨b, _, rfl, hb, rfl, _, _, rfl, _, _, rfl, rfl, ?_⟩
      refine ⟨w1, rfl, _, rfl, _, rfl, w1, m[i].1, qu, sd, rfl, k1, o1, _, rfl, ifB (fun c => ?_) (fun c => ?_)⟩
      · rw [c] at he2
        refine ⟨w2, rfl, _, rfl, w2, m[i].2, qu, rfl, k2, o2, ?_⟩
        have he3 : answerBy m[i].2 qu = askedM m qu sd := he2
        rw [he3]
        exact q
      · rw [c] at he2
        exact ⟨_, _, rfl, rfl, he2⟩
    · obtain ⟨y3, y4, rfl, rfl, he⟩ := hP
      rw [hl, List.drop_length] at he
      have he2 : none = askedM m qu sd := he
      rw [← he2] at q
      exact q
end Mh
/-! MhDice -/
namespace Mh
open PySem PySem.Spec PyProof.Rows L2
/-! ### dice: what the law draws from -/
structure Dice where
  a : Int
  b : Int
  r : List Int
def Dice.l (s : Dice) : List V := .int s.a :: .int s.b :: s.r.map V.int
def Dice.pre (s : Dice) : Dice := match s.r with
  | x :: r => if s.b = 0 then ⟨s.a, x, r⟩ else s
  | [] => s
def Dice.nxt (s : Dice) : Int := (s.a * 48271 + 11) % 2147483647
def off (s : Dice) (n : Int) : Int × Dice := if 0 < s.pre.b then (s.pre.b % n, ⟨s.pre.a, s.pre.b / n, s.pre.r⟩) else (s.pre.nxt / 64 % n, ⟨s.pre.nxt, s.pre.b, s.pre.r⟩)
structure Dice.ok (s : Dice) : Prop where
  a0 : 0 ≤ s.a
  a1 : s.a < 2147483647
  len : s.r.length ≤ 63
theorem Dice.pre_ok {s : Dice} (h : s.ok) : s.pre.ok := by
  obtain ⟨a, b, r⟩ := s
  cases r with
  | nil => exact h
  | cons x r =>
    show (if b = 0 then (⟨a, x, r⟩ : Dice) else ⟨a, b, x :: r⟩).ok
    split
    · exact ⟨h.a0, h.a1, by have := h.len; simp at this; show r.length ≤ 63; omega⟩
    · exact h
theorem off_ok {s : Dice} (h : s.ok) (n : Int) : (off s n).2.ok := by
  have p := Dice.pre_ok h
  unfold off
  split
  · exact ⟨p.a0, p.a1, p.len⟩
  · exact ⟨Int.emod_nonneg _ (by decide), Int.emod_lt_of_pos _ (by decide), p.len⟩
theorem off_range (s : Dice) {n : Int} (hn : 0 < n) : 0 ≤ (off s n).1 ∧ (off s n).1 < n := by
  unfold off
  split
  · exact ⟨Int.emod_nonneg _ (by omega), Int.emod_lt_of_pos _ hn⟩
  · exact ⟨Int.emod_nonneg _ (by omega), Int.emod_lt_of_pos _ hn⟩
theorem upd_self {H : Hp} {a : Addr} {o : HO} (h : H a = some o) : upd H a o = H := by
  funext b
  unfold upd
  split
  · rename_i e
    rw [e, h]
  · rfl
/-- an item of a list of one's own at a written place -/
theorem rd_ixL {K : PySem.W.Frag} {σ : L2.St} {H : Hp} {Q : VK} {i j : Nat} {a : Addr} {xs : List V} {v : V} (hv : σ[i]? = some (some (.ref a))) (hs : SqL K H a xs) (hj : xs[j]? = some v) (q : Q v H) : tOp (rIxL K) (tVar i) (tC (.int (j : Int))) σ H Q :=
  ⟨_, hv, a, xs, (j : Int), v, rfl, rfl, hs, atI_nat hj, q⟩
/-- xs[j] = v -/
theorem rd_setL {σ : L2.St} {H : Hp} {Q : L2.St → Hp → Prop} {i j : Nat} {a : Addr} {xs : List V} {v : V} (hv : σ[i]? = some (some (.ref a))) (hs : H a = some (.lst xs)) (hj : j < xs.length) (q : Q σ (upd H a (.lst (xs.set j v)))) : gSub (tVar i) (tC (.int (j : Int))) L2.rSetL v σ H Q :=
  ⟨_, hv, a, xs, (j : Int), j, rfl, rfl, hs, (by
    have h2 : (j : Int) < (xs.length : Int) := by omega
    have h1 : (0 : Int) ≤ (j : Int) := by omega
    show (if 0 ≤ (j : Int) then (if (j : Int) < (xs.length : Int) then some (j : Int).toNat else none) else _) = some j
    rw [if_pos h1, if_pos h2]
    rfl), q⟩
theorem sc_l_off : FnScope ["_law_d", "_law_upto", "_law_found"] ["_law_d", "_law_upto"] (defScope s_l_off) := ⟨rfl, rfl, rfl, by decide +kernel, rfl, by decide +kernel, by decide +kernel⟩
def spOff (_K : PySem.W.Frag) : Sp := fun vs H Q _ => ∃ dd s n, vs = [.ref dd, .int n] ∧ H dd = some (.lst (Dice.l s)) ∧ s.ok ∧ 0 < n ∧ n < 1073741824 ∧ Q (.int (off s n).1) (upd H dd (.lst (off s n).2.l))
theorem dice_len (s : Dice) : s.l.length = s.r.length + 2 := by simp [Dice.l]
theorem ok_l_off {P : Program} {w : World} {K : PySem.W.Frag} {mg : Str → Option Value} {base : Heap} (T : Tx K mg) : Def P w K mg base CX0 1 "_law_off" ["_law_d", "_law_upto"] (spOff K) := by
  obtain ⟨fd, F⟩ := T.d_l_off
  refine ⟨_, fd, F.ok sc_l_off (fun vs H Q E h => ?_) (fun cdv A outer s H vs Q E hr h => ?_), F.bindsN fun _ _ _ _ _ _ us hl => match us, hl with | [_, _], _ => rfl, T.g_l_off, F.kp⟩
  · obtain ⟨d, s, n, rfl, _⟩ := h
    rfl
  · obtain ⟨dd, s, n, rfl, hd, hs, hn, hn2, q⟩ := h
    refine ⟨_, PSs.nox (Evl.pss_cut (ps_if (PW.pt (pw_and (pt_cmpR op_eq (pe_ix ix_list (pv 0) pe_int (fun _ _ => rfl)) pe_int (nomark _)) (pw_and1 (pt_cmpR op_gt (pe_callB call_len_seq (by rfl) T.f_len (by decide +kernel) (pa_cons (pv 0) pa_nil)) pe_int (nomark _)))))
        (pss_one (ps_asg (pe_bm PySem.F.plainAttrs_list PySem.F.slot_list_pop PySem.F.type_list_pop mt_popAt (pv 0) (pa_cons pe_int pa_nil)) (pg_sub (pv 0) pe_int set_list)))
        pss_nil)
        (pss_cons (ps_if (pt_cmpR op_gt (pe_ix ix_list (pv 0) pe_int (fun _ _ => rfl)) pe_int (nomark _))
        (pss_cons (ps_set (i := 2) sc_l_off.nd rfl (by first | exact Or.inl rfl | exact Or.inr rfl) (pe_op op_mod (pe_ix ix_list (pv 0) pe_int (fun _ _ => rfl)) (pv 1)))
        (pss_cons (ps_asg (pe_op op_fdiv (pe_ix ix_list (pv 0) pe_int (fun _ _ => rfl)) (pv 1)) (pg_sub (pv 0) pe_int set_list))
        (pss_one (ps_ret (pv 2)))))
        pss_nil)
        (pss_cons (ps_asg (pe_op op_mod (pe_op op_add (pe_op op_mul (pe_ix ix_list (pv 0) pe_int (fun _ _ => rfl)) pe_int) pe_int) pe_int) (pg_sub (pv 0) pe_int set_list))
        (pss_one (ps_ret (pe_op op_mod (pe_op op_fdiv (pe_ix ix_list (pv 0) pe_int (fun _ _ => rfl)) pe_int) (pv 1))))))), ?_⟩
    refine ⟨fun σ' H' => σ' = [some (.ref dd), some (.int n), none] ∧ H' = upd H dd (.lst s.pre.l), ?_, fun σ' H' hM => ?_⟩
    · refine rd_ixL (j := 1) rfl (SqL.of hd) rfl (rd_eqI ⟨_, rfl, ifB (fun c => ?_) (fun c => ?_)⟩)
      · have c' : s.b = 0 := by simpa using c
        refine ⟨_, rfl, dd, _, rfl, .inl (SqL.of hd), _, _, rfl, rfl, _, rfl, ifB (fun c2 => ?_) (fun c2 => ?_)⟩
        · have c2' : (2 : Int) < (s.l.length : Int) := of_decide_eq_true c2
          rw [dice_len] at c2'
          obtain ⟨a, b, r⟩ := s
          cases r with
          | nil => simp at c2'
          | cons x r =>
            have c' : b = 0 := c'
            subst c'
            refine ⟨_, rfl, .inl ⟨rfl, _, SqL.of hd⟩, dd, _, 2, 2, .int x, rfl, rfl, hd, by decide, by decide, ?_, rfl, ?_⟩
            · show seqIndex? 2 (List.length _) = some 2
              rw [show (Dice.l ⟨a, 0, x :: r⟩).length = r.length + 3 by simp [Dice.l]]
              obtain ⟨e, _⟩ := ixN_seq (n := r.length + 3) (i := 2) (j := 2) (by
                unfold ixN
                rw [if_pos (by decide), if_pos (by omega)]
                rfl)
              exact e
            · refine rd_setL (j := 1) rfl upd_same (by simp [Dice.l]) ⟨rfl, ?_⟩
              rw [upd_upd]
              rfl
        · have c2' : ¬ (2 : Int) < (s.l.length : Int) := of_decide_eq_false c2
          rw [dice_len] at c2'
          obtain ⟨a, b, r⟩ := s
          cases r with
          | nil => exact ⟨rfl, (upd_self hd).symm⟩
          | cons x r => exact absurd (show (2 : Int) < ((x :: r).length + 2 : Nat) by simp; omega) c2'
      · have c' : s.b ≠ 0 := by simpa using c
        refine ⟨rfl, ?_⟩
        have e : s.pre = s := by
          obtain ⟨a, b, r⟩ := s
          cases r with
          | nil => rfl
          | cons x r => exact if_neg c'
        rw [e, upd_self hd]
    · obtain ⟨rfl, rfl⟩ := hM
      have hp : upd H dd (.lst s.pre.l) dd = some (.lst s.pre.l) := upd_same
      have hpo := Dice.pre_ok hs
      refine rd_ixL (j := 1) rfl (SqL.of hp) rfl ⟨_, _, rfl, rfl, _, rfl, ifB (fun c => ?_) (fun c => ?_)⟩
      · have c' : 0 < s.pre.b := of_decide_eq_true c
        have e : off s n = (s.pre.b % n, ⟨s.pre.a, s.pre.b / n, s.pre.r⟩) := if_pos c'
        refine rd_ixL (j := 1) rfl (SqL.of hp) rfl ⟨_, rfl, _, _, rfl, rfl, hn, ?_⟩
        refine rd_ixL (j := 1) rfl (SqL.of hp) rfl ⟨_, rfl, _, _, rfl, rfl, ⟨hn, hn2⟩, ?_⟩
        refine rd_setL (j := 1) rfl hp (by rw [dice_len]; omega) ⟨_, rfl, ?_⟩
        rw [upd_upd]
        rw [e] at q
        exact q
      · have c' : ¬ 0 < s.pre.b := of_decide_eq_false c
        have e : off s n = (s.pre.nxt / 64 % n, ⟨s.pre.nxt, s.pre.b, s.pre.r⟩) := if_neg c'
        refine rd_ixL (j := 0) rfl (SqL.of hp) rfl ⟨_, _, rfl, rfl, .inr (by decide), _, _, rfl, rfl, _, _, rfl, rfl, (show (0 : Int) < 2147483647 by decide), ?_⟩
        refine rd_setL (j := 0) rfl hp (by rw [dice_len]; omega) ?_
        refine rd_ixL (j := 0) rfl (SqL.of upd_same) rfl ⟨_, _, rfl, rfl, ⟨by decide, by decide⟩, _, rfl, _, _, rfl, rfl, hn, ?_⟩
        rw [upd_upd]
        rw [e] at q
        exact q

/-- the dice of a script -/
def diceFold (k : Int) (ns : List Int) : Int := ns.foldl (fun f c => (f * 31 + (if c < 0 then -c else c)) % 2147483647) k
def diceOf (k : Int) (ns : List Int) : Dice := ⟨diceFold k ns, 0, ns.filter fun c => decide ((10 : Int) ^ 18 ≤ c)⟩
theorem diceFold_range {k : Int} (hk : 0 ≤ k ∧ k < 2147483647) : ∀ ns : List Int, 0 ≤ diceFold k ns ∧ diceFold k ns < 2147483647 := fun ns => by
  unfold diceFold
  induction ns generalizing k with
  | nil => exact hk
  | cons c ns ih => exact ih ⟨Int.emod_nonneg _ (by decide), Int.emod_lt_of_pos _ (by decide)⟩
theorem diceOf_ok {k : Int} (hk : 0 ≤ k ∧ k < 2147483647) {ns : List Int} (hl : ns.length ≤ 63) : (diceOf k ns).ok :=
  ⟨(diceFold_range hk ns).1, (diceFold_range hk ns).2, Nat.le_trans (List.length_filter_le _ _) hl⟩
theorem diceFold_take {k : Int} {ns : List Int} {i : Nat} {x : Int} (h : ns[i]? = some x) : diceFold k (ns.take (i + 1)) = (diceFold k (ns.take i) * 31 + (if x < 0 then -x else x)) % 2147483647 := by
  unfold diceFold
  rw [List.take_add_one, h, List.foldl_append]
  rfl
theorem sc_l_dice : FnScope ["_law_script", "_law_k", "_law_found", "_law_cell"] ["_law_script", "_law_k"] (defScope s_l_dice) := ⟨rfl, rfl, rfl, by decide +kernel, rfl, by decide +kernel, by decide +kernel⟩
def spDice (K : PySem.W.Frag) : Sp := fun vs H Q _ => ∃ a ns k, vs = [.ref a, .int k] ∧ SqL K H a (ns.map V.int) ∧ ns.length ≤ 63 ∧ (0 ≤ k ∧ k < 2147483647) ∧ ∀ H' p, Fx [] H H' → H p = none → H' p = some (.lst (diceOf k ns).l) → Q (.ref p) H'
theorem ok_l_dice {P : Program} {w : World} {K : PySem.W.Frag} {mg : Str → Option Value} {base : Heap} (T : Tx K mg) : Def P w K mg base CX0 1 "_law_dice" ["_law_script", "_law_k"] (spDice K) := by
  obtain ⟨fd, F⟩ := T.d_l_dice
  refine ⟨_, fd, F.ok sc_l_dice (fun vs H Q E h => ?_) (fun cdv A outer s H vs Q E hr h => ?_), F.bindsN fun _ _ _ _ _ _ us hl => match us, hl with | [_, _], _ => rfl, T.g_l_dice, F.kp⟩
  · obtain ⟨a, ns, k, rfl, _⟩ := h
    rfl
  · obtain ⟨a, ns, k, rfl, hS, hlen, hk, q⟩ := h
    refine ⟨_, PSs.nox (pss_cons (ps_set (i := 2) sc_l_dice.nd rfl (by first | exact Or.inl rfl | exact Or.inr rfl) (pv 1))
        (pss_cons (ps_for PassesOwn.never rfl (pi_list (pv 0)) (pg_name (i := 3) sc_l_dice.nd rfl (by first | exact Or.inl rfl | exact Or.inr rfl))
        (pss_one (ps_set (i := 2) sc_l_dice.nd rfl (by first | exact Or.inl rfl | exact Or.inr rfl) (pe_op op_mod (pe_op op_add (pe_op op_mul (pv 2) pe_int) (pe_callB call_abs (by rfl) T.f_abs (by decide +kernel) (pa_cons (pv 3) pa_nil))) pe_int))))
        (pss_one (ps_ret (pe_op op_cat (pe_lst (pa_cons (pv 2) (pa_cons pe_int pa_nil))) (pe_lc (own := [("_law_cell", 3)]) (g := (gName 3)) (tt := _) rfl sc_l_dice.nd (pi_list (pv 0)) (blkOk_by (own := [("_law_cell", 3)]) (N := ["_law_script", "_law_k", "_law_found", "_law_cell"]) (sc := defScope s_l_dice) (by decide +kernel)) (fun _ _ _ _ _ => pg_name (i := 3) sc_l_dice.nd rfl (Or.inl rfl)) (fun _ _ _ _ _ => pts_one (pt_cmpR op_ge (pv 3) (pe_op op_pow pe_int pe_int) (nomark _))) (fun _ _ _ _ _ => (pv 3)))))))), ?_⟩
    refine ⟨_, rfl, _, rfl, a, rfl, ⟨_, hS⟩, for_it (walk_list (xs := ns.map V.int)) (fun i σ' H' => ∃ y3, σ' = [some (.ref a), some (.int k), some (.int (diceFold k (ns.take i))), y3] ∧ H' = H) ⟨none, rfl, rfl⟩ (fun i σ' H' _ ⟨_, _, e⟩ => by rw [e]; exact hS) (fun i x σ' H2 H3 hi hP y => ?_) (fun σ' H' hP => ?_)⟩
    · obtain ⟨y3, rfl, rfl⟩ := hP
      obtain ⟨rfl, hx⟩ := y
      rw [List.getElem?_map] at hx
      obtain ⟨c, hc, rfl⟩ := Option.map_eq_some_iff.mp hx
      have hr := diceFold_range hk (ns.take i)
      refine ⟨_, rfl, _, _, rfl, rfl, .inl ⟨by omega, by omega⟩, _, rfl, _, rfl, _, _, rfl, rfl, _, _, rfl, rfl, (show (0 : Int) < 2147483647 by decide), ?_⟩
      exact ⟨_, by rw [diceFold_take hc]; rfl, rfl⟩
    · obtain ⟨y3, rfl, rfl⟩ := hP
      rw [List.length_map, List.take_length]
      refine ⟨_, rfl, by show 2 ≤ sizeLine; decide, fun p hp => ?_⟩
      have f1 : Fx [] H' (upd H' p (.lst [.int (diceFold k ns), .int 0])) := Fx.new hp
      refine ⟨_, rfl, a, rfl, ⟨_, f1.sqL hS fun m => nomatch m⟩, fun D hD => lc_rel (walk_list (xs := ns.map V.int)) (fun i acc H2 => Fx [] (upd H' p (.lst [.int (diceFold k ns), .int 0])) H2 ∧ acc = ((ns.take i).filter fun c => decide ((10 : Int) ^ 18 ≤ c)).map V.int) ⟨Fx.new hD, rfl⟩ (fun i acc H2 r => r.1.sqL (f1.sqL hS fun m => nomatch m) fun m => nomatch m) (fun i acc x H2 H3 hi hl hDa r y => ?_) (fun acc H2 hl hDa r => ?_)⟩
      · obtain ⟨rfl, hx⟩ := y
        rw [List.getElem?_map] at hx
        obtain ⟨c, hc, rfl⟩ := Option.map_eq_some_iff.mp hx
        obtain ⟨f2, rfl⟩ := r
        refine ⟨rfl, _, rfl, _, _, rfl, rfl, ⟨by decide, by decide, by decide⟩, _, _, rfl, rfl, _, rfl, ifB (fun c2 => ?_) (fun c2 => ?_)⟩
        · refine ⟨_, rfl, Put.ok hl (by rw [List.length_map] at hi; omega) hDa ⟨f2.loc hD (Chg.lst hDa), ?_⟩⟩
          have c3 : decide ((10 : Int) ^ 18 ≤ c) = true := c2
          have e : [c].filter (fun c => decide ((10 : Int) ^ 18 ≤ c)) = [c] := List.filter_cons_of_pos (p := fun c => decide ((10 : Int) ^ 18 ≤ c)) (l := []) c3
          rw [List.take_add_one, hc, List.filter_append, List.map_append, show (some c).toList = [c] from rfl, e]
          rfl
        · refine Pvl.skip hl hDa ⟨f2, ?_⟩
          have c3 : ¬ decide ((10 : Int) ^ 18 ≤ c) = true := by
            have : decide ((10 : Int) ^ 18 ≤ c) = false := c2
            rw [this]
            decide
          have e : [c].filter (fun c => decide ((10 : Int) ^ 18 ≤ c)) = [] := List.filter_cons_of_neg (p := fun c => decide ((10 : Int) ^ 18 ≤ c)) (l := []) c3
          rw [List.take_add_one, hc, List.filter_append, show (some c).toList = [c] from rfl, e, List.append_nil]
      · obtain ⟨f2, rfl⟩ := r
        have hp2 := f2.to (upd_same (H := H') (a := p) (o := .lst [.int (diceFold k ns), .int 0])) fun m => nomatch m
        rw [List.length_map, List.take_length] at hDa
        refine ⟨p, D, _, _, rfl, rfl, hp2, hDa, ?_, fun l hl2 => ?_⟩
        · have := List.length_filter_le (fun c => decide ((10 : Int) ^ 18 ≤ c)) ns
          rw [List.length_map]
          refine sz2 ?_
          show 2 + _ ≤ 1000
          omega
        · have f3 := (f1.trans f2).trans (Fx.new (M := []) (o := HO.lst ([V.int (diceFold k ns), V.int 0] ++ ((ns.filter fun c => decide ((10 : Int) ^ 18 ≤ c)).map V.int))) hl2)
          exact q _ l f3 ((f1.trans f2).free hl2) upd_same
end Mh
/-! MhGen -/
namespace Mh
open PySem PySem.Spec PyProof.Rows L2
/-- since H0 the dice at dd alone changed; they stand at s -/
structure Dc (dd : Addr) (H0 H : Hp) (s : Dice) : Prop where
  f : Fx [dd] H0 H
  h : H dd = some (.lst s.l)
  ok : s.ok
section
variable {K : PySem.W.Frag} {dd : Addr} {H0 H H' : Hp} {s : Dice} {σ : L2.St} {Q : VK} {i : Nat}
theorem Dc.mv (D : Dc dd H0 H s) (f : Fx [] H H') : Dc dd H0 H' s := ⟨D.f.trans f.nil, f.to D.h (fun m => nomatch m), D.ok⟩
theorem Dc.new {p : Addr} {o : HO} (D : Dc dd H0 H s) (h : H p = none) : Dc dd H0 (upd H p o) s := D.mv (Fx.new h)
theorem Dc.ne {p : Addr} (D : Dc dd H0 H s) (h : H p = none) : p ≠ dd := (ne_of_none D.h h).symm
theorem Dc.go {s' : Dice} (D : Dc dd H0 H s) (E : Dc dd H H' s') : Dc dd H0 H' s' := ⟨D.f.trans E.f, E.h, E.ok⟩
/-- an object of one's own, new since H0, changed -/
theorem Dc.set {p : Addr} {o : HO} (D : Dc dd H0 H s) (h : H0 p = none) (hn : p ≠ dd) (c : Chg H p) : Dc dd H0 (upd H p o) s := ⟨D.f.loc h c, by rw [upd_ne (Ne.symm hn)]; exact D.h, D.ok⟩
theorem rd_off {n : Int} (hv : σ[i]? = some (some (.ref dd))) (D : Dc dd H0 H s) (hn : 0 < n ∧ n < 1073741824) (q : ∀ H', Dc dd H0 H' (off s n).2 → Fx [dd] H H' → Q (.int (off s n).1) H') :
    tCall (spOff K) [] E0 (tCons (tVar i) (tCons (tC (.int n)) tNil)) σ H Q := by
  refine ⟨.ref dd, hv, dd, s, n, rfl, D.h, D.ok, hn.1, hn.2, ?_⟩
  have f : Fx [dd] H (upd H dd (.lst (off s n).2.l)) := Fx.set List.mem_cons_self (Chg.lst D.h)
  exact q _ ⟨D.f.trans f, upd_same, off_ok D.ok n⟩ f
/-- of two the k-th -/
theorem rd_at2 {p : Addr} {x y : V} {k : Int} (h : H p = some (.lst [x, y])) (hk : 0 ≤ k ∧ k < 2) (q : Q (if k = 0 then x else y) H) : rIxL K (.ref p) (.int k) H Q := by
  rcases (show k = 0 ∨ k = 1 by omega) with rfl | rfl
  · exact ⟨p, _, 0, x, rfl, rfl, SqL.of h, atI_nat (j := 0) rfl, q⟩
  · exact ⟨p, _, 1, y, rfl, rfl, SqL.of h, atI_nat (j := 1) rfl, q⟩
end
/-- a turn of a state again and again -/
def drawN {α : Type} (f : Dice → α × Dice) : Nat → Dice → List α × Dice
  | 0, s => ([], s)
  | n + 1, s => ((drawN f n s).1 ++ [(f (drawN f n s).2).1], (f (drawN f n s).2).2)
theorem drawN_len {α : Type} (f : Dice → α × Dice) : ∀ (n : Nat) (s : Dice), (drawN f n s).1.length = n
  | 0, _ => rfl
  | n + 1, s => by
    show ((drawN f n s).1 ++ [_]).length = n + 1
    rw [List.length_append, drawN_len f n s]
    rfl
theorem drawN_ok {α : Type} {f : Dice → α × Dice} (h : ∀ s, s.ok → (f s).2.ok) : ∀ (n : Nat) {s : Dice}, s.ok → (drawN f n s).2.ok
  | 0, _, o => o
  | n + 1, _, o => h _ (drawN_ok h n o)
theorem drawN_all {α : Type} {f : Dice → α × Dice} {P : α → Prop} (hf : ∀ s, s.ok → (f s).2.ok) (h : ∀ s, s.ok → P (f s).1) : ∀ (n : Nat) {s : Dice}, s.ok → ∀ x ∈ (drawN f n s).1, P x
  | 0, _, _, x, m => nomatch m
  | n + 1, s, o, x, m => by
    rcases List.mem_append.mp (show x ∈ (drawN f n s).1 ++ [_] from m) with m | m
    · exact drawN_all hf h n o x m
    · rw [List.mem_singleton.mp m]
      exact h _ (drawN_ok hf n o)
/-! ### the members of a list, rising -/
def insS (x : Int) : List Int → List Int
  | [] => [x]
  | y :: r => if x < y then x :: y :: r else if x = y then y :: r else y :: insS x r
def sset (xs : List Int) : List Int := xs.foldr insS []
theorem mem_insS (x k : Int) : ∀ l : List Int, k ∈ insS x l ↔ k = x ∨ k ∈ l
  | [] => by simp [insS]
  | y :: r => by
    unfold insS
    split
    · simp
    · split
      · rename_i e
        subst e
        simp
      · rw [List.mem_cons, mem_insS x k r, List.mem_cons]
        constructor
        · rintro (h | h | h) <;> simp [h]
        · rintro (h | h | h) <;> simp [h]
theorem insS_up (x : Int) : ∀ {l : List Int}, l.Pairwise (· < ·) → (insS x l).Pairwise (· < ·)
  | [], _ => by simp [insS]
  | y :: r, h => by
    obtain ⟨h1, h2⟩ := List.pairwise_cons.mp h
    unfold insS
    split
    · rename_i c
      refine List.pairwise_cons.mpr ⟨fun z hz => ?_, h⟩
      rcases List.mem_cons.mp hz with e | e
      · omega
      · have := h1 z e
        omega
    · split
      · exact h
      · refine List.pairwise_cons.mpr ⟨fun z hz => ?_, insS_up x h2⟩
        rcases (mem_insS x z r).mp hz with e | e
        · omega
        · exact h1 z e
theorem mem_sset (k : Int) : ∀ l : List Int, k ∈ sset l ↔ k ∈ l
  | [] => by simp [sset]
  | y :: r => by
    show k ∈ insS y (sset r) ↔ _
    rw [mem_insS, mem_sset k r, List.mem_cons]
theorem sset_up : ∀ l : List Int, (sset l).Pairwise (· < ·)
  | [] => .nil
  | y :: r => insS_up y (sset_up r)
theorem up_unique : ∀ {a b : List Int}, a.Pairwise (· < ·) → b.Pairwise (· < ·) → (∀ k, k ∈ a ↔ k ∈ b) → a = b
  | [], [], _, _, _ => rfl
  | [], y :: r, _, _, h => absurd ((h y).mpr List.mem_cons_self) (by simp)
  | x :: r, [], _, _, h => absurd ((h x).mp List.mem_cons_self) (by simp)
  | x :: a, y :: b, h1, h2, h => by
    obtain ⟨p1, p2⟩ := List.pairwise_cons.mp h1
    obtain ⟨q1, q2⟩ := List.pairwise_cons.mp h2
    have e : x = y := by
      rcases List.mem_cons.mp ((h x).mp List.mem_cons_self) with e | e
      · exact e
      · rcases List.mem_cons.mp ((h y).mpr List.mem_cons_self) with e2 | e2
        · exact e2.symm
        · have := q1 x e
          have := p1 y e2
          omega
    subst e
    refine congrArg _ (up_unique p2 q2 fun k => ?_)
    constructor
    · intro m
      rcases List.mem_cons.mp ((h k).mp (List.mem_cons_of_mem _ m)) with e | e
      · have := p1 k m
        omega
      · exact e
    · intro m
      rcases List.mem_cons.mp ((h k).mpr (List.mem_cons_of_mem _ m)) with e | e
      · have := q1 k m
        omega
      · exact e
theorem rising_of : ∀ {l : List Int}, l.Pairwise (· < ·) → rising l = true
  | [], _ => rfl
  | [_], _ => rfl
  | x :: y :: r, h => by
    obtain ⟨h1, h2⟩ := List.pairwise_cons.mp h
    show (decide (x < y) && rising (y :: r)) = true
    rw [rising_of h2, decide_eq_true (h1 y List.mem_cons_self)]
    rfl
theorem insS_len (x : Int) : ∀ l : List Int, (insS x l).length ≤ l.length + 1 ∧ 1 ≤ (insS x l).length
  | [] => ⟨Nat.le_refl _, Nat.le_refl _⟩
  | y :: r => by
    unfold insS
    split
    · simp
    · split
      · simp
      · have := insS_len x r
        simp
        omega
theorem sset_len : ∀ l : List Int, (sset l).length ≤ l.length ∧ (l ≠ [] → 1 ≤ (sset l).length)
  | [] => ⟨Nat.le_refl _, fun h => absurd rfl h⟩
  | y :: r => by
    have h1 := insS_len y (sset r)
    have h2 := sset_len r
    exact ⟨by show (insS y (sset r)).length ≤ _; simp; omega, fun _ => h1.2⟩
/-! ### a drawn test, answer, machine -/
def pick2 (s : Dice) (a b : Int) : Int × Dice := (if (off (off (off s a).2 b).2 2).1 = 0 then (off s a).1 else (off (off s a).2 b).1, (off (off (off s a).2 b).2 2).2)
/-- off(d, [a, b][off(d, 2)]) -/
def offOf (s : Dice) (a b : Int) : Int × Dice := off (off s 2).2 (if (off s 2).1 = 0 then a else b)
def gTest (s : Dice) : Tst × Dice :=
  if (off s 6).1 = 0 then (.below (pick2 (off s 6).2 12 10000).1, (pick2 (off s 6).2 12 10000).2)
  else if (off s 6).1 < 3 then
    (if (off s 6).1 = 1 then .rest (2 + (offOf (off s 6).2 3 98).1) (off (offOf (off s 6).2 3 98).2 (2 + (offOf (off s 6).2 3 98).1)).1 else .chance (2 + (offOf (off s 6).2 3 98).1) (off (offOf (off s 6).2 3 98).2 (2 + (offOf (off s 6).2 3 98).1)).1,
      (off (offOf (off s 6).2 3 98).2 (2 + (offOf (off s 6).2 3 98).1)).2)
  else if (off s 6).1 = 3 then
    (.known (sset (drawN (fun s => off s 12) (1 + (off (off s 6).2 8).1).toNat (off (off s 6).2 8).2).1), (drawN (fun s => off s 12) (1 + (off (off s 6).2 8).1).toNat (off (off s 6).2 8).2).2)
  else (if (off s 6).1 = 4 then .any else .chance 2 (off (off s 6).2 2).1, (off (off s 6).2 2).2)
theorem pick2_ok {s : Dice} (h : s.ok) (a b : Int) : (pick2 s a b).2.ok := off_ok (off_ok (off_ok h a) b) 2
theorem offOf_ok {s : Dice} (h : s.ok) (a b : Int) : (offOf s a b).2.ok := off_ok (off_ok h 2) _
theorem offOf_range (s : Dice) {a b : Int} (ha : 0 < a) (hb : 0 < b) : 0 ≤ (offOf s a b).1 ∧ ((offOf s a b).1 < a ∨ (offOf s a b).1 < b) := by
  unfold offOf
  split
  · have := off_range (off s 2).2 ha
    omega
  · have := off_range (off s 2).2 hb
    omega
theorem pick2_range (s : Dice) {a b : Int} (ha : 0 < a) (hb : 0 < b) : 0 ≤ (pick2 s a b).1 ∧ ((pick2 s a b).1 < a ∨ (pick2 s a b).1 < b) := by
  have h1 := off_range s ha
  have h2 := off_range (off s a).2 hb
  show 0 ≤ (if (off (off (off s a).2 b).2 2).1 = 0 then (off s a).1 else (off (off s a).2 b).1) ∧ _
  unfold pick2
  dsimp only
  split <;> omega
theorem gTest_dice {s : Dice} (h : s.ok) : (gTest s).2.ok := by
  unfold gTest
  split
  · exact pick2_ok (off_ok h 6) _ _
  · split
    · exact off_ok (offOf_ok (off_ok h 6) _ _) _
    · split
      · exact drawN_ok (fun s o => off_ok o 12) _ (off_ok (off_ok h 6) 8)
      · exact off_ok (off_ok h 6) 2
theorem gTest_ok {s : Dice} (h : s.ok) : (gTest s).1.ok := by
  have r6 := off_range s (n := 6) (by decide)
  unfold gTest
  split
  · have := pick2_range (off s 6).2 (a := 12) (b := 10000) (by decide) (by decide)
    show _ ∧ _
    omega
  · split
    · have r := offOf_range (off s 6).2 (a := 3) (b := 98) (by decide) (by decide)
      have r2 := off_range (offOf (off s 6).2 3 98).2 (n := 2 + (offOf (off s 6).2 3 98).1) (by omega)
      dsimp only
      split
      · exact ⟨by omega, by omega, r2.1, r2.2⟩
      · exact ⟨by omega, by omega, r2.1, r2.2⟩
    · split
      · have r := off_range (off s 6).2 (n := 8) (by decide)
        have l := drawN_len (fun s => off s 12) (1 + (off (off s 6).2 8).1).toNat (off (off s 6).2 8).2
        have sl := sset_len (drawN (fun s => off s 12) (1 + (off (off s 6).2 8).1).toNat (off (off s 6).2 8).2).1
        refine ⟨sl.2 fun z => ?_, by omega, fun k hk => ?_, rising_of (sset_up _)⟩
        · rw [z] at l
          have : (0 : Nat) = (1 + (off (off s 6).2 8).1).toNat := l
          omega
        · have a := drawN_all (P := fun x => 0 ≤ x ∧ x < 12) (f := fun s => off s 12) (fun s o => off_ok o 12) (fun s _ => off_range s (by decide)) _ (off_ok (off_ok h 6) 8) k ((mem_sset k _).mp hk)
          omega
      · dsimp only
        split
        · trivial
        · have r2 := off_range (off s 6).2 (n := 2) (by decide)
          exact ⟨by decide, by decide, r2.1, r2.2⟩
end Mh
/-! MhGenB -/
namespace Mh
open PySem PySem.Spec PyProof.Rows L2
section
variable {K : PySem.W.Frag} {dd : Addr} {H0 H H' : Hp} {s : Dice} {σ : L2.St} {Q : VK} {E : XK} {i : Nat}
theorem off_sp {n : Int} (D : Dc dd H0 H s) (hn : 0 < n ∧ n < 1073741824) (q : ∀ H', Dc dd H0 H' (off s n).2 → Fx [dd] H H' → Q (.int (off s n).1) H') : spOff K [.ref dd, .int n] H Q E := by
  refine ⟨dd, s, n, rfl, D.h, D.ok, hn.1, hn.2, ?_⟩
  have f : Fx [dd] H (upd H dd (.lst (off s n).2.l)) := Fx.set List.mem_cons_self (Chg.lst D.h)
  exact q _ ⟨D.f.trans f, upd_same, off_ok D.ok n⟩ f
theorem rd_offV {n : Int} {j : Nat} (hv : σ[i]? = some (some (.ref dd))) (hw : σ[j]? = some (some (.int n))) (D : Dc dd H0 H s) (hn : 0 < n ∧ n < 1073741824) (q : ∀ H', Dc dd H0 H' (off s n).2 → Fx [dd] H H' → Q (.int (off s n).1) H') :
    tCall (spOff K) [] E0 (tCons (tVar i) (tCons (tVar j) tNil)) σ H Q := ⟨.ref dd, hv, .int n, hw, off_sp (K := K) (E := E0) D hn q⟩
theorem rd_yes {A B : Hp → Prop} (h : A H) : tYes σ H fun b H3 => if b = true then A H3 else B H3 := by
  show if true = true then A H else B H
  rw [if_pos rfl]
  exact h
theorem rd_at2I {p : Addr} {a b : Int} {k : Int} (h : H p = some (.lst [.int a, .int b])) (hk : 0 ≤ k ∧ k < 2) (q : Q (.int (if k = 0 then a else b)) H) : rIxL K (.ref p) (.int k) H Q := by
  refine rd_at2 h hk ?_
  split
  · rename_i e
    rw [if_pos e] at q
    exact q
  · rename_i e
    rw [if_neg e] at q
    exact q
/-- [off(d, a), off(d, b)][off(d, 2)] -/
theorem rd_pick2 {a b : Int} (hv : σ[i]? = some (some (.ref dd))) (D : Dc dd H0 H s) (ha : 0 < a ∧ a < 1073741824) (hb : 0 < b ∧ b < 1073741824) (q : ∀ H', Dc dd H0 H' (pick2 s a b).2 → Fx [dd] H H' → Q (.int (pick2 s a b).1) H') :
    tOp (rIxL K) (tLst (tCons (tCall (spOff K) [] E0 (tCons (tVar i) (tCons (tC (.int a)) tNil))) (tCons (tCall (spOff K) [] E0 (tCons (tVar i) (tCons (tC (.int b)) tNil))) tNil))) (tCall (spOff K) [] E0 (tCons (tVar i) (tCons (tC (.int 2)) tNil))) σ H Q := by
  refine rd_off hv D ha fun H1 D1 f1 => rd_off hv D1 hb fun H2 D2 f2 => ⟨by show 2 ≤ sizeLine; decide, fun p hp => ?_⟩
  refine rd_off hv (D2.new hp) ⟨by decide, by decide⟩ fun H3 D3 f3 => ?_
  have f : Fx [dd] H H3 := ((f1.trans f2).trans (Fx.new hp)).trans f3
  exact rd_at2I (f3.to upd_same fun m => D2.ne hp (List.mem_singleton.mp m)) (off_range _ (by decide)) (q H3 D3 f)
/-- off(d, [a, b][off(d, 2)]) -/
theorem rd_offOf {a b : Int} (hv : σ[i]? = some (some (.ref dd))) (D : Dc dd H0 H s) (ha : 0 < a ∧ a < 1073741824) (hb : 0 < b ∧ b < 1073741824) (q : ∀ H', Dc dd H0 H' (offOf s a b).2 → Fx [dd] H H' → Q (.int (offOf s a b).1) H') :
    tCall (spOff K) [] E0 (tCons (tVar i) (tCons (tOp (rIxL K) (tLst (tCons (tC (.int a)) (tCons (tC (.int b)) tNil))) (tCall (spOff K) [] E0 (tCons (tVar i) (tCons (tC (.int 2)) tNil)))) tNil)) σ H Q := by
  refine ⟨.ref dd, hv, ⟨by show 2 ≤ sizeLine; decide, fun p hp => ?_⟩⟩
  refine rd_off hv (D.new hp) ⟨by decide, by decide⟩ fun H3 D3 f3 => ?_
  refine rd_at2I (f3.to upd_same fun m => D.ne hp (List.mem_singleton.mp m)) (off_range _ (by decide)) (off_sp (K := K) (E := E0) D3 ?_ fun H4 D4 f4 => q H4 D4 (((Fx.new hp).trans f3).trans f4))
  split
  · exact ha
  · exact hb
end
theorem Dp.ints {K : PySem.W.Frag} {H : Hp} : ∀ ns : List Int, DpAll K H (ns.map V.int) (ns.map .int)
  | [] => .nil
  | n :: ns => .cons (.int n) (Dp.ints ns)
theorem rd_tup {σ : L2.St} {H : Hp} {Q : VK} {xs : List V} {n : Nat} (h : xs.length ≤ n) (hn : n ≤ 1000) (q : ∀ p, H p = none → Q (.ref p) (upd H p (.tup xs))) : xs.length ≤ sizeLine ∧ ∀ p, H p = none → Q (.ref p) (upd H p (.tup xs)) := ⟨sz2 (Nat.le_trans h hn), q⟩
theorem floor_rest (w m : Int) (hm : 0 < m) : w - w / m * m = w % m := by
  have := Int.mul_ediv_add_emod w m
  rw [Int.mul_comm] at this
  omega
theorem DpAll.two {K : PySem.W.Frag} {H : Hp} {xs : List V} {d1 d2 : PyData} (h : DpAll K H xs [d1, d2]) : ∃ v1 v2, xs = [v1, v2] ∧ Dp K H v1 d1 ∧ Dp K H v2 d2 := by
  cases h with | cons h1 t => cases t with | cons h2 t => cases t; exact ⟨_, _, rfl, h1, h2⟩
theorem ltL {n m : Nat} (h : n = m) (hm : m ≤ 1000) : n < sizeLine := Nat.lt_of_le_of_lt (h ▸ hm) (by decide)
abbrev kS (z : Str) : Key := .inr z
theorem shaped_ints (ns : List Int) : SeqAt.shaped (.list (ns.map .int)) = true := by
  obtain ⟨h1, h2⟩ := lay_ints ns
  show (PyData.canLay0 (.list (ns.map .int)) && decide (PyData.depth (.list (ns.map .int)) ≤ 64)) = true
  rw [Bool.and_eq_true_iff]
  refine ⟨by simp only [PyData.canLay0]; exact h1, decide_eq_true ?_⟩
  simp only [PyData.depth]
  omega
theorem Dp.lsti {K : PySem.W.Frag} {H : Hp} {a : Addr} {ns : List Int} (h : H a = some (.lst (ns.map V.int))) : Dp K H (.ref a) (.list (ns.map .int)) := .lst (SqL.of h) (Dp.ints ns)
theorem ne_nilL (K : PySem.W.Frag) {H : Hp} {Q : VK} {a b : Addr} {ns : List Int} (h : H a = some (.lst (ns.map V.int))) (hb : H b = some (.lst [])) (q : Q (.bl (!ns.isEmpty)) H) : rNeD K (.ref a) (.ref b) H Q := by
  refine ⟨_, .list [], Dp.lsti h, .lst (SqL.of hb) .nil, shaped_ints ns, by decide +kernel, ?_⟩
  have e : (!PyData.eqv (.list (ns.map .int)) (.list [])) = !ns.isEmpty := by
    cases ns with
    | nil => simp [PyData.eqv, PyData.eqvAll]
    | cons n ns => simp [PyData.eqv, PyData.eqvAll]
  rw [e]
  exact q
end Mh
/-! MhTskD -/
namespace Mh
open PySem PySem.Spec PyProof.Rows L2
/-! ### good tasks -/
structure Qst where
  x : Int
  due : Int
  twin : Option (Int × Int)
def twinD : Option (Int × Int) → PyData
  | none => .none
  | some (y, e) => .tuple [.int y, .int e]
def Qst.d (r : Qst) : PyData := .tuple [.int r.x, .int r.due, twinD r.twin]
structure Qst.ok (r : Qst) : Prop where
  x : 0 ≤ r.x ∧ r.x ≤ 9999
  due : -99999999 ≤ r.due ∧ r.due ≤ 99999999
  twin : ∀ p, r.twin = some p → (0 ≤ p.1 ∧ p.1 ≤ 9999) ∧ -99999999 ≤ p.2 ∧ p.2 ≤ 99999999
structure Tsk where
  rows : List Qst
  w : Int
structure Tsk.ok (t : Tsk) : Prop where
  ne : t.rows ≠ []
  len : t.rows.length ≤ 16
  rows : ∀ r ∈ t.rows, r.ok
  nd : (t.rows.map Qst.x).Nodup
  w : 1 ≤ t.w ∧ t.w ≤ 9
def taskD (t : Tsk) : PyData := .tuple [.tuple (t.rows.map Qst.d), .int t.w]
theorem twin_nol (o : Option (Int × Int)) : nol (twinD o) = true := by
  cases o with
  | none => rfl
  | some p => rfl
theorem qst_nol (r : Qst) : nol r.d = true := by
  show (true && (true && (nol (twinD r.twin) && true))) = true
  rw [twin_nol]
  rfl
theorem qsts_nol : ∀ rs : List Qst, nolA (rs.map Qst.d) = true
  | [] => rfl
  | r :: rs => by
    show (nol r.d && nolA (rs.map Qst.d)) = true
    rw [qst_nol, qsts_nol rs]
    rfl
theorem task_nol (t : Tsk) : nol (taskD t) = true := by
  show (nolA (t.rows.map Qst.d) && (true && true)) = true
  rw [qsts_nol]
  rfl
/-! ### what a machine answers is not too great -/
theorem answer_small {a : Ans} {q n : Int} (h : a.ok) (hq : 0 ≤ q ∧ q ≤ 9999) (e : answerBy a q = some n) : -99999999 ≤ n ∧ n ≤ 99999999 := by
  cases a with
  | none => cases e
  | num k =>
    have e1 : k = n := Option.some.inj e
    have := h.1
    have := h.2
    omega
  | plus k =>
    have e1 : q + k = n := Option.some.inj e
    have := h.1
    have := h.2
    omega
  | rest k =>
    have e1 : q % k = n := Option.some.inj e
    have h1 : 2 ≤ k := h.1
    have h2 : k ≤ 99 := h.2
    have := Int.emod_nonneg q (show k ≠ 0 by omega)
    have := Int.emod_lt_of_pos q (show 0 < k by omega)
    omega
  | times k =>
    have e1 : q * k = n := Option.some.inj e
    have h1 : -9999 ≤ k := h.1
    have h2 : k ≤ 9999 := h.2
    have m1 : q * k ≤ q * 9999 := Int.mul_le_mul_of_nonneg_left h2 hq.1
    have m2 : q * (-9999) ≤ q * k := Int.mul_le_mul_of_nonneg_left h1 hq.1
    omega
theorem asked_small : ∀ {m : Mch} {q s n : Int}, (∀ r ∈ m, r.1.ok ∧ r.2.ok) → 0 ≤ q ∧ q ≤ 9999 → askedM m q s = some n → -99999999 ≤ n ∧ n ≤ 99999999
  | [], _, _, _, _, _, e => nomatch e
  | r :: m, q, s, n, h, hq, e => by
    have e2 : (if holdsFor r.1 q s then answerBy r.2 q else askedM m q s) = some n := e
    split at e2
    · exact answer_small (h r List.mem_cons_self).2 hq e2
    · exact asked_small (fun x hx => h x (List.mem_cons_of_mem _ hx)) hq e2
theorem cut_to {xs : List V} {n : Nat} : cutV xs none (some (n : Int)) = xs.take n := by
  unfold cutV
  rw [HT.sIx_none, HT.sIx_nat, List.drop_zero, Nat.sub_zero]
  rcases Nat.le_total n xs.length with h | h
  · rw [Nat.min_eq_left h]
  · rw [Nat.min_eq_right h, List.take_length, List.take_of_length_le h]
theorem twinV {K : PySem.W.Frag} {H : Hp} {p : Addr} {y e : Int} (h : H p = some (.tup [.int y, .int e])) : Dp K H (.ref p) (twinD (some (y, e))) := .tup (SqT.of h) (.cons (.int _) (.cons (.int _) .nil))
end Mh
/-! MhTask -/
namespace Mh
open PySem PySem.Spec PyProof.Rows L2
/-! ### what is a task, to the program -/
/-- a tuple of n + 2, a question and what is due ahead -/
def isAskd (n : Nat) : PyData → Bool
  | .tuple (a :: b :: r) => r.length == n && (isNum a 0 9999 && isNum b (-99999999) 99999999)
  | _ => false
theorem sc_is_asked : FnScope ["thing", "many"] ["thing", "many"] (defScope s_is_asked) := ⟨rfl, rfl, rfl, by decide +kernel, rfl, by decide +kernel, by decide +kernel⟩
def spIsAsked (K : PySem.W.Frag) : Sp := fun vs H Q _ => ∃ (v : V) (d : PyData) (n : Nat), vs = [v, .int ((n + 2 : Nat) : Int)] ∧ Dp K H v d ∧ Q (.bl (isAskd n d)) H
theorem ok_is_asked {P : Program} {w : World} {K : PySem.W.Frag} {mg : Str → Option Value} {base : Heap} (T : Tx K mg) : Def P w K mg base CX0 2 "is_asked" ["thing", "many"] (spIsAsked K) := by
  obtain ⟨fd, F⟩ := T.d_is_asked
  have G_is_number := ok_is_number (P := P) (w := w) (base := base) T
  refine ⟨_, fd, F.ok sc_is_asked (fun vs H Q E h => ?_) (fun cdv A outer s H vs Q E hr h => ?_), F.bindsN fun _ _ _ _ _ _ us hl => match us, hl with | [_, _], _ => rfl, T.g_is_asked, F.kp⟩
  · obtain ⟨v, d, n, rfl, _⟩ := h
    rfl
  · obtain ⟨v, d, n, rfl, hd, q⟩ := h
    refine ⟨_, PSs.nox (pss_cons (ps_if (PW.pt (pw_or (pt_not (pt_val (pe_callB call_isiD (by rfl) T.f_isinstance (by decide +kernel) (pa_cons (pv 0) (pa_cons (gT (n := "tuple") T.f_tuple) pa_nil))))) (pw_or1 (pt_cmpR op_ne (pe_callB call_len_seq (by rfl) T.f_len (by decide +kernel) (pa_cons (pv 0) pa_nil)) (pv 1) (nomark _)))))
        (pss_one (ps_ret pe_bl))
        pss_nil)
        (pss_one (ps_ret (pe_and (pe_def G_is_number (hr.mono (by omega)) pass0 (pa_cons (pe_ix ix_tup (pv 0) pe_int (fun _ _ => rfl)) (pa_cons pe_int (pa_cons (gC T.c_GREAT) pa_nil)))) (pe_one (pe_def G_is_number (hr.mono (by omega)) pass0 (pa_cons (pe_ix ix_tup (pv 0) pe_int (fun _ _ => rfl)) (pa_cons (pe_op op_sub pe_int (gC T.c_MOST_DUE)) (pa_cons (gC T.c_MOST_DUE) pa_nil))))))))), ?_⟩
    refine rd_isD rfl (by decide) hd ⟨_, rfl, ?_⟩
    cases hd with
    | @tup a xs ds hs ha =>
      refine ifF rfl ⟨_, rfl, a, xs, rfl, .inr hs, _, rfl, rfl, _, rfl, ifB (fun c => ?_) (fun c => ?_)⟩
      · have c2 : ((xs.length : Nat) : Int) ≠ ((n + 2 : Nat) : Int) := fun z => by
          have : decide (V.int ((xs.length : Nat) : Int) = V.int ((n + 2 : Nat) : Int)) = true := decide_eq_true (congrArg V.int z)
          simp only [this] at c
          cases c
        have e : isAskd n (.tuple ds) = false := by
          match ds, ha.len with
          | [], _ => rfl
          | [_], _ => rfl
          | _ :: _ :: r, hl =>
            show (r.length == n && _) = false
            have : r.length ≠ n := fun z => c2 (by rw [hl, List.length_cons, List.length_cons, z])
            simp [this]
        rw [e] at q
        exact q
      · have c2 : ((xs.length : Nat) : Int) = ((n + 2 : Nat) : Int) := by
          have c3 : decide (V.int ((xs.length : Nat) : Int) = V.int ((n + 2 : Nat) : Int)) = true := by simpa using c
          exact V.int.inj (of_decide_eq_true c3)
        have hl := ha.len
        match xs, ds, ha, hl with
        | x0 :: x1 :: xs, d0 :: d1 :: ds, .cons h0 (.cons h1 ht), hl =>
          have e : isAskd n (.tuple (d0 :: d1 :: ds)) = (isNum d0 0 9999 && isNum d1 (-99999999) 99999999) := by
            show (ds.length == n && _) = _
            have e2 : ds.length = n := by
              simp only [List.length_cons] at c2 hl
              omega
            rw [e2, beq_self_eq_true, Bool.true_and]
          rw [e] at q
          refine rd_ixT (j := 0) rfl hs rfl ⟨x0, d0, 0, 9999, rfl, h0, _, rfl, ifB (fun k => ?_) (fun k => ?_)⟩
          · rw [k, Bool.true_and] at q
            refine rd_ixT (j := 1) rfl hs rfl ⟨_, _, rfl, rfl, ⟨x1, d1, -99999999, 99999999, rfl, h1, q⟩⟩
          · rw [k, Bool.false_and] at q
            exact q
        | [], _, _, _ => simp at c2; omega
        | [_], _, _, _ => simp at c2; omega
        | _ :: _ :: _, [_], _, hl => simp at hl
    | _ => exact ifT rfl q
theorem twin_lay (o : Option (Int × Int)) : (twinD o).canLay0 = true ∧ (twinD o).depth ≤ 1 := by
  cases o with
  | none => exact ⟨rfl, by decide +kernel⟩
  | some p => exact ⟨by simp [twinD, PyData.canLay0, PyData.canLayAll0], by simp [twinD, PyData.depth, PyData.depthAll]⟩
theorem qsts_lay : ∀ rs : List Qst, PyData.canLayAll0 (rs.map Qst.d) = true ∧ PyData.depthAll (rs.map Qst.d) ≤ 2
  | [] => ⟨by simp [PyData.canLayAll0], by simp [PyData.depthAll]⟩
  | r :: rs => by
    obtain ⟨h1, h2⟩ := qsts_lay rs
    obtain ⟨a1, a2⟩ := twin_lay r.twin
    refine ⟨by simp [PyData.canLayAll0, PyData.canLay0, Qst.d, h1, a1], ?_⟩
    simp only [List.map_cons, PyData.depthAll, Qst.d, PyData.depth]
    omega
theorem qsts_shaped (rs : List Qst) : SeqAt.shaped (.tuple (rs.map Qst.d)) = true := by
  obtain ⟨h1, h2⟩ := qsts_lay rs
  show (PyData.canLay0 (.tuple (rs.map Qst.d)) && decide (PyData.depth (.tuple (rs.map Qst.d)) ≤ 64)) = true
  rw [Bool.and_eq_true_iff]
  refine ⟨by simp only [PyData.canLay0]; exact h1, decide_eq_true ?_⟩
  simp only [PyData.depth]
  omega
theorem Qst.ok_askd {r : Qst} (h : r.ok) : isAskd 1 r.d = true := by
  show ((1 : Nat) == 1 && (isNum (.int r.x) 0 9999 && isNum (.int r.due) (-99999999) 99999999)) = true
  simp [isNum, h.x.1, h.x.2, h.due.1, h.due.2]
theorem twin_askd {r : Qst} {p : Int × Int} (h : r.ok) (e : r.twin = some p) : isAskd 0 (twinD r.twin) = true := by
  obtain ⟨h1, h2⟩ := h.twin p e
  rw [e]
  show ((0 : Nat) == 0 && (isNum (.int p.1) 0 9999 && isNum (.int p.2) (-99999999) 99999999)) = true
  simp [isNum, h1.1, h1.2, h2.1, h2.2]
theorem sc_need_task : FnScope ["task", "met", "number", "one"] ["task"] (defScope s_need_task) := ⟨rfl, rfl, rfl, by decide +kernel, rfl, by decide +kernel, by decide +kernel⟩
def spNeedTask (K : PySem.W.Frag) : Sp := fun vs H Q _ => ∃ (v : V) (t : Tsk), vs = [v] ∧ Dp K H v (taskD t) ∧ t.ok ∧ ∀ H', Fx [] H H' → Q .non H'
theorem ok_need_task {P : Program} {w : World} {K : PySem.W.Frag} {mg : Str → Option Value} {base : Heap} (T : Tx K mg) : Def P w K mg base CX0 3 "need_task" ["task"] (spNeedTask K) := by
  obtain ⟨fd, F⟩ := T.d_need_task
  have G_is_number := ok_is_number (P := P) (w := w) (base := base) T
  have G_is_asked := ok_is_asked (P := P) (w := w) (base := base) T
  refine ⟨_, fd, F.ok sc_need_task (fun vs H Q E h => ?_) (fun cdv A outer s H vs Q E hr h => ?_), F.bindsN fun _ _ _ _ _ _ us hl => match us, hl with | [_], _ => rfl, T.g_need_task, F.kp⟩
  · obtain ⟨v, t, rfl, _⟩ := h
    rfl
  · obtain ⟨v, t, rfl, hd, ht, q⟩ := h
    refine ⟨_, PSs.nox (pss_cons (ps_if (PW.pt (pw_or (pt_not (pt_val (pe_callB call_isiD (by rfl) T.f_isinstance (by decide +kernel) (pa_cons (pv 0) (pa_cons (gT (n := "tuple") T.f_tuple) pa_nil))))) (pw_or (pt_cmpR op_ne (pe_callB call_len_seq (by rfl) T.f_len (by decide +kernel) (pa_cons (pv 0) pa_nil)) pe_int (nomark _)) (pw_or (pt_not (pt_val (pe_callB call_isiD (by rfl) T.f_isinstance (by decide +kernel) (pa_cons (pe_ix ix_tup (pv 0) pe_int (fun _ _ => rfl)) (pa_cons (gT (n := "tuple") T.f_tuple) pa_nil))))) (pw_or1 (pt_cmpR (op_eqD hr.units) (pe_ix ix_tup (pv 0) pe_int (fun _ _ => rfl)) (pe_tup pa_nil) (nomark _)))))))
        (pss_one ps_never)
        pss_nil)
        (pss_cons (ps_if (pt_not (pt_val (pe_def G_is_number (hr.mono (by omega)) pass0 (pa_cons (pe_ix ix_tup (pv 0) pe_int (fun _ _ => rfl)) (pa_cons pe_int (pa_cons (gC T.c_MOST_WEIGHT) pa_nil))))))
        (pss_one ps_never)
        pss_nil)
        (pss_cons (ps_set (i := 1) sc_need_task.nd rfl (by first | exact Or.inl rfl | exact Or.inr rfl) pe_dnewK)
        (pss_one (ps_for PassesOwn.never rfl (pi_enumT (by rfl) T.f_enumerate (pa_cons (pe_ix ix_tup (pv 0) pe_int (fun _ _ => rfl)) pa_nil)) (pg_tup rfl (pgs_cons (pg_name (i := 2) sc_need_task.nd rfl (by first | exact Or.inl rfl | exact Or.inr rfl)) (pgs_cons (pg_name (i := 3) sc_need_task.nd rfl (by first | exact Or.inl rfl | exact Or.inr rfl)) pgs_nil)))
        (pss_cons (ps_if (PW.pt (pw_or (pt_cmpR op_eq (pv 2) (gC T.c_MOST_QUESTIONS) (nomark _)) (pw_or (pt_not (pt_val (pe_def G_is_asked (hr.mono (by omega)) pass0 (pa_cons (pv 3) (pa_cons pe_int pa_nil))))) (pw_or1 (pt_cmp (pc_din (hu_of hr) (pe_ix ix_tup (pv 3) pe_int (fun _ _ => rfl)) (pv 1)))))))
        (pss_one ps_never)
        pss_nil)
        (pss_cons (ps_if (PW.pt (pw_and (pt_cmpR op_notN (pe_ix ix_tup (pv 3) pe_int (fun _ _ => rfl)) pe_non (nomark _)) (pw_and1 (pt_not (pt_val (pe_def G_is_asked (hr.mono (by omega)) pass0 (pa_cons (pe_ix ix_tup (pv 3) pe_int (fun _ _ => rfl)) (pa_cons pe_int pa_nil))))))))
        (pss_one ps_never)
        pss_nil)
        (pss_one (ps_dput (hu_of hr) (pv 1) (pe_ix ix_tup (pv 3) pe_int (fun _ _ => rfl)) pe_bl rfl))))))))), ?_⟩
    obtain ⟨a, v0, v1, rfl, hs, h0, h1⟩ := hd.tup2
    cases h1
    obtain ⟨b, xs, rfl, hb, hx⟩ := h0.tupI
    have hxl : xs.length = t.rows.length := by rw [hx.len, List.length_map]
    refine rd_isD rfl (by decide) hd ⟨_, rfl, ifF rfl ⟨_, rfl, a, _, rfl, .inr hs, rfl, _, rfl, ifF rfl ?_⟩⟩
    refine rd_ixT (j := 0) rfl hs rfl ⟨_, "tuple", _, rfl, by decide, h0, _, rfl, ifF rfl ?_⟩
    refine rd_ixT (j := 0) rfl hs rfl ⟨by show 0 ≤ sizeLine; decide, fun p hp => ?_⟩
    have f1 : Fx [] H (upd H p (.tup [])) := Fx.new hp
    refine ⟨.tuple (t.rows.map Qst.d), .tuple [], h0.ext f1, .tup (SqT.of upd_same) .nil, qsts_shaped _, by decide +kernel, _, rfl, ifF ?_ ?_⟩
    · cases hr : t.rows with
      | nil => exact absurd hr ht.ne
      | cons d ds => simp [PyData.eqv, PyData.eqvAll]
    refine rd_ixT (j := 1) rfl (f1.sqT hs) rfl ⟨_, _, 1, 9, rfl, .int t.w, _, rfl, ifF ?_ ?_⟩
    · show (!isNum (.int t.w) 1 9) = false
      simp [isNum, ht.w.1, ht.w.2]
    intro mt hmt
    have hm0 : H mt = none := f1.free hmt
    have hupd : upd (upd H p (.tup [])) mt (.dK []) mt = some (.dK []) := upd_same
    have f2 : Fx [] H (upd (upd H p (.tup [])) mt (.dK [])) := f1.trans (Fx.new hmt)
    generalize upd (upd H p (.tup [])) mt (.dK []) = H2 at f2 hupd
    refine rd_ixT (j := 0) rfl (f2.sqT hs) rfl ⟨b, xs, rfl, f2.sqT hb, for_it (walk_enT (xs := xs)) (fun i σ' H' => ∃ y2 y3 kvs, σ' = [some (.ref a), some (.ref mt), y2, y3] ∧ Fx [] H H' ∧ H' mt = some (.dK kvs) ∧ kvs.length ≤ i ∧ ∀ (j : Int) (w : V), valV kvs (.inl j) = some w → j ∈ (t.rows.map Qst.x).take i) ⟨none, none, [], rfl, f2, hupd, Nat.le_refl _, fun _ _ h => nomatch h⟩ (fun i σ' H' _ hP => ?_) (fun i x σ' H3 H4 hi hP y => ?_) (fun σ' H' hP => ?_)⟩
    · obtain ⟨_, _, _, _, f, _⟩ := hP
      exact f.sqT hb
    · obtain ⟨y2, y3, kvs, rfl, f, hk, hkl, hkm⟩ := hP
      obtain ⟨T', u, w, rfl, hT, hu, hv⟩ := YPair.tup y
      cases hu
      have fy : Fx [] H3 H4 := YPair.fx y
      have f3 := f.trans fy
      have hk2 := fy.to hk fun z => nomatch z
      obtain ⟨d, g1, g2⟩ := hx.get hv
      rw [List.getElem?_map] at g1
      obtain ⟨r, hrr, rfl⟩ := Option.map_eq_some_iff.mp g1
      have ro := ht.rows r (List.mem_of_getElem? hrr)
      have g3 := g2.ext f3
      obtain ⟨c, w0, w1, w2, rfl, hc, k0, k1, k2⟩ := g3.tup3
      cases k0
      cases k1
      refine ⟨T', _, rfl, SqT.of hT, rfl, _, _, rfl, _, _, rfl, rfl, ?_⟩
      have hi16 : i < 16 := by
        have := ht.len
        omega
      refine ⟨_, rfl, rd_eqI ⟨_, rfl, ifF ?_ ?_⟩⟩
      · have : (i : Int) ≠ 16 := by omega
        simpa using this
      refine ⟨_, rfl, ⟨_, _, 1, rfl, g3, _, rfl, ifF ?_ ?_⟩⟩
      · rw [Qst.ok_askd ro]
        rfl
      have hnx : valV kvs (.inl r.x) = none := by
        cases e : valV kvs (.inl r.x) with
        | none => rfl
        | some w =>
          have hmem := hkm _ _ e
          exfalso
          have hgx : (t.rows.map Qst.x)[i]? = some r.x := by rw [List.getElem?_map, hrr]; rfl
          obtain ⟨j, hj, ej⟩ := List.mem_iff_getElem.mp hmem
          have hj2 : j < i := by
            rw [List.length_take] at hj
            omega
          rw [List.getElem_take] at ej
          have hil : i < (t.rows.map Qst.x).length := by rw [List.length_map]; omega
          rw [List.getElem?_eq_getElem hil] at hgx
          have e3 := Option.some.inj hgx
          have := (List.nodup_iff_pairwise_ne.mp ht.nd)
          have := List.pairwise_iff_getElem.mp this j i (by omega) hil hj2
          exact this (ej.trans e3.symm)
      refine rd_ixT (j := 0) rfl hc rfl ⟨_, rfl, mt, _, rfl, DGet.k (k := .inl r.x) hk2, _, rfl, ifF (by rw [hnx]; rfl) ?_⟩
      have fin : ∀ H5, H5 = H4 → True := fun _ _ => trivial
      have put : ∀ (σ2 : L2.St), σ2 = [some (.ref a), some (.ref mt), some (.int (i : Nat)), some (.ref c)] → (∃ y2 y3 kvs', σ2 = [some (.ref a), some (.ref mt), y2, y3] ∧ Fx [] H (upd H4 mt (.dK (putK kvs (.inl r.x) (.bl true)))) ∧ upd H4 mt (.dK (putK kvs (.inl r.x) (.bl true))) mt = some (.dK kvs') ∧ kvs'.length ≤ i + 1 ∧ ∀ (j : Int) (w : V), valV kvs' (.inl j) = some w → j ∈ (t.rows.map Qst.x).take (i + 1)) := fun σ2 e2 => by
        refine ⟨_, _, putK kvs (.inl r.x) (.bl true), e2, f3.loc hm0 (Chg.dK hk2), upd_same, ?_, fun j w hw => ?_⟩
        · rw [putK_new _ hnx, List.length_append]
          simp
          omega
        · rw [valV_put] at hw
          rw [List.take_add_one, List.getElem?_map, hrr]
          by_cases e : (Sum.inl j : Key) = .inl r.x
          · have e2 : j = r.x := Sum.inl.inj e
            rw [e2]
            simp
          · rw [if_neg e] at hw
            exact List.mem_append_left _ (hkm j w hw)
      refine rd_ixT (j := 2) rfl hc rfl ⟨rfl, _, rfl, ?_⟩
      cases htw : r.twin with
      | none =>
        rw [htw] at k2
        cases k2
        refine ifF rfl ?_
        exact ⟨_, rfl, rd_ixT (j := 0) rfl hc rfl ⟨mt, _, rfl, DPut.k (k := .inl r.x) hk2 (ltL (m := kvs.length) rfl (by omega)), put _ rfl⟩⟩
      | some p =>
        have k3 : isAskd 0 (twinD r.twin) = true := twin_askd ro htw
        have hne : w2 ≠ .non := by
          rw [htw] at k2
          obtain ⟨_, _, _, e, _⟩ := k2.tup2
          rw [e]
          exact fun z => nomatch z
        refine ifT (by rw [decide_eq_false hne]; rfl) ?_
        refine rd_ixT (j := 2) rfl hc rfl ⟨_, _, 0, rfl, k2, _, rfl, ifF (by rw [k3]; rfl) ?_⟩
        exact ⟨_, rfl, rd_ixT (j := 0) rfl hc rfl ⟨mt, _, rfl, DPut.k (k := .inl r.x) hk2 (ltL (m := kvs.length) rfl (by omega)), put _ rfl⟩⟩
    · obtain ⟨y2, y3, kvs, rfl, f, _⟩ := hP
      exact q H' f
end Mh
/-! MhAns0 -/
namespace Mh
open PySem PySem.Spec PyProof.Rows L2
/-- a def called with its keyword-only parameters written -/
structure DefN (P : Program) (w : World) (K : PySem.W.Frag) (mg : Str → Option Value) (base : Heap) (CX : CXT) (k : Nat) (x : Str) (ps : List Str) (n : Nat) (ks : List Str) (sp : Sp) : Prop where
  ex : ∃ (f : Addr) (fd : FuncData) (g : List Value → List Value → List Value) (ds : List Value), FnOk P w K mg base CX k f fd ps sp ∧ KBn K fd ps n ks g (fun a b => a ++ b) ∧ Vals [.int 0] ds ∧ Binds K fd ps ds ∧ mg x = some (.ref f) ∧ PySem.W.keepIn K (.ref f) = true
section
variable {X : Cx} {CX : CXT} {k n : Nat} {ps ks : List Str} {sp : Sp} {E : XK} {x : Str} {p pos : Pos} {e : Expr} {es : List Expr} {kws : List Keyword} {t tk : TA}
theorem pe_defN (F : DefN X.prog X.w X.K X.mg X.base CX k x ps n ks sp) (hr : Room k X.A) (hx : Passes CX X E) (ha : PA X (e :: es) t) (hkw : PK X kws tk) (hg : Gl X x := by rfl)
    (hall : (backToKw pos (keywordEach kws X.env)).all (·.1.isSome) = true := by rfl) (hks : (backToKw pos (keywordEach kws X.env)).filterMap (·.1) = ks := by rfl)
    (hdb : (x == ("__debug__" : Str)) = false := by decide) (he : starEach (e :: es) X.env = (false, eval e X.env) :: starEach es X.env := by rfl)
    (hpl : ((backTo pos (starEach (e :: es) X.env)).any (·.1) || (backToKw pos (keywordEach kws X.env)).any (·.1.isNone)) = false := by rfl) :
    PE X (.Call (.Name x p) (e :: es) kws pos) (tCallN n ks.length sp (fun a b => a ++ b) E t tk) := by
  obtain ⟨f, fd, g, ds, F1, b, _, _, gl, kp⟩ := F.ex
  exact pe_callN F1 hr hg gl kp b hx ha hkw hall hks hdb he hpl
/-- the same def, called without it: the seed 0 -/
theorem pe_defD (F : DefN X.prog X.w X.K X.mg X.base CX k x ps n ks sp) (hr : Room k X.A) (hx : Passes CX X E) (ha : PA X (e :: es) t) (hg : Gl X x := by rfl) (hdb : (x == ("__debug__" : Str)) = false := by decide)
    (he : starEach (e :: es) X.env = (false, eval e X.env) :: starEach es X.env := by rfl) (hpl : (backTo pos (starEach es X.env)).any (·.1) = false := by rfl) :
    PE X (.Call (.Name x p) (e :: es) [] pos) (tCall sp [.int 0] E t) := by
  obtain ⟨f, fd, g, ds, F1, _, hv, b, gl, kp⟩ := F.ex
  exact pe_call F1 hr hg gl kp b hv hx ha hdb he hpl
end
theorem sc_need_seed : FnScope ["seed"] ["seed"] (defScope s_need_seed) := ⟨rfl, rfl, rfl, by decide +kernel, rfl, by decide +kernel, by decide +kernel⟩
def spNeedSeed (K : PySem.W.Frag) : Sp := fun vs H Q _ => ∃ s, vs = [.int s] ∧ (0 ≤ s ∧ s ≤ 999) ∧ Q .non H
theorem ok_need_seed {P : Program} {w : World} {K : PySem.W.Frag} {mg : Str → Option Value} {base : Heap} (T : Tx K mg) : Def P w K mg base CX0 2 "need_seed" ["seed"] (spNeedSeed K) := by
  obtain ⟨fd, F⟩ := T.d_need_seed
  have G_is_number := ok_is_number (P := P) (w := w) (base := base) T
  refine ⟨_, fd, F.ok sc_need_seed (fun vs H Q E h => ?_) (fun cdv A outer s H vs Q E hr h => ?_), F.bindsN fun _ _ _ _ _ _ us hl => match us, hl with | [_], _ => rfl, T.g_need_seed, F.kp⟩
  · obtain ⟨s, rfl, _⟩ := h
    rfl
  · obtain ⟨sd, rfl, hs, q⟩ := h
    refine ⟨_, PSs.nox (pss_one (ps_if (pt_not (pt_val (pe_def G_is_number (hr.mono (by omega)) pass0 (pa_cons (pv 0) (pa_cons pe_int (pa_cons (gC T.c_MOST_SEED) pa_nil))))))
        (pss_one ps_never)
        pss_nil)), ?_⟩
    refine ⟨_, rfl, ⟨_, _, _, _, rfl, .int sd, _, rfl, ifF ?_ q⟩⟩
    show (!isNum (.int sd) 0 999) = false
    simp [isNum, hs.1, hs.2]
theorem rd_needM {K : PySem.W.Frag} {σ : L2.St} {H : Hp} {Q : VK} {i : Nat} {v : V} {m : Mch} (hv : σ[i]? = some (some v)) (h : m.ok) (hd : Dp K H v (machD m)) (q : ∀ H', Fx [] H H' → Q .non H') : tCall (spNeedMachine K) [] E0 (tCons (tVar i) tNil) σ H Q := ⟨v, hv, need_mach (Q := Q) (E := E0) h hd q⟩
end Mh
/-! MhRight -/
namespace Mh
open PySem PySem.Spec PyProof.Rows L2
/-! ### the questions that are answered right -/
def rightB (m : Mch) (t : Tsk) (s : Int) (k : Nat) : Bool := match t.rows[k]? with
  | some r => askedM m r.x s == some r.due
  | none => false
def natV (k : Nat) : V := .int (k : Nat)
def rightN (m : Mch) (t : Tsk) (s : Int) (i : Nat) : List Int := ((List.range i).filter (rightB m t s)).map fun k => ((k : Nat) : Int)
def rightL (m : Mch) (t : Tsk) (s : Int) : List Int := rightN m t s t.rows.length
theorem rightN_len (m : Mch) (t : Tsk) (s : Int) (i : Nat) : (rightN m t s i).length ≤ i := by
  unfold rightN
  rw [List.length_map]
  exact Nat.le_trans (List.length_filter_le _ _) (by rw [List.length_range]; exact Nat.le_refl _)
theorem rightN_succ (m : Mch) (t : Tsk) (s : Int) (i : Nat) : rightN m t s (i + 1) = rightN m t s i ++ (if rightB m t s i then [((i : Nat) : Int)] else []) := by
  unfold rightN
  rw [List.range_succ, List.filter_append, List.map_append]
  congr 1
  cases h : rightB m t s i <;> simp [List.filter, h]
theorem eq_oV {K : PySem.W.Frag} {H : Hp} {Q : VK} {o : Option Int} {n : Int} (q : Q (.bl (o == some n)) H) : rEq (oV o) (.int n) H Q := by
  cases o with
  | none => exact ⟨rfl, q⟩
  | some k =>
    refine ⟨rfl, ?_⟩
    show Q (.bl (decide (V.int k = V.int n))) H
    rw [dec_int]
    exact q
theorem sc_right_of : FnScope ["machine", "task", "seed", "number", "one"] ["machine", "task", "seed"] (defScope s_right_of) := ⟨rfl, rfl, rfl, by decide +kernel, rfl, by decide +kernel, by decide +kernel⟩
def spRightOf (K : PySem.W.Frag) : Sp := fun vs H Q _ => ∃ (v u : V) (m : Mch) (t : Tsk) (s : Int), vs = [v, u, .int s] ∧ Dp K H v (machD m) ∧ Dp K H u (taskD t) ∧ m.ok ∧ t.ok ∧
  ∀ (H' : Hp) (p : Addr), Fx [] H H' → H p = none → H' p = some (.lst ((rightL m t s).map V.int)) → Q (.ref p) H'
theorem ok_right_of {P : Program} {w : World} {K : PySem.W.Frag} {mg : Str → Option Value} {base : Heap} (T : Tx K mg) : Def P w K mg base CX0 3 "right_of" ["machine", "task", "seed"] (spRightOf K) := by
  obtain ⟨fd, F⟩ := T.d_right_of
  have G_asked := ok_asked (P := P) (w := w) (base := base) T
  refine ⟨_, fd, F.ok sc_right_of (fun vs H Q E h => ?_) (fun cdv A outer s H vs Q E hr h => ?_), F.bindsN fun _ _ _ _ _ _ us hl => match us, hl with | [_, _, _], _ => rfl, T.g_right_of, F.kp⟩
  · obtain ⟨v, u, m, t, s, rfl, _⟩ := h
    rfl
  · obtain ⟨v, u, m, t, sd, rfl, hm, hd, hmo, ht, q⟩ := h
    refine ⟨_, PSs.nox (pss_one (ps_ret (pe_lc (own := [("number", 3), ("one", 4)]) (g := (gTup _ 2 (gCons (gName 3) (gCons (gName 4) gNil)))) (tt := _) rfl sc_right_of.nd (pi_enumT (by rfl) T.f_enumerate (pa_cons (pe_ix ix_tup (pv 1) pe_int (fun _ _ => rfl)) pa_nil)) (blkOk_by (own := [("number", 3), ("one", 4)]) (N := ["machine", "task", "seed", "number", "one"]) (sc := defScope s_right_of) (by decide +kernel)) (fun _ _ _ _ _ => pg_tup rfl (pgs_cons (pg_name (i := 3) sc_right_of.nd rfl (Or.inl rfl)) (pgs_cons (pg_name (i := 4) sc_right_of.nd rfl (Or.inl rfl)) pgs_nil))) (fun _ _ _ _ _ => pts_one (pt_cmpR op_eq (pe_def G_asked (hr.mono (by omega)) pass0 (pa_cons (pv 0) (pa_cons (pe_ix (kix_tup (K := K) rfl) (pv 4) pe_int (fun _ _ => rfl)) (pa_cons (pv 2) pa_nil)))) (pe_ix (kix_tup (K := K) rfl) (pv 4) pe_int (fun _ _ => rfl)) (nomark _))) (fun _ _ _ _ _ => (pv 3))))), ?_⟩
    obtain ⟨a, v0, v1, rfl, hs, h0, h1⟩ := hd.tup2
    cases h1
    obtain ⟨b, xs, rfl, hb, hx⟩ := h0.tupI
    have hxl : xs.length = t.rows.length := by rw [hx.len, List.length_map]
    have hlen := ht.len
    refine rd_ixT (j := 0) rfl hs rfl ⟨b, xs, rfl, hb, fun D hD => lc_rel (walk_enT (xs := xs)) (fun i acc H2 => Fx [] H H2 ∧ acc = (rightN m t sd i).map V.int) ⟨Fx.new hD, rfl⟩ (fun i acc H2 r => r.1.sqT hb) (fun i acc x H2 H3 hi hl hDa r y => ?_) (fun acc H2 hl hDa r => ?_)⟩
    · obtain ⟨T', u, w, rfl, hT, hu, hv⟩ := YPair.tup y
      cases hu
      have fy : Fx [] H2 H3 := YPair.fx y
      obtain ⟨f, rfl⟩ := r
      have f3 := f.trans fy
      have hDa3 := fy.to hDa fun z => nomatch z
      obtain ⟨d, g1, g2⟩ := hx.get hv
      rw [List.getElem?_map] at g1
      obtain ⟨r, hrr, rfl⟩ := Option.map_eq_some_iff.mp g1
      have g3 := g2.ext f3
      obtain ⟨c, w0, w1, w2, rfl, hc, k0, k1, k2⟩ := g3.tup3
      cases k0
      cases k1
      refine ⟨T', _, rfl, SqT.of hT, rfl, _, _, rfl, _, _, rfl, rfl, rfl, ?_⟩
      have er : rightB m t sd i = (askedM m r.x sd == some r.due) := by
        unfold rightB
        rw [hrr]
      refine ⟨v, rfl, rd_ixT (j := 0) rfl hc rfl ⟨_, rfl, v, m, r.x, sd, rfl, hm.ext f3, hmo.rows, rd_ixT (j := 1) rfl hc rfl (eq_oV (K := K) ⟨_, rfl, ?_⟩)⟩⟩
      rw [← er]
      refine ifB (fun c2 => ?_) (fun c2 => ?_)
      · refine ⟨_, rfl, Put.ok hl (by omega) hDa3 ⟨f3.loc hD (Chg.lst hDa3), ?_⟩⟩
        rw [rightN_succ, c2, List.map_append]
        rfl
      · refine Pvl.skip hl hDa3 ⟨f3, ?_⟩
        rw [rightN_succ, c2]
        simp
    · obtain ⟨f, rfl⟩ := r
      rw [hxl] at hDa
      exact q H2 D f hD hDa
theorem sc_right : FnScope ["machine", "task", "seed"] ["machine", "task", "seed"] (defScope s_right) := ⟨rfl, rfl, rfl, by decide +kernel, rfl, by decide +kernel, by decide +kernel⟩
def spRight (K : PySem.W.Frag) : Sp := fun vs H Q _ => ∃ (v u : V) (m : Mch) (t : Tsk) (s : Int), vs = [v, u, .int s] ∧ Dp K H v (machD m) ∧ Dp K H u (taskD t) ∧ m.ok ∧ t.ok ∧ (0 ≤ s ∧ s ≤ 999) ∧
  ∀ (H' : Hp) (w : V), Fx [] H H' → Dp K H' w (.tuple ((rightL m t s).map .int)) → Q w H'
theorem rd_needT {K : PySem.W.Frag} {σ : L2.St} {H : Hp} {Q : VK} {i : Nat} {v : V} {t : Tsk} (hv : σ[i]? = some (some v)) (h : t.ok) (hd : Dp K H v (taskD t)) (q : ∀ H', Fx [] H H' → Q .non H') : tCall (spNeedTask K) [] E0 (tCons (tVar i) tNil) σ H Q := ⟨v, hv, ⟨v, t, rfl, hd, h, q⟩⟩
theorem ok_right {P : Program} {w : World} {K : PySem.W.Frag} {mg : Str → Option Value} {base : Heap} (T : Tx K mg) : DefN P w K mg base CX0 5 "right" ["machine", "task", "seed"] 2 ["seed"] (spRight K) := by
  obtain ⟨fd, F⟩ := T.d_right
  have G_need_machine := ok_need_machine (P := P) (w := w) (base := base) T
  have G_need_task := ok_need_task (P := P) (w := w) (base := base) T
  have G_need_seed := ok_need_seed (P := P) (w := w) (base := base) T
  have G_right_of := ok_right_of (P := P) (w := w) (base := base) T
  obtain ⟨mv, BN⟩ := F.kbinds0 (ps := ["machine", "task", "seed"]) 2 ["seed"] [] (fun vs _ zs => vs ++ zs) (List.cons_ne_nil _ _) (fun q h => nomatch h) (fun r1 _ r3 => r1.append r3) (fun D doc pm an cdv ct us mv ws l1 l2 l3 => match us, mv, ws, l1, l2, l3 with | [_, _], [], [_], _, _, _ => rfl)
  obtain ⟨ds, hds, BD⟩ := F.binds0 (ps := ["machine", "task", "seed"]) 2 (List.cons_ne_nil _ _) rfl (fun D doc pm an cdv ct us ks l1 l2 => match us, ks, l1, l2 with | [_, _], [_], _, _ => ⟨_, _, _, _, _, _, rfl, rfl, rfl⟩)
  refine ⟨_, fd, _, ds, F.ok sc_right (fun vs H Q E h => ?_) (fun cdv A outer s H vs Q E hr h => ?_), BN, hds, BD, T.g_right, F.kp⟩
  · obtain ⟨v, u, m, t, s, rfl, _⟩ := h
    rfl
  · obtain ⟨v, u, m, t, sd, rfl, hm, hd, hmo, ht, hs, q⟩ := h
    refine ⟨_, PSs.nox (pss_cons (ps_expr (pe_def G_need_machine (hr.mono (by omega)) pass0 (pa_cons (pv 0) pa_nil)))
        (pss_cons (ps_expr (pe_def G_need_task (hr.mono (by omega)) pass0 (pa_cons (pv 1) pa_nil)))
        (pss_cons (ps_expr (pe_def G_need_seed (hr.mono (by omega)) pass0 (pa_cons (pv 2) pa_nil)))
        (pss_one (ps_ret (pe_callTy call_tuple_of (by rfl) T.f_tuple (by decide +kernel) (pa_cons (pe_def G_right_of (hr.mono (by omega)) pass0 (pa_cons (pv 0) (pa_cons (pv 1) (pa_cons (pv 2) pa_nil)))) pa_nil))))))), ?_⟩
    refine rd_needM rfl hmo hm fun H1 f1 => ?_
    refine rd_needT rfl ht (hd.ext f1) fun H2 f2 => ?_
    refine ⟨_, rfl, ⟨sd, rfl, hs, ?_⟩⟩
    have f := f1.trans f2
    refine ⟨v, rfl, u, rfl, _, rfl, ⟨v, u, m, t, sd, rfl, hm.ext f, hd.ext f, hmo, ht, fun H3 p f3 hp hp3 => ?_⟩⟩
    exact ⟨p, _, rfl, .inl ⟨SqL.of hp3, fun l hl => q _ _ ((f.trans f3).trans (Fx.new hl)) (.tup (SqT.of upd_same) (Dp.ints _))⟩⟩
end Mh
/-! MhBin -/
namespace Mh
open PySem PySem.Spec PyProof.Rows L2
/-! ### in how many ways -/
def bin : Nat → Nat → Nat
  | _, 0 => 1
  | 0, _ + 1 => 0
  | n + 1, k + 1 => bin n k + bin n (k + 1)
theorem bin_zero (n : Nat) : bin n 0 = 1 := by cases n <;> rfl
theorem bin_gt : ∀ {n k : Nat}, n < k → bin n k = 0
  | 0, _ + 1, _ => rfl
  | n + 1, k + 1, h => by
    show bin n k + bin n (k + 1) = 0
    rw [bin_gt (n := n) (k := k) (by omega), bin_gt (n := n) (k := k + 1) (by omega)]
theorem bin_mul : ∀ (n k : Nat), bin n (k + 1) * (k + 1) = bin n k * (n - k)
  | 0, 0 => rfl
  | 0, k + 1 => by
    show 0 * (k + 1 + 1) = 0 * (0 - (k + 1))
    omega
  | n + 1, 0 => by
    have h := bin_mul n 0
    show (bin n 0 + bin n 1) * (0 + 1) = bin (n + 1) 0 * (n + 1 - 0)
    rw [bin_zero] at h ⊢
    simp at h ⊢
    rw [bin_zero]
    omega
  | n + 1, k + 1 => by
    have h1 := bin_mul n k
    have h2 := bin_mul n (k + 1)
    show (bin n (k + 1) + bin n (k + 2)) * (k + 1 + 1) = (bin n k + bin n (k + 1)) * (n + 1 - (k + 1))
    rw [Nat.add_mul, h2, show n + 1 - (k + 1) = n - k by omega, Nat.add_mul (bin n k), ← h1, Nat.mul_add (bin n (k + 1)) (k + 1) 1, Nat.mul_one, Nat.add_assoc]
    congr 1
    by_cases c : k + 1 ≤ n
    · rw [show n - k = n - (k + 1) + 1 by omega, Nat.mul_add, Nat.mul_one, Nat.add_comm]
    · rw [bin_gt (n := n) (k := k + 1) (by omega)]
      simp
theorem bin_le : ∀ (n k : Nat), bin n k ≤ 2 ^ n
  | 0, 0 => Nat.le_refl _
  | 0, k + 1 => Nat.zero_le _
  | n + 1, 0 => Nat.one_le_two_pow
  | n + 1, k + 1 => by
    show bin n k + bin n (k + 1) ≤ 2 ^ (n + 1)
    have h1 := bin_le n k
    have h2 := bin_le n (k + 1)
    rw [Nat.pow_succ]
    omega
theorem bin_small {n k : Nat} (h : n ≤ 40) : bin n k < 2 ^ 64 :=
  Nat.lt_of_le_of_lt (Nat.le_trans (bin_le n k) (Nat.pow_le_pow_right (by decide) h)) (by decide)
def chooseI (n k : Int) : Int := if k < 0 then 0 else if n < k then 0 else (bin n.toNat k.toNat : Nat)
theorem bin_step {n : Int} {i : Nat} (hi : (i : Int) < n) : ((bin n.toNat i : Nat) : Int) * (n - (0 + (i : Int))) / (0 + (i : Int) + 1) = ((bin n.toNat (i + 1) : Nat) : Int) := by
  have h := bin_mul n.toNat i
  have e : n - (0 + (i : Int)) = ((n.toNat - i : Nat) : Int) := by omega
  have e2 : (0 : Int) + (i : Int) + 1 = ((i + 1 : Nat) : Int) := by omega
  rw [e, e2, ← Int.natCast_mul, ← h, Int.natCast_mul]
  exact Int.mul_ediv_cancel _ (by omega)
theorem sc_choose : FnScope ["many", "some", "found", "k"] ["many", "some"] (defScope s_choose) := ⟨rfl, rfl, rfl, by decide +kernel, rfl, by decide +kernel, by decide +kernel⟩
def spChoose (_K : PySem.W.Frag) : Sp := fun vs H Q _ => ∃ (n k : Int), vs = [.int n, .int k] ∧ (0 ≤ n ∧ n ≤ 40) ∧ Q (.int (chooseI n k)) H
theorem ok_choose {P : Program} {w : World} {K : PySem.W.Frag} {mg : Str → Option Value} {base : Heap} (T : Tx K mg) : Def P w K mg base CX0 1 "choose" ["many", "some"] (spChoose K) := by
  obtain ⟨fd, F⟩ := T.d_choose
  refine ⟨_, fd, F.ok sc_choose (fun vs H Q E h => ?_) (fun cdv A outer s H vs Q E hr h => ?_), F.bindsN fun _ _ _ _ _ _ us hl => match us, hl with | [_, _], _ => rfl, T.g_choose, F.kp⟩
  · obtain ⟨n, k, rfl, _⟩ := h
    rfl
  · obtain ⟨n, k, rfl, hn, q⟩ := h
    refine ⟨_, PSs.nox (pss_cons (ps_if (PW.pt (pw_or (pt_cmpR op_lt (pv 1) pe_int (nomark _)) (pw_or1 (pt_cmpR op_gt (pv 1) (pv 0) (nomark _)))))
        (pss_one (ps_ret pe_int))
        pss_nil)
        (pss_cons (ps_set (i := 2) sc_choose.nd rfl (by first | exact Or.inl rfl | exact Or.inr rfl) pe_int)
        (pss_cons (ps_for PassesOwn.never rfl (pi_range1 rfl T.f_range (pa_cons (pv 1) pa_nil)) (pg_name (i := 3) sc_choose.nd rfl (by first | exact Or.inl rfl | exact Or.inr rfl))
        (pss_one (ps_set (i := 2) sc_choose.nd rfl (by first | exact Or.inl rfl | exact Or.inr rfl) (pe_op op_fdiv (pe_op op_mul (pv 2) (pe_op op_sub (pv 0) (pv 3))) (pe_op op_add (pv 3) pe_int)))))
        (pss_one (ps_ret (pv 2)))))), ?_⟩
    refine ⟨_, rfl, _, _, rfl, rfl, _, rfl, ifB (fun c => ifT rfl ?_) (fun c => ⟨_, rfl, _, rfl, _, _, rfl, rfl, _, rfl, ifB (fun c2 => ?_) (fun c2 => ?_)⟩)⟩
    · have c1 : k < 0 := of_decide_eq_true c
      have e : chooseI n k = 0 := if_pos c1
      rw [e] at q
      exact q
    · have c1 : ¬ k < 0 := of_decide_eq_false c
      have c3 : n < k := of_decide_eq_true c2
      have e : chooseI n k = 0 := by
        unfold chooseI
        rw [if_neg c1, if_pos c3]
      rw [e] at q
      exact q
    · have c1 : ¬ k < 0 := of_decide_eq_false c
      have c3 : ¬ n < k := of_decide_eq_false c2
      refine ⟨_, rfl, _, rfl, by omega, by omega, for_it walk_range (fun i σ' H' => ∃ y3, σ' = [some (.int n), some (.int k), some (.int (bin n.toNat i : Nat)), y3] ∧ H' = H) ⟨none, by rw [bin_zero]; rfl, rfl⟩ (fun _ _ _ _ _ => trivial) (fun i x σ' H2 H3 hi hP y => ?_) (fun σ' H' hP => ?_)⟩
      · obtain ⟨y3, rfl, rfl⟩ := hP
        obtain ⟨rfl, rfl⟩ := y
        have hb := bin_small (n := n.toNat) (k := i) (by omega)
        refine ⟨_, rfl, _, rfl, _, rfl, _, _, rfl, rfl, _, _, rfl, rfl, .inl ⟨by omega, by omega⟩, _, rfl, _, _, rfl, rfl, _, _, rfl, rfl, ⟨by omega, by omega⟩, ?_⟩
        have e := bin_step (n := n) (i := i) (by omega)
        exact ⟨some (.int (0 + (i : Int))), by dsimp only; rw [e]; rfl, rfl⟩
      · obtain ⟨y3, rfl, rfl⟩ := hP
        have e : chooseI n k = ((bin n.toNat k.toNat : Nat) : Int) := by
          unfold chooseI
          rw [if_neg c1, if_neg c3]
        rw [e] at q
        exact ⟨_, rfl, q⟩
end Mh
/-! MhHeart -/
namespace Mh
open PySem PySem.Spec PyProof.Rows L2
/-! ### what was learnt by heart -/
def hasTw (t : Tsk) (k : Nat) : Bool := match t.rows[k]? with
  | some r => r.twin.isSome
  | none => false
def twP (t : Tsk) (k : Nat) : Int × Int := match t.rows[k]? with
  | some r => r.twin.getD (0, 0)
  | none => (0, 0)
def twR (m : Mch) (t : Tsk) (s : Int) (k : Nat) : Bool := askedM m (twP t k).1 s == some (twP t k).2
def ixN' (t : Tsk) (i : Nat) : List Nat := (List.range i).filter (hasTw t)
def ixT (t : Tsk) : List Nat := ixN' t t.rows.length
theorem ixN_succ (t : Tsk) (i : Nat) : ixN' t (i + 1) = ixN' t i ++ (if hasTw t i then [i] else []) := by
  unfold ixN'
  rw [List.range_succ, List.filter_append]
  congr 1
  cases h : hasTw t i <;> simp [List.filter, h]
theorem ixN_len (t : Tsk) (i : Nat) : (ixN' t i).length ≤ i := Nat.le_trans (List.length_filter_le _ _) (by rw [List.length_range]; exact Nat.le_refl _)
theorem ixT_get {t : Tsk} {i k : Nat} (h : (ixT t)[i]? = some k) : ∃ r p, t.rows[k]? = some r ∧ r.twin = some p ∧ twP t k = p ∧ k < t.rows.length := by
  obtain ⟨h1, h2⟩ := List.mem_filter.mp (List.mem_of_getElem? h)
  have h3 := List.mem_range.mp h1
  unfold hasTw at h2
  cases hr : t.rows[k]? with
  | none => rw [hr] at h2; cases h2
  | some r =>
    rw [hr] at h2
    cases hp : r.twin with
    | none => simp [hp] at h2
    | some p => exact ⟨r, p, rfl, hp, by unfold twP; rw [hr]; simp [hp], h3⟩
theorem filt_succ {α : Type} (p : α → Bool) {l : List α} {i : Nat} {x : α} (h : l[i]? = some x) : (l.take (i + 1)).filter p = (l.take i).filter p ++ (if p x then [x] else []) := by
  rw [List.take_add_one, h, List.filter_append]
  congr 1
  cases hx : p x <;> simp [List.filter, hx]
structure Hrt where
  many : Nat
  here : Nat
  there : Nat
def hrt (m : Mch) (t : Tsk) (s : Int) : Hrt := ⟨(ixT t).length, ((ixT t).filter (rightB m t s)).length, ((ixT t).filter (twR m t s)).length⟩
theorem hrt_le (m : Mch) (t : Tsk) (s : Int) : (hrt m t s).here ≤ (hrt m t s).many ∧ (hrt m t s).there ≤ (hrt m t s).many ∧ (hrt m t s).many ≤ t.rows.length :=
  ⟨List.length_filter_le _ _, List.length_filter_le _ _, ixN_len _ _⟩
def Hrt.term (h : Hrt) (i : Nat) : Int := chooseI h.many (h.here + (i : Nat)) * chooseI h.many ((h.here : Int) + h.there - (h.here + (i : Nat)))
def sumTo (f : Nat → Int) : Nat → Int
  | 0 => 0
  | n + 1 => sumTo f n + f n
theorem sum_range (f : Nat → Int) : ∀ n, ((List.range n).map f).sum = sumTo f n
  | 0 => rfl
  | n + 1 => by
    rw [List.range_succ, List.map_append, List.sum_append, sum_range f n]
    simp [sumTo]
def Hrt.ways (h : Hrt) : Int := sumTo h.term (h.many + 1 - h.here)
def Hrt.d (h : Hrt) : PyData := .tuple [.int h.many, .int h.here, .int h.there, .int h.ways, .int (chooseI (2 * (h.many : Int)) ((h.here : Int) + h.there))]
theorem chooseI_small {n k : Int} (hn : 0 ≤ n ∧ n ≤ 40) : 0 ≤ chooseI n k ∧ chooseI n k < 2 ^ 64 := by
  have := bin_small (n := n.toNat) (k := k.toNat) (by omega)
  unfold chooseI
  split
  · omega
  · split <;> omega
theorem in_right {m : Mch} {t : Tsk} {s : Int} {k : Nat} (hk : k < t.rows.length) : inV (.int (k : Nat)) ((rightL m t s).map V.int) = rightB m t s k := by
  rw [Bool.eq_iff_iff]
  unfold inV
  rw [List.any_eq_true]
  constructor
  · rintro ⟨y, hy, e⟩
    obtain ⟨j, hj, rfl⟩ := List.mem_map.mp hy
    obtain ⟨i, hi, rfl⟩ := List.mem_map.mp hj
    have e2 : ((i : Nat) : Int) = ((k : Nat) : Int) := by simpa [eqV] using e
    have e3 : i = k := Int.ofNat.inj e2
    rw [← e3]
    exact (List.mem_filter.mp hi).2
  · intro h
    exact ⟨.int (k : Nat), List.mem_map.mpr ⟨_, List.mem_map.mpr ⟨k, List.mem_filter.mpr ⟨List.mem_range.mpr hk, h⟩, rfl⟩, rfl⟩, by simp [eqV]⟩
theorem natI (a : Int) (i : Nat) : V.int (a + (i : Int)) = V.int (a + (i : Nat)) := rfl
theorem sc_heart : FnScope ["machine", "task", "seed", "good", "some", "here", "twins", "there", "many", "ways", "number", "one", "question", "due", "k"] ["machine", "task", "seed"] (defScope s_heart) := ⟨rfl, rfl, rfl, by decide +kernel, rfl, by decide +kernel, by decide +kernel⟩
def spHeart (K : PySem.W.Frag) : Sp := fun vs H Q _ => ∃ (v u : V) (m : Mch) (t : Tsk) (s : Int), vs = [v, u, .int s] ∧ Dp K H v (machD m) ∧ Dp K H u (taskD t) ∧ m.ok ∧ t.ok ∧ (0 ≤ s ∧ s ≤ 999) ∧
  ∀ (H' : Hp) (w : V), Fx [] H H' → Dp K H' w (hrt m t s).d → Q w H'
theorem ok_heart {P : Program} {w : World} {K : PySem.W.Frag} {mg : Str → Option Value} {base : Heap} (T : Tx K mg) : DefN P w K mg base CX0 6 "heart" ["machine", "task", "seed"] 2 ["seed"] (spHeart K) := by
  obtain ⟨fd, F⟩ := T.d_heart
  have G_right := ok_right (P := P) (w := w) (base := base) T
  have G_choose := ok_choose (P := P) (w := w) (base := base) T
  have G_asked := ok_asked (P := P) (w := w) (base := base) T
  obtain ⟨mv, BN⟩ := F.kbinds0 (ps := ["machine", "task", "seed"]) 2 ["seed"] [] (fun vs _ zs => vs ++ zs) (List.cons_ne_nil _ _) (fun q h => nomatch h) (fun r1 _ r3 => r1.append r3) (fun D doc pm an cdv ct us mv ws l1 l2 l3 => match us, mv, ws, l1, l2, l3 with | [_, _], [], [_], _, _, _ => rfl)
  obtain ⟨ds, hds, BD⟩ := F.binds0 (ps := ["machine", "task", "seed"]) 2 (List.cons_ne_nil _ _) rfl (fun D doc pm an cdv ct us ks l1 l2 => match us, ks, l1, l2 with | [_, _], [_], _, _ => ⟨_, _, _, _, _, _, rfl, rfl, rfl⟩)
  refine ⟨_, fd, _, ds, F.ok sc_heart (fun vs H Q E h => ?_) (fun cdv A outer s H vs Q E hr h => ?_), BN, hds, BD, T.g_heart, F.kp⟩
  · obtain ⟨v, u, m, t, s, rfl, _⟩ := h
    rfl
  · obtain ⟨v, u, m, t, sd, rfl, hm, hd, hmo, ht, hs, q⟩ := h
    refine ⟨_, PSs.nox (pss_cons (ps_set (i := 3) sc_heart.nd rfl (by first | exact Or.inl rfl | exact Or.inr rfl) (pe_defN G_right (hr.mono (by omega)) pass0 (pa_cons (pv 0) (pa_cons (pv 1) pa_nil)) (pk_cons (pv 2) pk_nil)))
        (pss_cons (ps_setLc (i := 4) (own := [("number", 10), ("one", 11)]) (g := (gTup _ 2 (gCons (gName 10) (gCons (gName 11) gNil)))) (tt := _) rfl sc_heart.nd rfl rfl (sw_true rfl rfl rfl (by decide +kernel)) (pi_enumT (by rfl) T.f_enumerate (pa_cons (pe_ix ix_tup (pv 1) pe_int (fun _ _ => rfl)) pa_nil)) (blkOk_by (own := [("number", 10), ("one", 11)]) (N := ["machine", "task", "seed", "good", "some", "here", "twins", "there", "many", "ways", "number", "one", "question", "due", "k"]) (sc := defScope s_heart) (by decide +kernel)) (fun _ _ _ _ _ => pg_tup rfl (pgs_cons (pg_name (i := 10) sc_heart.nd rfl (Or.inl rfl)) (pgs_cons (pg_name (i := 11) sc_heart.nd rfl (Or.inl rfl)) pgs_nil))) (fun _ _ _ _ _ => pts_one (pt_cmpR op_notN (pe_ix (kix_tup (K := K) rfl) (pv 11) pe_int (fun _ _ => rfl)) pe_non (nomark _))) (fun _ _ _ _ _ => (pv 10)))
        (pss_cons (ps_set (i := 5) sc_heart.nd rfl (by first | exact Or.inl rfl | exact Or.inr rfl) (pe_callB call_len_seq (by rfl) T.f_len (by decide +kernel) (pa_cons (pe_lc (own := [("number", 10)]) (g := (gName 10)) (tt := _) rfl sc_heart.nd (pi_list (pv 4)) (blkOk_by (own := [("number", 10)]) (N := ["machine", "task", "seed", "good", "some", "here", "twins", "there", "many", "ways", "number", "one", "question", "due", "k"]) (sc := defScope s_heart) (by decide +kernel)) (fun _ _ _ _ _ => pg_name (i := 10) sc_heart.nd rfl (Or.inl rfl)) (fun _ _ _ _ _ => pts_one (pt_cmpR (kop_in (K := K) rfl) (pv 10) (pv 3) (by rfl))) (fun _ _ _ _ _ => (pv 10))) pa_nil)))
        (pss_cons (ps_setLc (i := 6) (own := [("number", 10)]) (g := (gName 10)) (tt := tYes) rfl sc_heart.nd rfl rfl (sw_true rfl rfl rfl (by decide +kernel)) (pi_list (pv 4)) (blkOk_by (own := [("number", 10)]) (N := ["machine", "task", "seed", "good", "some", "here", "twins", "there", "many", "ways", "number", "one", "question", "due", "k"]) (sc := defScope s_heart) (by decide +kernel)) (fun _ _ _ _ _ => pg_name (i := 10) sc_heart.nd rfl (Or.inl rfl)) (fun _ _ _ _ _ => pts_nil) (fun _ _ _ _ _ => (pe_ix (kix_tup (K := K) rfl) (pe_ix (kix_tup (K := K) rfl) (pe_ix (kix_tup (K := K) rfl) (pv 1) pe_int (fun _ _ => rfl)) (pv 10) (fun _ _ => rfl)) pe_int (fun _ _ => rfl))))
        (pss_cons (ps_set (i := 7) sc_heart.nd rfl (by first | exact Or.inl rfl | exact Or.inr rfl) (pe_callB call_len_seq (by rfl) T.f_len (by decide +kernel) (pa_cons (pe_lc (own := [("question", 12), ("due", 13)]) (g := (gTup _ 2 (gCons (gName 12) (gCons (gName 13) gNil)))) (tt := _) rfl sc_heart.nd (pi_list (pv 6)) (blkOk_by (own := [("question", 12), ("due", 13)]) (N := ["machine", "task", "seed", "good", "some", "here", "twins", "there", "many", "ways", "number", "one", "question", "due", "k"]) (sc := defScope s_heart) (by decide +kernel)) (fun _ _ _ _ _ => pg_tup rfl (pgs_cons (pg_name (i := 12) sc_heart.nd rfl (Or.inl rfl)) (pgs_cons (pg_name (i := 13) sc_heart.nd rfl (Or.inl rfl)) pgs_nil))) (fun _ _ _ _ _ => pts_one (pt_cmpR op_eq (pe_def G_asked (hr.mono (by omega)) pass0 (pa_cons (pv 0) (pa_cons (pv 12) (pa_cons (pv 2) pa_nil)))) (pv 13) (nomark _))) (fun _ _ _ _ _ => (pv 12))) pa_nil)))
        (pss_cons (ps_set (i := 8) sc_heart.nd rfl (by first | exact Or.inl rfl | exact Or.inr rfl) (pe_callB call_len_seq (by rfl) T.f_len (by decide +kernel) (pa_cons (pv 4) pa_nil)))
        (pss_cons (ps_set (i := 9) sc_heart.nd rfl (by first | exact Or.inl rfl | exact Or.inr rfl) (pe_callB (cr_sum rfl) (by rfl) T.f_sum (by decide +kernel) (pa_cons (pe_lc (own := [("k", 14)]) (g := (gName 14)) (tt := tYes) rfl sc_heart.nd (pi_range2 rfl T.f_range (pa_cons (pv 5) (pa_cons (pe_op op_add (pv 8) pe_int) pa_nil))) (blkOk_by (own := [("k", 14)]) (N := ["machine", "task", "seed", "good", "some", "here", "twins", "there", "many", "ways", "number", "one", "question", "due", "k"]) (sc := defScope s_heart) (by decide +kernel)) (fun _ _ _ _ _ => pg_name (i := 14) sc_heart.nd rfl (Or.inl rfl)) (fun _ _ _ _ _ => pts_nil) (fun _ _ _ _ _ => (pe_op op_mul (pe_def G_choose (hr.mono (by omega)) pass0 (pa_cons (pv 8) (pa_cons (pv 14) pa_nil))) (pe_def G_choose (hr.mono (by omega)) pass0 (pa_cons (pv 8) (pa_cons (pe_op op_sub (pe_op op_add (pv 5) (pv 7)) (pv 14)) pa_nil)))))) pa_nil)))
        (pss_one (ps_ret (pe_tup (pa_cons (pv 8) (pa_cons (pv 5) (pa_cons (pv 7) (pa_cons (pv 9) (pa_cons (pe_def G_choose (hr.mono (by omega)) pass0 (pa_cons (pe_op op_mul pe_int (pv 8)) (pa_cons (pe_op op_add (pv 5) (pv 7)) pa_nil))) pa_nil))))))))))))))), ?_⟩
    have hlen := ht.len
    refine ⟨v, rfl, u, rfl, _, rfl, rfl, rfl, ⟨v, u, m, t, sd, rfl, hm, hd, hmo, ht, hs, fun H1 w f1 hw => ?_⟩⟩
    obtain ⟨gd, gs, rfl, hgs, hgx⟩ := hw.tupI
    obtain rfl := DpAll.intsI hgx
    obtain ⟨a, v0, v1, rfl, hs0, h0, h1⟩ := (hd.ext f1).tup2
    cases h1
    obtain ⟨b, xs, rfl, hb, hx⟩ := h0.tupI
    have hxl : xs.length = t.rows.length := by rw [hx.len, List.length_map]
    -- some
    refine rd_ixT (j := 0) rfl hs0 rfl ⟨b, xs, rfl, hb, fun D hD => lc_rel (walk_enT (xs := xs)) (fun i acc H2 => Fx [] H1 H2 ∧ acc = (ixN' t i).map natV) ⟨Fx.new hD, rfl⟩ (fun i acc H2 r => r.1.sqT hb) (fun i acc x H2 H3 hi hl hDa r y => ?_) (fun acc H2 hl hDa r => ?_)⟩
    · obtain ⟨T', u, w, rfl, hT, hu, hv⟩ := YPair.tup y
      cases hu
      have fy : Fx [] H2 H3 := YPair.fx y
      obtain ⟨f, rfl⟩ := r
      have f3 := f.trans fy
      have hDa3 := fy.to hDa fun z => nomatch z
      obtain ⟨d, g1, g2⟩ := hx.get hv
      rw [List.getElem?_map] at g1
      obtain ⟨r, hrr, rfl⟩ := Option.map_eq_some_iff.mp g1
      have g3 := g2.ext f3
      obtain ⟨c, w0, w1, w2, rfl, hc, k0, k1, k2⟩ := g3.tup3
      refine ⟨T', _, rfl, SqT.of hT, rfl, _, _, rfl, _, _, rfl, rfl, rfl, ?_⟩
      have er : hasTw t i = !decide (w2 = .non) := by
        unfold hasTw
        rw [hrr]
        cases htw : r.twin with
        | none =>
          rw [htw] at k2
          cases k2
          simp [htw]
        | some p =>
          rw [htw] at k2
          obtain ⟨_, _, _, rfl, _⟩ := k2.tup2
          simp [htw]
      refine rd_ixT (j := 2) rfl hc rfl ⟨rfl, _, rfl, ?_⟩
      rw [← er]
      refine ifB (fun c2 => ?_) (fun c2 => ?_)
      · refine ⟨_, rfl, Put.ok hl (by omega) hDa3 ⟨f3.loc hD (Chg.lst hDa3), ?_⟩⟩
        rw [ixN_succ, c2, List.map_append]
        rfl
      · refine Pvl.skip hl hDa3 ⟨f3, ?_⟩
        rw [ixN_succ, c2]
        simp
    · obtain ⟨f2, rfl⟩ := r
      rw [hxl] at hDa
      have hso : H2 D = some (.lst ((ixT t).map natV)) := hDa
      have hgs2 := f2.sqT hgs
      have hil : (ixT t).length ≤ 16 := Nat.le_trans (ixN_len t _) hlen
      -- here
      refine ⟨_, rfl, D, rfl, ⟨_, SqL.of hso⟩, fun D2 hD2 => lc_rel (walk_list (xs := (ixT t).map natV)) (fun i acc H3 => Fx [] H2 H3 ∧ acc = (((ixT t).take i).filter (rightB m t sd)).map natV) ⟨Fx.new hD2, rfl⟩ (fun i acc H3 r => SqL.of (r.1.to hso fun z => nomatch z)) (fun i acc x H3 H4 hi hl hDa r y => ?_) (fun acc H3 hl hDa r => ?_)⟩
      · obtain ⟨rfl, hxg⟩ := y
        rw [List.getElem?_map] at hxg
        obtain ⟨k, hk, rfl⟩ := Option.map_eq_some_iff.mp hxg
        obtain ⟨f, rfl⟩ := r
        obtain ⟨_, _, _, _, _, hkl⟩ := ixT_get hk
        refine ⟨rfl, _, rfl, _, rfl, gd, _, rfl, .inr (f.sqT hgs2), rfl, all_flat _, ?_⟩
        rw [if_neg (by decide), show inV (natV k) ((rightL m t sd).map V.int) = rightB m t sd k from in_right hkl]
        refine ⟨_, rfl, ifB (fun c2 => ?_) (fun c2 => ?_)⟩
        · refine ⟨_, rfl, Put.ok hl (by rw [List.length_map] at hi; omega) hDa ⟨f.loc hD2 (Chg.lst hDa), ?_⟩⟩
          rw [filt_succ _ hk, c2, List.map_append]
          rfl
        · refine Pvl.skip hl hDa ⟨f, ?_⟩
          rw [filt_succ _ hk, c2]
          simp
      · obtain ⟨f3, rfl⟩ := r
        rw [List.length_map, List.take_length] at hDa
        refine ⟨D2, _, rfl, .inl (SqL.of hDa), ?_⟩
        rw [List.length_map]
        have hso3 := f3.to hso fun z => nomatch z
        have f23 := f2.trans f3
        -- twins
        refine ⟨_, rfl, D, rfl, ⟨_, SqL.of hso3⟩, fun D3 hD3 => lc_rel (walk_list (xs := (ixT t).map natV)) (fun i acc H4 => Fx [] H3 H4 ∧ DpAll K H4 acc (((ixT t).take i).map fun k => twinD (some (twP t k)))) ⟨Fx.new hD3, .nil⟩ (fun i acc H4 r => SqL.of (r.1.to hso3 fun z => nomatch z)) (fun i acc x H4 H5 hi hl hDa r y => ?_) (fun acc H4 hl hDa4 r => ?_)⟩
        · obtain ⟨rfl, hxg⟩ := y
          rw [List.getElem?_map] at hxg
          obtain ⟨k, hk, rfl⟩ := Option.map_eq_some_iff.mp hxg
          obtain ⟨f, hacc⟩ := r
          obtain ⟨r, p, hrr, htw, hp, hkl⟩ := ixT_get hk
          obtain ⟨w, g1, g2⟩ := hx.at (i := k) (d := r.d) (by rw [List.getElem?_map, hrr]; rfl)
          have g3 := (g2.ext f23).ext f
          obtain ⟨c, w0, w1, w2, rfl, hc, k0, k1, k2⟩ := g3.tup3
          have fA := f23.trans f
          refine ⟨rfl, rd_yes (rd_ixT (j := 0) rfl (fA.sqT hs0) rfl ⟨_, rfl, b, xs, (k : Nat), _, rfl, rfl, fA.sqT hb, atI_nat g1, c, _, 2, _, rfl, rfl, hc, atI_nat (j := 2) rfl, ?_⟩)⟩
          refine Put.ok hl (by rw [List.length_map] at hi; omega) hDa ⟨f.loc hD3 (Chg.lst hDa), ?_⟩
          have fD : Fx [D3] H5 (upd H5 D3 (.lst (acc ++ [w2]))) := Fx.set List.mem_cons_self (Chg.lst hDa)
          rw [List.take_add_one, hk, List.map_append]
          have nl2 : nolA (((ixT t).take i).map fun k => twinD (some (twP t k))) = true := by
            generalize (ixT t).take i = l
            induction l with
            | nil => rfl
            | cons z l ih =>
              show (nol (twinD _) && nolA _) = true
              rw [twin_nol, ih]
              rfl
          refine (hacc.mv fD nl2).snoc ?_
          rw [htw, ← hp] at k2
          exact k2.mv fD (twin_nol _)
        · obtain ⟨f4, hacc⟩ := r
          rw [List.length_map, List.take_length] at hacc
          have hal : acc.length = (ixT t).length := by rw [hacc.len, List.length_map]
          have f234 := f23.trans f4
          -- there
          refine ⟨_, rfl, D3, rfl, ⟨_, SqL.of hDa4⟩, fun D4 hD4 => lc_rel (walk_list (xs := acc)) (fun i ac2 H5 => Fx [] H4 H5 ∧ ac2.length = (((ixT t).take i).filter (twR m t sd)).length) ⟨Fx.new hD4, rfl⟩ (fun i ac2 H5 r => SqL.of (r.1.to hDa4 fun z => nomatch z)) (fun i ac2 x H5 H6 hi hl hDa r y => ?_) (fun ac2 H5 hl hDa5 r => ?_)⟩
          · obtain ⟨rfl, hxg⟩ := y
            obtain ⟨f, hac⟩ := r
            obtain ⟨d, g1, g2⟩ := hacc.get hxg
            rw [List.getElem?_map] at g1
            obtain ⟨k, hk, rfl⟩ := Option.map_eq_some_iff.mp g1
            obtain ⟨c, w0, w1, rfl, hc, k0, k1⟩ := (g2.ext f).tup2
            cases k0
            cases k1
            have fA := (f1.trans f234).trans f
            refine ⟨c, _, rfl, hc, rfl, _, _, rfl, _, _, rfl, rfl, rfl, ?_⟩
            refine ⟨v, rfl, _, rfl, _, rfl, ⟨v, m, (twP t k).1, sd, rfl, hm.ext fA, hmo.rows, ⟨_, rfl, eq_oV (K := K) ⟨_, rfl, ?_⟩⟩⟩⟩
            refine ifB (fun c2 => ?_) (fun c2 => ?_)
            · refine ⟨_, rfl, Put.ok hl (by omega) hDa ⟨f.loc hD4 (Chg.lst hDa), ?_⟩⟩
              rw [filt_succ _ hk, show twR m t sd k = true from c2, List.length_append, List.length_append, hac]
              rfl
            · refine Pvl.skip hl hDa ⟨f, ?_⟩
              rw [filt_succ _ hk, show twR m t sd k = false from c2]
              simp [hac]
          · obtain ⟨f5, hac⟩ := r
            rw [hal, List.take_length] at hac
            refine ⟨D4, _, rfl, .inl (SqL.of hDa5), ?_⟩
            rw [hac]
            have hso5 := (f4.trans f5).to hso3 fun z => nomatch z
            refine ⟨_, rfl, D, _, rfl, .inl (SqL.of hso5), ?_⟩
            rw [List.length_map]
            have hle := hrt_le m t sd
            have eM : (ixT t).length = (hrt m t sd).many := rfl
            have eH : ((ixT t).filter (rightB m t sd)).length = (hrt m t sd).here := rfl
            have eT : ((ixT t).filter (twR m t sd)).length = (hrt m t sd).there := rfl
            rw [eM] at hil
            rw [eM, eH, eT]
            generalize hrt m t sd = hr at q hle hil
            have hmb : (0 : Int) ≤ (hr.many : Int) ∧ (hr.many : Int) ≤ 40 := ⟨by omega, by omega⟩
            -- ways
            refine ⟨_, rfl, _, rfl, _, _, rfl, rfl, _, _, rfl, ⟨by omega, by omega, by omega, by omega⟩, fun D5 hD5 => lc_map walk_range (fun i => .int (hr.term i)) (by omega) hD5 (fun _ _ => trivial) (fun _ _ _ _ y => YFn.fx y) (fun i x H6 H7 Qe Z hi f y k => ?_) (fun H6 f6 hL => ?_)⟩
            · obtain ⟨rfl, rfl⟩ := y
              refine ⟨rfl, ifT rfl ?_⟩
              have cs := chooseI_small (n := hr.many) (k := hr.here + (i : Nat)) hmb
              refine ⟨_, rfl, _, rfl, ⟨_, _, rfl, hmb, ?_⟩⟩
              refine ⟨_, rfl, _, rfl, _, rfl, _, _, rfl, rfl, _, rfl, _, _, rfl, rfl, ⟨_, _, rfl, hmb, ?_⟩⟩
              exact ⟨_, _, rfl, rfl, .inl ⟨by omega, by omega⟩, k _ .refl⟩
            · have eN : (((hr.many : Int) + 1 - (hr.here : Int)).toNat) = hr.many + 1 - hr.here := by omega
              rw [eN] at hL
              refine ⟨D5, (List.range (hr.many + 1 - hr.here)).map hr.term, rfl, SqL.of (by rw [hL, List.map_map]; rfl), ?_⟩
              rw [sum_range]
              refine ⟨_, rfl, _, rfl, _, rfl, _, rfl, _, rfl, _, _, rfl, rfl, .inl ⟨by decide, by decide⟩, _, rfl, _, rfl, _, _, rfl, rfl, ⟨_, _, rfl, ⟨by omega, by omega⟩, ?_⟩⟩
              refine ⟨by show 5 ≤ sizeLine; decide, fun p hp => ?_⟩
              exact q _ _ ((((f1.trans f234).trans f5).trans f6).trans (Fx.new hp)) (.tup (SqT.of upd_same) (.cons (.int _) (.cons (.int _) (.cons (.int _) (.cons (.int _) (.cons (.int _) .nil))))))
end Mh
/-! MhTry -/
namespace Mh
open PySem PySem.Spec PyProof.Rows L2
/-! ### all ways, tried one by one -/
def tryRow (c : Int) (k : Nat) : Qst := ⟨(k : Nat), (k : Nat) + c, some (100 + (k : Nat), 100 + (k : Nat) + c)⟩
def tryT (n : Nat) (c : Int) : Tsk := ⟨(List.range n).map (tryRow c), 1⟩
def tryK (A B : List Nat) : List Int := (A.map fun k => ((k : Nat) : Int)) ++ B.map fun k => 100 + ((k : Nat) : Int)
def tryM (ks : List Int) (c : Int) : Mch := if ks = [] then [(.any, .none)] else [(.known ks, .plus c)]
theorem inV_int (q : Int) (ks : List Int) : inV (.int q) (ks.map V.int) = decide (q ∈ ks) := by
  rw [Bool.eq_iff_iff, decide_eq_true_iff]
  unfold inV
  rw [List.any_eq_true]
  constructor
  · rintro ⟨y, hy, e⟩
    obtain ⟨j, hj, rfl⟩ := List.mem_map.mp hy
    have e2 : j = q := by simpa [eqV] using e
    exact e2 ▸ hj
  · intro h
    exact ⟨.int q, List.mem_map.mpr ⟨q, h, rfl⟩, by simp [eqV]⟩
theorem tryM_asked (ks : List Int) (c q s : Int) : askedM (tryM ks c) q s = if q ∈ ks then some (q + c) else none := by
  unfold tryM
  by_cases e : ks = []
  · rw [if_pos e, e]
    rfl
  · rw [if_neg e]
    show (if inV (.int q) (ks.map V.int) then some (q + c) else none) = _
    rw [inV_int]
    by_cases h : q ∈ ks <;> simp [h]
theorem tryM_some (ks : List Int) (c q s : Int) : (askedM (tryM ks c) q s == some (q + c)) = decide (q ∈ ks) := by
  rw [tryM_asked]
  by_cases h : q ∈ ks <;> simp [h]
theorem filter_sub {A L : List Nat} (h : A.Sublist L) (nd : L.Nodup) : L.filter (fun k => decide (k ∈ A)) = A := by
  induction h with
  | slnil => rfl
  | @cons A L a h ih =>
    obtain ⟨h1, h2⟩ := List.nodup_cons.mp nd
    have : a ∉ A := fun z => h1 (h.subset z)
    rw [List.filter_cons_of_neg (by simpa using this), ih h2]
  | @cons_cons A L a h ih =>
    obtain ⟨h1, h2⟩ := List.nodup_cons.mp nd
    rw [List.filter_cons_of_pos (by simp)]
    congr 1
    have e : L.filter (fun k => decide (k ∈ a :: A)) = L.filter (fun k => decide (k ∈ A)) := by
      refine List.filter_congr fun x hx => ?_
      have : x ≠ a := fun z => h1 (z ▸ hx)
      simp [this]
    rw [e, ih h2]
theorem tryT_get {n k : Nat} (c : Int) (h : k < n) : (tryT n c).rows[k]? = some (tryRow c k) := by
  show ((List.range n).map (tryRow c))[k]? = _
  rw [List.getElem?_map, List.getElem?_range h]
  rfl
theorem tryT_len (n : Nat) (c : Int) : (tryT n c).rows.length = n := by
  show ((List.range n).map (tryRow c)).length = n
  rw [List.length_map, List.length_range]
theorem try_ix (n : Nat) (c : Int) : ixT (tryT n c) = List.range n := by
  unfold ixT ixN'
  rw [tryT_len]
  refine List.filter_eq_self.mpr fun k hk => ?_
  unfold hasTw
  rw [tryT_get c (List.mem_range.mp hk)]
  rfl
theorem nd_range (n : Nat) : (List.range n).Nodup := List.nodup_range
theorem try_hrt {n : Nat} {A B : List Nat} (c s : Int) (hA : A.Sublist (List.range n)) (hB : B.Sublist (List.range n)) (hn : n ≤ 4) : hrt (tryM (tryK A B) c) (tryT n c) s = ⟨n, A.length, B.length⟩ := by
  unfold hrt
  rw [try_ix, List.length_range]
  have e1 : (List.range n).filter (rightB (tryM (tryK A B) c) (tryT n c) s) = (List.range n).filter (fun k => decide (k ∈ A)) := by
    refine List.filter_congr fun k hk => ?_
    have hk2 := List.mem_range.mp hk
    unfold rightB
    rw [tryT_get c hk2]
    show (askedM (tryM (tryK A B) c) ((k : Nat) : Int) s == some (((k : Nat) : Int) + c)) = _
    rw [tryM_some, decide_eq_decide]
    unfold tryK
    rw [List.mem_append, List.mem_map, List.mem_map]
    constructor
    · rintro (⟨j, hj, e⟩ | ⟨j, hj, e⟩)
      · have : j = k := by omega
        exact this ▸ hj
      · omega
    · intro h
      exact .inl ⟨k, h, rfl⟩
  have e2 : (List.range n).filter (twR (tryM (tryK A B) c) (tryT n c) s) = (List.range n).filter (fun k => decide (k ∈ B)) := by
    refine List.filter_congr fun k hk => ?_
    have hk2 := List.mem_range.mp hk
    have ep : twP (tryT n c) k = (100 + ((k : Nat) : Int), 100 + ((k : Nat) : Int) + c) := by
      unfold twP
      rw [tryT_get c hk2]
      rfl
    unfold twR
    rw [ep]
    show (askedM (tryM (tryK A B) c) (100 + ((k : Nat) : Int)) s == some (100 + ((k : Nat) : Int) + c)) = _
    rw [tryM_some, decide_eq_decide]
    unfold tryK
    rw [List.mem_append, List.mem_map, List.mem_map]
    constructor
    · rintro (⟨j, hj, e⟩ | ⟨j, hj, e⟩)
      · have := List.mem_range.mp (hA.subset hj)
        omega
      · have : j = k := by omega
        exact this ▸ hj
    · intro h
      exact .inr ⟨k, h, rfl⟩
  rw [e1, e2, filter_sub hA (nd_range n), filter_sub hB (nd_range n)]
theorem tryT_ok {n : Nat} {c : Int} (h1 : 1 ≤ n) (h2 : n ≤ 4) (hc : 1 ≤ c ∧ c ≤ 5) : (tryT n c).ok := by
  refine ⟨fun z => ?_, by rw [tryT_len]; omega, fun r hr => ?_, ?_, ⟨by show (1 : Int) ≤ 1; decide, by show (1 : Int) ≤ 9; decide⟩⟩
  · have := tryT_len n c
    rw [z] at this
    have : 0 = n := this
    omega
  · obtain ⟨k, hk, rfl⟩ := List.mem_map.mp hr
    have hk2 := List.mem_range.mp hk
    refine ⟨⟨by show (0 : Int) ≤ (k : Nat); omega, by show ((k : Nat) : Int) ≤ 9999; omega⟩, ⟨by show -99999999 ≤ ((k : Nat) : Int) + c; omega, by show ((k : Nat) : Int) + c ≤ 99999999; omega⟩, fun p hp => ?_⟩
    have e : (100 + ((k : Nat) : Int), 100 + ((k : Nat) : Int) + c) = p := Option.some.inj hp
    subst e
    exact ⟨⟨by show (0 : Int) ≤ 100 + (k : Nat); omega, by show 100 + ((k : Nat) : Int) ≤ 9999; omega⟩, by show -99999999 ≤ 100 + ((k : Nat) : Int) + c; omega, by show 100 + ((k : Nat) : Int) + c ≤ 99999999; omega⟩
  · show (((List.range n).map (tryRow c)).map Qst.x).Nodup
    rw [List.map_map]
    refine List.Pairwise.map _ ?_ (nd_range n)
    intro a b hab z
    have : ((a : Nat) : Int) = ((b : Nat) : Int) := z
    omega
def markN : Nat → List (List Int)
  | 0 => [[]]
  | i + 1 => ((markN i).map fun r => r ++ [0]) ++ (markN i).map fun r => r ++ [1]
def markF (n : Nat) (h t : Int) (f : Int × Int) (r : List Int) : Int × Int := if r.sum = t then (f.1 + (if h ≤ (r.take n).sum then 1 else 0), f.2 + 1) else f
def markAll (n : Nat) (h t : Int) : Int × Int := (markN (2 * n)).foldl (markF n h t) (0, 0)
theorem mark_tab : (List.range 4).all (fun n => (List.range (n + 2)).all fun h => (List.range (n + 2)).all fun t => decide (markAll (n + 1) (h : Nat) ((h : Nat) + (t : Nat)) = (Hrt.ways ⟨n + 1, h, t⟩, chooseI (2 * ((n + 1 : Nat) : Int)) ((h : Nat) + (t : Nat))))) = true := by decide +kernel
theorem mark_eq {n h t : Nat} (h1 : 1 ≤ n) (h2 : n ≤ 4) (h3 : h ≤ n) (h4 : t ≤ n) : markAll n (h : Nat) ((h : Nat) + (t : Nat)) = (Hrt.ways ⟨n, h, t⟩, chooseI (2 * ((n : Nat) : Int)) ((h : Nat) + (t : Nat))) := by
  have a := List.all_eq_true.mp mark_tab (n - 1) (List.mem_range.mpr (by omega))
  have b := List.all_eq_true.mp a h (List.mem_range.mpr (by omega))
  have c := of_decide_eq_true (List.all_eq_true.mp b t (List.mem_range.mpr (by omega)))
  have e : n - 1 + 1 = n := by omega
  rw [e] at c
  exact c
theorem tryK_len {n : Nat} {A B : List Nat} (hA : A.Sublist (List.range n)) (hB : B.Sublist (List.range n)) : (tryK A B).length ≤ n + n := by
  have h1 := hA.length_le
  have h2 := hB.length_le
  rw [List.length_range] at h1 h2
  unfold tryK
  rw [List.length_append, List.length_map, List.length_map]
  omega
theorem tryK_up {n : Nat} {A B : List Nat} (hA : A.Sublist (List.range n)) (hB : B.Sublist (List.range n)) (hn : n ≤ 4) : (tryK A B).Pairwise (· < ·) := by
  unfold tryK
  rw [List.pairwise_append]
  refine ⟨?_, ?_, fun x hx y hy => ?_⟩
  · refine List.Pairwise.map _ (fun a b (h : a < b) => ?_) (List.pairwise_lt_range.sublist hA)
    show ((a : Nat) : Int) < ((b : Nat) : Int)
    omega
  · refine List.Pairwise.map _ (fun a b (h : a < b) => ?_) (List.pairwise_lt_range.sublist hB)
    show 100 + ((a : Nat) : Int) < 100 + ((b : Nat) : Int)
    omega
  · obtain ⟨a, ha, rfl⟩ := List.mem_map.mp hx
    obtain ⟨b, hb, rfl⟩ := List.mem_map.mp hy
    have := List.mem_range.mp (hA.subset ha)
    omega
theorem tryK_in {n : Nat} {A B : List Nat} (hA : A.Sublist (List.range n)) (hB : B.Sublist (List.range n)) (hn : n ≤ 4) : ∀ x ∈ tryK A B, 0 ≤ x ∧ x ≤ 9999 := fun x hx => by
  rcases List.mem_append.mp hx with h | h
  · obtain ⟨a, ha, rfl⟩ := List.mem_map.mp h
    have := List.mem_range.mp (hA.subset ha)
    omega
  · obtain ⟨a, ha, rfl⟩ := List.mem_map.mp h
    have := List.mem_range.mp (hB.subset ha)
    omega
theorem tryK_small {n : Nat} {A B : List Nat} (hA : A.Sublist (List.range n)) (hn : n ≤ 4) : ((tryK A B).filter fun x => decide (x < 100)).length = A.length := by
  unfold tryK
  rw [List.filter_append, List.length_append]
  have e1 : (A.map fun k => ((k : Nat) : Int)).filter (fun x => decide (x < 100)) = A.map fun k => ((k : Nat) : Int) := by
    refine List.filter_eq_self.mpr fun x hx => ?_
    obtain ⟨a, ha, rfl⟩ := List.mem_map.mp hx
    have := List.mem_range.mp (hA.subset ha)
    exact decide_eq_true (by omega)
  have e2 : (B.map fun k => 100 + ((k : Nat) : Int)).filter (fun x => decide (x < 100)) = [] := by
    refine List.filter_eq_nil_iff.mpr fun x hx => ?_
    obtain ⟨a, ha, rfl⟩ := List.mem_map.mp hx
    simp
    omega
  rw [e1, e2, List.length_map]
  rfl
theorem tryM_ok {n : Nat} {A B : List Nat} {c : Int} (hA : A.Sublist (List.range n)) (hB : B.Sublist (List.range n)) (hn : n ≤ 4) (hc : 1 ≤ c ∧ c ≤ 5) : (tryM (tryK A B) c).ok := by
  unfold tryM
  by_cases e : tryK A B = []
  · rw [if_pos e]
    refine ⟨(fun z => nomatch z), by show (1 : Nat) ≤ 12; decide, fun r hr => ?_⟩
    rw [List.mem_singleton.mp hr]
    exact ⟨trivial, trivial⟩
  · rw [if_neg e]
    refine ⟨(fun z => nomatch z), by show (1 : Nat) ≤ 12; decide, fun r hr => ?_⟩
    rw [List.mem_singleton.mp hr]
    have hl := tryK_len hA hB
    refine ⟨⟨?_, by omega, tryK_in hA hB hn, rising_of (tryK_up hA hB hn)⟩, ⟨by omega, by omega⟩⟩
    cases h : tryK A B with
    | nil => exact absurd h e
    | cons x l => simp
theorem markN_len : ∀ i, (markN i).length = 2 ^ i
  | 0 => rfl
  | i + 1 => by
    show (((markN i).map fun r => r ++ [0]) ++ (markN i).map fun r => r ++ [1]).length = _
    rw [List.length_append, List.length_map, List.length_map, markN_len i, Nat.pow_succ]
    omega
theorem markN_row : ∀ i, ∀ r ∈ markN i, r.length = i
  | 0, r, h => by rw [List.mem_singleton.mp h]; rfl
  | i + 1, r, h => by
    rcases List.mem_append.mp (show r ∈ ((markN i).map fun r => r ++ [0]) ++ (markN i).map fun r => r ++ [1] from h) with h | h
    · obtain ⟨q, hq, rfl⟩ := List.mem_map.mp h
      rw [List.length_append, markN_row i q hq]
      rfl
    · obtain ⟨q, hq, rfl⟩ := List.mem_map.mp h
      rw [List.length_append, markN_row i q hq]
      rfl
/-- a list of lists of numbers -/
def LL (H : Hp) (a : Addr) (rows : List (List Int)) : Prop := ∃ ps : List Addr, H a = some (.lst (ps.map V.ref)) ∧ ps.length = rows.length ∧ ∀ (i : Nat) (p : Addr) (r : List Int), ps[i]? = some p → rows[i]? = some r → H p = some (.lst (r.map V.int))
theorem LL.ext {H H' : Hp} {a : Addr} {rows : List (List Int)} (h : LL H a rows) (f : Fx [] H H') : LL H' a rows := by
  obtain ⟨ps, h1, h2, h3⟩ := h
  exact ⟨ps, f.to h1 (fun z => nomatch z), h2, fun i p r e1 e2 => f.to (h3 i p r e1 e2) (fun z => nomatch z)⟩
/-- what stands while [row + [x] for row in rows] runs -/
def LLR (D : Addr) (H1 : Hp) (rows : List (List Int)) (x : Int) (i : Nat) (acc : List V) (H : Hp) : Prop := Fx [] H1 H ∧ ∃ qs : List Addr, acc = qs.map V.ref ∧ qs.length = i ∧ ∀ (j : Nat) (p : Addr) (r : List Int), qs[j]? = some p → rows[j]? = some r → p ≠ D ∧ H p = some (.lst ((r ++ [x]).map V.int))
theorem LLR.step {D p1 p2 : Addr} {H1 H : Hp} {rows : List (List Int)} {x : Int} {i : Nat} {acc : List V} {r : List Int} {o1 : HO} (h : LLR D H1 rows x i acc H) (hD : H1 D = none) (hDa : H D = some (.lst acc)) (hr : rows[i]? = some r) (hp1 : H p1 = none) (hp2 : upd H p1 o1 p2 = none) :
    upd (upd H p1 o1) p2 (.lst ((r ++ [x]).map V.int)) D = some (.lst acc) ∧ LLR D H1 rows x (i + 1) (acc ++ [.ref p2]) (upd (upd (upd H p1 o1) p2 (.lst ((r ++ [x]).map V.int))) D (.lst (acc ++ [.ref p2]))) := by
  obtain ⟨f, qs, rfl, hl, hq⟩ := h
  have f2 : Fx [] H (upd (upd H p1 o1) p2 (.lst ((r ++ [x]).map V.int))) := (Fx.new hp1).trans (Fx.new hp2)
  have hD2 := f2.to hDa fun z => nomatch z
  have n2 : p2 ≠ D := by
    have := (Fx.new (M := []) (o := o1) hp1).to hDa fun z => nomatch z
    exact (ne_of_none this hp2).symm
  refine ⟨hD2, (f.trans f2).loc hD (Chg.lst hD2), qs ++ [p2], by rw [List.map_append]; rfl, by rw [List.length_append, hl]; rfl, fun j p r' e1 e2 => ?_⟩
  by_cases c : j < qs.length
  · rw [List.getElem?_append_left c] at e1
    obtain ⟨h1, h2⟩ := hq j p r' e1 e2
    exact ⟨h1, by rw [upd_ne h1]; exact f2.to h2 fun z => nomatch z⟩
  · rw [List.getElem?_append_right (by omega)] at e1
    have ej : j = i := by
      have : j - qs.length < 1 := by
        by_cases c2 : j - qs.length < 1
        · exact c2
        · rw [List.getElem?_eq_none (by simp; omega)] at e1
          cases e1
      omega
    subst ej
    rw [hl, Nat.sub_self] at e1
    have e3 : p2 = p := Option.some.inj e1
    subst e3
    have e4 : r = r' := Option.some.inj (hr.symm.trans e2)
    subst e4
    exact ⟨n2, by rw [upd_ne n2]; exact upd_same⟩
theorem LLR.done {D : Addr} {H1 H : Hp} {rows : List (List Int)} {x : Int} {acc : List V} (h : LLR D H1 rows x rows.length acc H) (hDa : H D = some (.lst acc)) : LL H D (rows.map fun r => r ++ [x]) := by
  obtain ⟨f, qs, rfl, hl, hq⟩ := h
  refine ⟨qs, hDa, by rw [List.length_map]; exact hl, fun i p r e1 e2 => ?_⟩
  rw [List.getElem?_map] at e2
  obtain ⟨r0, hr0, rfl⟩ := Option.map_eq_some_iff.mp e2
  exact (hq i p r0 e1 hr0).2
theorem LL.cat {H : Hp} {a b q : Addr} {xs ys : List V} {r1 r2 : List (List Int)} (h1 : LL H a r1) (h2 : LL H b r2) (e1 : H a = some (.lst xs)) (e2 : H b = some (.lst ys)) (hq : H q = none) : LL (upd H q (.lst (xs ++ ys))) q (r1 ++ r2) := by
  obtain ⟨ps, a1, a2, a3⟩ := h1
  obtain ⟨qs, b1, b2, b3⟩ := h2
  have x1 : xs = ps.map V.ref := by
    rw [a1] at e1
    cases e1
    rfl
  have x2 : ys = qs.map V.ref := by
    rw [b1] at e2
    cases e2
    rfl
  refine ⟨ps ++ qs, by rw [upd_same, x1, x2, List.map_append], by rw [List.length_append, List.length_append, a2, b2], fun i p r f1 f2 => ?_⟩
  have fx : Fx [] H (upd H q (.lst (xs ++ ys))) := Fx.new hq
  refine fx.to ?_ fun z => nomatch z
  by_cases c : i < ps.length
  · rw [List.getElem?_append_left c] at f1
    rw [List.getElem?_append_left (by omega)] at f2
    exact a3 i p r f1 f2
  · rw [List.getElem?_append_right (by omega)] at f1
    rw [List.getElem?_append_right (by omega), ← a2] at f2
    exact b3 _ p r f1 f2
theorem shaped_lints (ns : List Int) : SeqAt.shaped (.list (ns.map .int)) = true := shaped_ints ns
theorem eqvA_ints2 : ∀ ns : List Int, PyData.eqvAll (ns.map .int) (ns.map .int) = true
  | [] => by simp [PyData.eqvAll]
  | n :: ns => by simp [PyData.eqvAll, PyData.eqv, eqvA_ints2 ns]
theorem ne_lists (K : PySem.W.Frag) {H : Hp} {Q : VK} {a b : Addr} {ns ms : List Int} (h1 : H a = some (.lst (ns.map V.int))) (h2 : H b = some (.lst (ms.map V.int))) (e : ns = ms) (q : Q (.bl false) H) : rNeD K (.ref a) (.ref b) H Q := by
  subst e
  refine ⟨_, _, Dp.lsti h1, Dp.lsti h2, shaped_ints ns, shaped_ints ns, ?_⟩
  have e : (!PyData.eqv (.list (ns.map .int)) (.list (ns.map .int))) = false := by simp [PyData.eqv, eqvA_ints2 ns]
  rw [e]
  exact q
theorem shaped_tints2 (ns : List Int) : SeqAt.shaped (.tuple (ns.map .int)) = true := by
  obtain ⟨h1, h2⟩ := lay_ints ns
  show (PyData.canLay0 (.tuple (ns.map .int)) && decide (PyData.depth (.tuple (ns.map .int)) ≤ 64)) = true
  rw [Bool.and_eq_true_iff]
  refine ⟨by simp only [PyData.canLay0]; exact h1, decide_eq_true ?_⟩
  simp only [PyData.depth]
  omega
theorem eq_tups (K : PySem.W.Frag) {H : Hp} {Q : VK} {x y : V} {ns ms : List Int} (h1 : Dp K H x (.tuple (ns.map .int))) (h2 : Dp K H y (.tuple (ms.map .int))) (e : ns = ms) (q : Q (.bl true) H) : rEqD K x y H Q := by
  subst e
  refine ⟨_, _, h1, h2, shaped_tints2 ns, shaped_tints2 ns, ?_⟩
  have e : PyData.eqv (.tuple (ns.map .int)) (.tuple (ns.map .int)) = true := by simp [PyData.eqv, eqvA_ints2 ns]
  rw [e]
  exact q
theorem ne_nilT (K : PySem.W.Frag) {H : Hp} {Q : VK} {x b : V} {ns : List Int} (h : Dp K H x (.tuple (ns.map .int))) (hb : Dp K H b (.tuple [])) (q : Q (.bl (!ns.isEmpty)) H) : rNeD K x b H Q := by
  refine ⟨_, .tuple [], h, hb, shaped_tints2 ns, by decide +kernel, ?_⟩
  have e : (!PyData.eqv (.tuple (ns.map .int)) (.tuple [])) = !ns.isEmpty := by
    cases ns with
    | nil => simp [PyData.eqv, PyData.eqvAll]
    | cons n ns => simp [PyData.eqv, PyData.eqvAll]
  rw [e]
  exact q
theorem sub_succ {A : List Nat} {i : Nat} (h : A.Sublist (List.range i)) : A.Sublist (List.range (i + 1)) := by
  rw [List.range_succ]
  exact h.trans (List.sublist_append_left _ _)
theorem sub_snoc {A : List Nat} {i : Nat} (h : A.Sublist (List.range i)) : (A ++ [i]).Sublist (List.range (i + 1)) := by
  rw [List.range_succ]
  exact h.append (List.Sublist.refl _)
end Mh
/-! MhLaw09 -/
namespace Mh
open PySem PySem.Spec PyProof.Rows L2
abbrev lawLevel : Nat := 8
def spLaw (K : PySem.W.Frag) : Sp := fun vs H Q _ => ∃ (a : Addr) (ns : List Int), vs = [.ref a] ∧ SqL K H a (ns.map V.int) ∧ ns.length ≤ 63 ∧ ∀ H', Q (.bl true) H'
theorem hrt_ints (h : Hrt) : h.d = .tuple ([(h.many : Int), h.here, h.there, h.ways, chooseI (2 * (h.many : Int)) ((h.here : Int) + h.there)].map .int) := rfl
theorem eq_II {H : Hp} {Q : VK} {x y : Int} (q : Q (.bl (x == y)) H) : rEq (.int x) (.int y) H Q := ⟨rfl, by rw [dec_int]; exact q⟩
theorem whole_tab : (List.range 4).all (fun n => decide (([((n + 1 : Nat) : Int), ((n + 1 : Nat) : Int), ((n + 1 : Nat) : Int), Hrt.ways ⟨n + 1, n + 1, n + 1⟩, chooseI (2 * ((n + 1 : Nat) : Int)) (((n + 1 : Nat) : Int) + ((n + 1 : Nat) : Int))] : List Int) = [((n + 1 : Nat) : Int), ((n + 1 : Nat) : Int), ((n + 1 : Nat) : Int), 1, 1])) = true := by decide +kernel
theorem whole_eq {n : Nat} (h1 : 1 ≤ n) (h2 : n ≤ 4) : ([((n : Nat) : Int), ((n : Nat) : Int), ((n : Nat) : Int), Hrt.ways ⟨n, n, n⟩, chooseI (2 * ((n : Nat) : Int)) (((n : Nat) : Int) + ((n : Nat) : Int))] : List Int) = [((n : Nat) : Int), ((n : Nat) : Int), ((n : Nat) : Int), 1, 1] := by
  have a := of_decide_eq_true (List.all_eq_true.mp whole_tab (n - 1) (List.mem_range.mpr (by omega)))
  have e : n - 1 + 1 = n := by omega
  rw [e] at a
  exact a
theorem all_hrt (n : Nat) (c s : Int) : hrt [(.any, .plus c)] (tryT n c) s = ⟨n, n, n⟩ := by
  unfold hrt
  rw [try_ix, List.length_range]
  have e1 : (List.range n).filter (rightB [(.any, .plus c)] (tryT n c) s) = List.range n := by
    refine List.filter_eq_self.mpr fun k hk => ?_
    unfold rightB
    rw [tryT_get c (List.mem_range.mp hk)]
    show (some (((k : Nat) : Int) + c) == some (((k : Nat) : Int) + c)) = true
    exact beq_self_eq_true _
  have e2 : (List.range n).filter (twR [(.any, .plus c)] (tryT n c) s) = List.range n := by
    refine List.filter_eq_self.mpr fun k hk => ?_
    unfold twR twP
    rw [tryT_get c (List.mem_range.mp hk)]
    show (some (100 + ((k : Nat) : Int) + c) == some (100 + ((k : Nat) : Int) + c)) = true
    exact beq_self_eq_true _
  rw [e1, e2, List.length_range]
def tsk0 : Tsk := ⟨[⟨0, 0, none⟩], 1⟩
theorem tsk0_ok : tsk0.ok := ⟨(fun z => nomatch z), by decide, fun r hr => by
  rw [List.mem_singleton.mp hr]
  exact ⟨⟨by decide, by decide⟩, ⟨by decide, by decide⟩, fun _ h => nomatch h⟩, by decide, ⟨by decide, by decide⟩⟩
theorem hrt0 (m : Mch) : hrt m tsk0 0 = ⟨0, 0, 0⟩ := rfl
theorem hrt0_eq : ([((0 : Nat) : Int), ((0 : Nat) : Int), ((0 : Nat) : Int), Hrt.ways ⟨0, 0, 0⟩, chooseI (2 * ((0 : Nat) : Int)) (((0 : Nat) : Int) + ((0 : Nat) : Int))] : List Int) = [0, 0, 0, 1, 1] := by decide +kernel
theorem sc_law : FnScope ["_law_script", "_law_d", "_law_many", "_law_rule", "_law_rows", "_law_known", "_law_machine", "_law_count", "_law_here", "_law_there", "_law_ways", "_law_every", "_law_found", "_law_every_row", "_law_turn", "_law_marks", "_law_whole", "_law_k", "_law_row"] ["_law_script"] (defScope s_law) := ⟨rfl, rfl, rfl, by decide +kernel, rfl, by decide +kernel, by decide +kernel⟩
theorem ok_law {P : Program} {w : World} {K : PySem.W.Frag} {mg : Str → Option Value} {base : Heap} (T : Tx K mg) {f : Addr} {fd : FuncData} (F : FunD K "law" "law" (defArgs s_law) (defBody s_law) (defScope s_law) [] [] f fd) : FnOk P w K mg base CX0 lawLevel f fd ["_law_script"] (spLaw K) := by
  have G__law_dice := ok_l_dice (P := P) (w := w) (base := base) T
  have G_heart := ok_heart (P := P) (w := w) (base := base) T
  have G__law_off := ok_l_off (P := P) (w := w) (base := base) T
  refine F.ok sc_law (fun vs H Q E h => ?_) (fun cdv A outer s H vs Q E hr h => ?_)
  · obtain ⟨a, ns, rfl, _⟩ := h
    rfl
  · obtain ⟨a, ns, rfl, hS, hlen, q⟩ := h
    refine ⟨_, PSs.nox (pss_cons (ps_set (i := 1) sc_law.nd rfl (by first | exact Or.inl rfl | exact Or.inr rfl) (pe_def G__law_dice (hr.mono (by omega)) pass0 (pa_cons (pv 0) (pa_cons pe_int pa_nil))))
        (pss_cons (ps_set (i := 2) sc_law.nd rfl (by first | exact Or.inl rfl | exact Or.inr rfl) (pe_op op_add pe_int (pe_def G__law_off (hr.mono (by omega)) pass0 (pa_cons (pv 1) (pa_cons pe_int pa_nil)))))
        (pss_cons (ps_set (i := 3) sc_law.nd rfl (by first | exact Or.inl rfl | exact Or.inr rfl) (pe_tup (pa_cons pe_str (pa_cons (pe_op op_add pe_int (pe_def G__law_off (hr.mono (by omega)) pass0 (pa_cons (pv 1) (pa_cons pe_int pa_nil)))) pa_nil))))
        (pss_cons (ps_set (i := 4) sc_law.nd rfl (by first | exact Or.inl rfl | exact Or.inr rfl) (pe_callTy call_tuple_of (by rfl) T.f_tuple (by decide +kernel) (pa_cons (pe_lc (own := [("_law_k", 17)]) (g := (gName 17)) (tt := tYes) rfl sc_law.nd (pi_range1 rfl T.f_range (pa_cons (pv 2) pa_nil)) (blkOk_by (own := [("_law_k", 17)]) (N := ["_law_script", "_law_d", "_law_many", "_law_rule", "_law_rows", "_law_known", "_law_machine", "_law_count", "_law_here", "_law_there", "_law_ways", "_law_every", "_law_found", "_law_every_row", "_law_turn", "_law_marks", "_law_whole", "_law_k", "_law_row"]) (sc := defScope s_law) (by decide +kernel)) (fun _ _ _ _ _ => pg_name (i := 17) sc_law.nd rfl (Or.inl rfl)) (fun _ _ _ _ _ => pts_nil) (fun _ _ _ _ _ => (pe_tup (pa_cons (pv 17) (pa_cons (pe_op op_add (pv 17) (pe_ix (kix_tup (K := K) rfl) (pv 3) pe_int (fun _ _ => rfl))) (pa_cons (pe_tup (pa_cons (pe_op op_add pe_int (pv 17)) (pa_cons (pe_op op_add (pe_op op_add pe_int (pv 17)) (pe_ix (kix_tup (K := K) rfl) (pv 3) pe_int (fun _ _ => rfl))) pa_nil))) pa_nil)))))) pa_nil)))
        (pss_cons (ps_setLc (i := 5) (own := [("_law_k", 17)]) (g := (gName 17)) (tt := _) rfl sc_law.nd rfl rfl (sw_true rfl rfl rfl (by decide +kernel)) (pi_range1 rfl T.f_range (pa_cons (pv 2) pa_nil)) (blkOk_by (own := [("_law_k", 17)]) (N := ["_law_script", "_law_d", "_law_many", "_law_rule", "_law_rows", "_law_known", "_law_machine", "_law_count", "_law_here", "_law_there", "_law_ways", "_law_every", "_law_found", "_law_every_row", "_law_turn", "_law_marks", "_law_whole", "_law_k", "_law_row"]) (sc := defScope s_law) (by decide +kernel)) (fun _ _ _ _ _ => pg_name (i := 17) sc_law.nd rfl (Or.inl rfl)) (fun _ _ _ _ _ => pts_one (pt_cmpR op_gt (pe_def G__law_off (hr.mono (by omega)) pass0 (pa_cons (pv 1) (pa_cons pe_int pa_nil))) pe_int (nomark _))) (fun _ _ _ _ _ => (pv 17)))
        (pss_cons (ps_set (i := 5) sc_law.nd rfl (by first | exact Or.inl rfl | exact Or.inr rfl) (pe_callTy call_tuple_of (by rfl) T.f_tuple (by decide +kernel) (pa_cons (pe_op op_cat (pv 5) (pe_lc (own := [("_law_k", 17)]) (g := (gName 17)) (tt := _) rfl sc_law.nd (pi_range1 rfl T.f_range (pa_cons (pv 2) pa_nil)) (blkOk_by (own := [("_law_k", 17)]) (N := ["_law_script", "_law_d", "_law_many", "_law_rule", "_law_rows", "_law_known", "_law_machine", "_law_count", "_law_here", "_law_there", "_law_ways", "_law_every", "_law_found", "_law_every_row", "_law_turn", "_law_marks", "_law_whole", "_law_k", "_law_row"]) (sc := defScope s_law) (by decide +kernel)) (fun _ _ _ _ _ => pg_name (i := 17) sc_law.nd rfl (Or.inl rfl)) (fun _ _ _ _ _ => pts_one (pt_cmpR op_eq (pe_def G__law_off (hr.mono (by omega)) pass0 (pa_cons (pv 1) (pa_cons pe_int pa_nil))) pe_int (nomark _))) (fun _ _ _ _ _ => (pe_op op_add pe_int (pv 17))))) pa_nil)))
        (Evl.pss_cut (ps_set (i := 6) sc_law.nd rfl (by first | exact Or.inl rfl | exact Or.inr rfl) (pe_ifExp (pt_cmpR (op_neD hr.units) (pv 5) (pe_tup pa_nil) (nomark _)) (pe_tup (pa_cons (pe_tup (pa_cons (pe_tup (pa_cons pe_str (pa_cons (pv 5) pa_nil))) (pa_cons (pv 3) pa_nil))) pa_nil)) (pe_tup (pa_cons (pe_tup (pa_cons (pe_tup (pa_cons pe_str pa_nil)) (pa_cons (pe_tup (pa_cons pe_str pa_nil)) pa_nil))) pa_nil))))
        (pss_cons (ps_asg (pe_defD G_heart (hr.mono (by omega)) pass0 (pa_cons (pv 6) (pa_cons (pe_tup (pa_cons (pv 4) (pa_cons pe_int pa_nil))) pa_nil))) (pg_tup rfl (pgs_cons (pg_name (i := 7) sc_law.nd rfl (by first | exact Or.inl rfl | exact Or.inr rfl)) (pgs_cons (pg_name (i := 8) sc_law.nd rfl (by first | exact Or.inl rfl | exact Or.inr rfl)) (pgs_cons (pg_name (i := 9) sc_law.nd rfl (by first | exact Or.inl rfl | exact Or.inr rfl)) (pgs_cons (pg_name (i := 10) sc_law.nd rfl (by first | exact Or.inl rfl | exact Or.inr rfl)) (pgs_cons (pg_name (i := 11) sc_law.nd rfl (by first | exact Or.inl rfl | exact Or.inr rfl)) pgs_nil)))))))
        (pss_cons (ps_set (i := 12) sc_law.nd rfl (by first | exact Or.inl rfl | exact Or.inr rfl) (pe_lst (pa_cons pe_int (pa_cons pe_int pa_nil))))
        (pss_cons (ps_set (i := 13) sc_law.nd rfl (by first | exact Or.inl rfl | exact Or.inr rfl) (pe_lst (pa_cons (pe_lst pa_nil) pa_nil)))
        (pss_cons (ps_for PassesOwn.never rfl (pi_range1 rfl T.f_range (pa_cons (pe_op op_mul pe_int (pv 2)) pa_nil)) (pg_name (i := 14) sc_law.nd rfl (by first | exact Or.inl rfl | exact Or.inr rfl))
        (pss_one (ps_set (i := 13) sc_law.nd rfl (by first | exact Or.inl rfl | exact Or.inr rfl) (pe_op op_cat (pe_lc (own := [("_law_row", 18)]) (g := (gName 18)) (tt := tYes) rfl sc_law.nd (pi_list (pv 13)) (blkOk_by (own := [("_law_row", 18)]) (N := ["_law_script", "_law_d", "_law_many", "_law_rule", "_law_rows", "_law_known", "_law_machine", "_law_count", "_law_here", "_law_there", "_law_ways", "_law_every", "_law_found", "_law_every_row", "_law_turn", "_law_marks", "_law_whole", "_law_k", "_law_row"]) (sc := defScope s_law) (by decide +kernel)) (fun _ _ _ _ _ => pg_name (i := 18) sc_law.nd rfl (Or.inl rfl)) (fun _ _ _ _ _ => pts_nil) (fun _ _ _ _ _ => (pe_op op_cat (pv 18) (pe_lst (pa_cons pe_int pa_nil))))) (pe_lc (own := [("_law_row", 18)]) (g := (gName 18)) (tt := tYes) rfl sc_law.nd (pi_list (pv 13)) (blkOk_by (own := [("_law_row", 18)]) (N := ["_law_script", "_law_d", "_law_many", "_law_rule", "_law_rows", "_law_known", "_law_machine", "_law_count", "_law_here", "_law_there", "_law_ways", "_law_every", "_law_found", "_law_every_row", "_law_turn", "_law_marks", "_law_whole", "_law_k", "_law_row"]) (sc := defScope s_law) (by decide +kernel)) (fun _ _ _ _ _ => pg_name (i := 18) sc_law.nd rfl (Or.inl rfl)) (fun _ _ _ _ _ => pts_nil) (fun _ _ _ _ _ => (pe_op op_cat (pv 18) (pe_lst (pa_cons pe_int pa_nil)))))))))
        (pss_cons (ps_for PassesOwn.never rfl (pi_list (pv 13)) (pg_name (i := 15) sc_law.nd rfl (by first | exact Or.inl rfl | exact Or.inr rfl))
        (pss_one (ps_if (pt_cmpR op_eq (pe_callB (cr_sum rfl) (by rfl) T.f_sum (by decide +kernel) (pa_cons (pv 15) pa_nil)) (pe_op op_add (pv 8) (pv 9)) (nomark _))
        (pss_one (ps_set (i := 12) sc_law.nd rfl (by first | exact Or.inl rfl | exact Or.inr rfl) (pe_lst (pa_cons (pe_op op_add (pe_ix ix_list (pv 12) pe_int (fun _ _ => rfl)) (pe_callTy call_int1 (by rfl) T.f_int (by decide +kernel) (pa_cons (pe_cmpR op_ge (pe_callB (cr_sum rfl) (by rfl) T.f_sum (by decide +kernel) (pa_cons (pe_slice sl_list (pv 15) po_none (po_some (pv 2))) pa_nil)) (pv 8) (nomark _)) pa_nil))) (pa_cons (pe_op op_add (pe_ix ix_list (pv 12) pe_int (fun _ _ => rfl)) pe_int) pa_nil)))))
        pss_nil)))
        (pss_cons (ps_if (PW.pt (pw_or (pt_cmpR (op_neD hr.units) (pe_lst (pa_cons (pv 7) (pa_cons (pv 10) (pa_cons (pv 11) pa_nil)))) (pe_op op_cat (pe_lst (pa_cons (pv 2) pa_nil)) (pv 12)) (nomark _)) (pw_or1 (pt_cmpR op_ne (pv 8) (pe_callB call_len_seq (by rfl) T.f_len (by decide +kernel) (pa_cons (pe_lc (own := [("_law_k", 17)]) (g := (gName 17)) (tt := _) rfl sc_law.nd (pi_tup (pv 5)) (blkOk_by (own := [("_law_k", 17)]) (N := ["_law_script", "_law_d", "_law_many", "_law_rule", "_law_rows", "_law_known", "_law_machine", "_law_count", "_law_here", "_law_there", "_law_ways", "_law_every", "_law_found", "_law_every_row", "_law_turn", "_law_marks", "_law_whole", "_law_k", "_law_row"]) (sc := defScope s_law) (by decide +kernel)) (fun _ _ _ _ _ => pg_name (i := 17) sc_law.nd rfl (Or.inl rfl)) (fun _ _ _ _ _ => pts_one (pt_cmpR op_lt (pv 17) pe_int (nomark _))) (fun _ _ _ _ _ => (pv 17))) pa_nil)) (nomark _)))))
        (pss_one (ps_ret pe_bl))
        pss_nil)
        (pss_cons (ps_set (i := 16) sc_law.nd rfl (by first | exact Or.inl rfl | exact Or.inr rfl) (pe_defN G_heart (hr.mono (by omega)) pass0 (pa_cons (pe_tup (pa_cons (pe_tup (pa_cons (pe_tup (pa_cons pe_str pa_nil)) (pa_cons (pv 3) pa_nil))) pa_nil)) (pa_cons (pe_tup (pa_cons (pv 4) (pa_cons pe_int pa_nil))) pa_nil)) (pk_cons (pe_def G__law_off (hr.mono (by omega)) pass0 (pa_cons (pv 1) (pa_cons pe_int pa_nil))) pk_nil)))
        (pss_one (ps_ret (pe_and (pe_cmpR (op_eqD hr.units) (pv 16) (pe_tup (pa_cons (pv 2) (pa_cons (pv 2) (pa_cons (pv 2) (pa_cons pe_int (pa_cons pe_int pa_nil)))))) (nomark _)) (pe_one (pe_cmpR (op_eqD hr.units) (pe_defD G_heart (hr.mono (by omega)) pass0 (pa_cons (pv 6) (pa_cons (pe_tup (pa_cons (pe_tup (pa_cons (pe_tup (pa_cons pe_int (pa_cons pe_int (pa_cons pe_non pa_nil)))) pa_nil)) (pa_cons pe_int pa_nil))) pa_nil))) (pe_tup (pa_cons pe_int (pa_cons pe_int (pa_cons pe_int (pa_cons pe_int (pa_cons pe_int pa_nil)))))) (nomark _)))))))))))))))))))), ?_⟩
    refine ⟨_, rfl, ⟨a, ns, 0, rfl, hS, hlen, ⟨by decide, by decide⟩, fun H1 dd f1 hn hd => ?_⟩⟩
    have D1 : Dc dd H1 H1 (diceOf 0 ns) := ⟨.refl, hd, diceOf_ok ⟨by decide, by decide⟩ hlen⟩
    dsimp only [gName]
    have r4 := off_range (diceOf 0 ns) (n := 4) (by decide)
    refine rd_off rfl D1 ⟨by decide, by decide⟩ fun H2 D2 f2 => ⟨_, _, rfl, rfl, ?_⟩
    obtain ⟨n, en⟩ : ∃ n : Nat, 1 + (off (diceOf 0 ns) 4).1 = ((n : Nat) : Int) := ⟨(1 + (off (diceOf 0 ns) 4).1).toNat, by omega⟩
    have hn1 : 1 ≤ n ∧ n ≤ 4 := by omega
    dsimp only
    rw [en]
    generalize (off (diceOf 0 ns) 4).2 = s2 at D2
    have r5 := off_range s2 (n := 5) (by decide)
    refine rd_off rfl D2 ⟨by decide, by decide⟩ fun H3 D3 f3 => ⟨_, _, rfl, rfl, by show 2 ≤ sizeLine; decide, fun pr hpr => ?_⟩
    have hc : 1 ≤ 1 + (off s2 5).1 ∧ 1 + (off s2 5).1 ≤ 5 := by omega
    dsimp only
    generalize 1 + (off s2 5).1 = c at hc
    generalize (off s2 5).2 = s3 at D3
    have D3' := D3.new (o := HO.tup [.str "plus", .int c]) hpr
    have hrule : SqT K (upd H3 pr (.tup [.str "plus", .int c])) pr [.str "plus", .int c] := SqT.of upd_same
    generalize upd H3 pr (.tup [.str "plus", .int c]) = H4 at D3' hrule
    -- rows
    refine ⟨_, rfl, _, rfl, by omega, by omega, fun D hD => lc_rel walk_range (fun i acc H5 => Fx [] H4 H5 ∧ DpAll K H5 acc (((List.range i).map (tryRow c)).map Qst.d)) ⟨Fx.new hD, .nil⟩ (fun _ _ _ _ => trivial) (fun i acc x H5 H6 hi hl hDa r y => ?_) (fun acc H5 hl hDa r => ?_)⟩
    · obtain ⟨rfl, rfl⟩ := y
      obtain ⟨f, hacc⟩ := r
      refine ⟨rfl, rd_yes ?_⟩
      refine ⟨_, rfl, _, rfl, rd_ixT (j := 1) rfl (f.sqT hrule) rfl ⟨_, _, rfl, rfl, ?_⟩⟩
      refine ⟨_, rfl, _, _, rfl, rfl, _, rfl, _, _, rfl, rfl, rd_ixT (j := 1) rfl (f.sqT hrule) rfl ⟨_, _, rfl, rfl, ?_⟩⟩
      refine ⟨by show 2 ≤ sizeLine; decide, fun p1 hp1 => ⟨by show 3 ≤ sizeLine; decide, fun p2 hp2 => ?_⟩⟩
      have e0 : (0 : Int) + (i : Nat) = ((i : Nat) : Int) := Int.zero_add _
      have k1 : SqT K (upd H6 p1 (.tup [.int (100 + (0 + (i : Nat))), .int (100 + (0 + (i : Nat)) + c)])) p1 [.int (100 + (0 + (i : Nat))), .int (100 + (0 + (i : Nat)) + c)] := SqT.of upd_same
      have g1 : Fx [] H6 (upd H6 p1 (.tup [.int (100 + (0 + (i : Nat))), .int (100 + (0 + (i : Nat)) + c)])) := Fx.new hp1
      generalize upd H6 p1 (.tup [.int (100 + (0 + (i : Nat))), .int (100 + (0 + (i : Nat)) + c)]) = H7 at k1 g1 hp2
      have k2 : Dp K (upd H7 p2 (.tup [.int (0 + (i : Nat)), .int (0 + (i : Nat) + c), .ref p1])) (.ref p2) (Qst.d (tryRow c i)) := by
        have g2 : Fx [] H7 (upd H7 p2 (.tup [.int (0 + (i : Nat)), .int (0 + (i : Nat) + c), .ref p1])) := Fx.new hp2
        have z1 : Dp K H7 (.ref p1) (twinD (some (100 + ((i : Nat) : Int), 100 + ((i : Nat) : Int) + c))) := by
          rw [e0] at k1
          exact .tup k1 (.cons (.int _) (.cons (.int _) .nil))
        have z2 : SqT K (upd H7 p2 (.tup [.int (0 + (i : Nat)), .int (0 + (i : Nat) + c), .ref p1])) p2 [.int ((i : Nat) : Int), .int (((i : Nat) : Int) + c), .ref p1] := by
          rw [e0]
          exact SqT.of upd_same
        exact .tup z2 (.cons (.int _) (.cons (.int _) (.cons (z1.ext g2) .nil)))
      have g2 : Fx [] H7 (upd H7 p2 (.tup [.int (0 + (i : Nat)), .int (0 + (i : Nat) + c), .ref p1])) := Fx.new hp2
      generalize upd H7 p2 (.tup [.int (0 + (i : Nat)), .int (0 + (i : Nat) + c), .ref p1]) = H8 at k2 g2
      have hDa8 := (g1.trans g2).to hDa fun z => nomatch z
      refine Put.ok hl (by simp at hi; omega) hDa8 ⟨((f.trans g1).trans g2).loc hD (Chg.lst hDa8), ?_⟩
      have fD : Fx [D] H8 (upd H8 D (.lst (acc ++ [.ref p2]))) := Fx.set List.mem_cons_self (Chg.lst hDa8)
      rw [List.range_succ, List.map_append, List.map_append]
      exact ((hacc.ext (g1.trans g2)).mv fD (qsts_nol _)).snoc (k2.mv fD (qst_nol _))
    obtain ⟨f5, hacc⟩ := r
    rw [Int.toNat_natCast] at hacc
    have hlenA : acc.length = n := by rw [hacc.len, List.length_map, List.length_map, List.length_range]
    refine ⟨D, _, rfl, .inl ⟨SqL.of hDa, fun tr htr => ?_⟩⟩
    have f6 : Fx [] H4 (upd H5 tr (.tup acc)) := f5.trans (Fx.new htr)
    have krows : Dp K (upd H5 tr (.tup acc)) (.ref tr) (.tuple ((tryT n c).rows.map Qst.d)) := .tup (SqT.of upd_same) (hacc.ext (Fx.new htr))
    have D6 := D3'.mv f6
    have hrule6 := f6.sqT hrule
    generalize upd H5 tr (.tup acc) = H6 at krows D6 hrule6 f6
    clear hacc hDa hl f5
    -- known
    refine ⟨_, rfl, _, rfl, by omega, by omega, fun E1 hE1 => lc_rel walk_range (fun i acc H7 => ∃ s, Dc dd H6 H7 s ∧ ∃ A : List Nat, acc = A.map natV ∧ A.Sublist (List.range i)) ⟨s3, Dc.new ⟨Fx.refl, D6.h, D6.ok⟩ hE1, [], rfl, List.nil_sublist _⟩ (fun _ _ _ _ => trivial) (fun i acc x H7 H8 hi hl hDa r y => ?_) (fun acc H7 hl hDa7 r => ?_)⟩
    · obtain ⟨rfl, rfl⟩ := y
      obtain ⟨s, Ds, A, rfl, hA⟩ := r
      have nE : E1 ≠ dd := D6.ne hE1
      refine ⟨rfl, ?_⟩
      refine rd_off rfl Ds ⟨by decide, by decide⟩ fun H9 D9 f9 => ⟨_, _, rfl, rfl, _, rfl, ?_⟩
      have hDa9 := f9.to hDa fun z => nE (List.mem_singleton.mp z)
      refine ifB (fun c2 => ?_) (fun c2 => ?_)
      · refine ⟨_, rfl, Put.ok hl (by simp at hi; omega) hDa9 ⟨_, D9.set hE1 nE (Chg.lst hDa9), A ++ [i], ?_, sub_snoc hA⟩⟩
        rw [List.map_append]
        show _ ++ [V.int (0 + (i : Int))] = _
        rw [Int.zero_add]
        rfl
      · exact Pvl.skip hl hDa9 ⟨_, D9, A, rfl, sub_succ hA⟩
    obtain ⟨s7, D7, A, rfl, hA⟩ := r
    rw [Int.toNat_natCast] at hA
    have nE : E1 ≠ dd := D6.ne hE1
    refine ⟨_, rfl, _, rfl, _, rfl, by omega, by omega, fun E2 hE2 => lc_rel walk_range (fun i acc H8 => ∃ s, Dc dd H7 H8 s ∧ ∃ B : List Nat, acc = B.map (fun k => V.int (100 + (k : Nat))) ∧ B.Sublist (List.range i)) ⟨s7, Dc.new ⟨Fx.refl, D7.h, D7.ok⟩ hE2, [], rfl, List.nil_sublist _⟩ (fun _ _ _ _ => trivial) (fun i acc x H8 H9 hi hl hDa r y => ?_) (fun acc H8 hl hDa8 r => ?_)⟩
    · obtain ⟨rfl, rfl⟩ := y
      obtain ⟨s, Ds, B, rfl, hB⟩ := r
      have nE2 : E2 ≠ dd := D7.ne hE2
      refine ⟨rfl, ?_⟩
      refine rd_off rfl Ds ⟨by decide, by decide⟩ fun H9 D9 f9 => rd_eqI ⟨_, rfl, ?_⟩
      have hDa9 := f9.to hDa fun z => nE2 (List.mem_singleton.mp z)
      refine ifB (fun c2 => ?_) (fun c2 => ?_)
      · refine ⟨_, rfl, _, _, rfl, rfl, Put.ok hl (by simp at hi; omega) hDa9 ⟨_, D9.set hE2 nE2 (Chg.lst hDa9), B ++ [i], ?_, sub_snoc hB⟩⟩
        rw [List.map_append]
        show _ ++ [V.int (100 + (0 + (i : Int)))] = _
        rw [Int.zero_add]
        rfl
      · exact Pvl.skip hl hDa9 ⟨_, D9, B, rfl, sub_succ hB⟩
    obtain ⟨s8, D8, B, rfl, hB⟩ := r
    rw [Int.toNat_natCast] at hB
    have hlA := hA.length_le
    have hlB := hB.length_le
    rw [List.length_range] at hlA hlB
    have hDa78 := D8.f.to hDa7 fun z => nE (List.mem_singleton.mp z)
    refine ⟨E1, E2, _, _, rfl, rfl, hDa78, hDa8, sz2 (by rw [List.length_map, List.length_map]; omega), fun kq hkq => ?_⟩
    refine ⟨kq, _, rfl, .inl ⟨SqL.of upd_same, fun kt hkt => ?_⟩⟩
    have ek : A.map natV ++ B.map (fun k => V.int (100 + (k : Nat))) = (tryK A B).map V.int := by
      unfold tryK
      rw [List.map_append, List.map_map, List.map_map]
      rfl
    rw [ek]
    rw [ek] at hkt
    have D9 := (D8.new (o := HO.lst ((tryK A B).map V.int)) hkq).new (o := HO.tup ((tryK A B).map V.int)) hkt
    have kk : SqT K (upd (upd H8 kq (.lst ((tryK A B).map V.int))) kt (.tup ((tryK A B).map V.int))) kt ((tryK A B).map V.int) := SqT.of upd_same
    have fz : Fx [dd] H6 (upd (upd H8 kq (.lst ((tryK A B).map V.int))) kt (.tup ((tryK A B).map V.int))) := D7.f.trans D9.f
    have krows9 : Dp K (upd (upd H8 kq (.lst ((tryK A B).map V.int))) kt (.tup ((tryK A B).map V.int))) (.ref tr) (.tuple ((tryT n c).rows.map Qst.d)) := krows.mv fz (qsts_nol _)
    have hrule9 := fz.sqT hrule6
    have D9' := D6.go (D7.go D9)
    generalize upd (upd H8 kq (.lst ((tryK A B).map V.int))) kt (.tup ((tryK A B).map V.int)) = H9 at D9' kk krows9 hrule9
    have hmo : (tryM (tryK A B) c).ok := tryM_ok hA hB hn1.2 hc
    have hto : (tryT n c).ok := tryT_ok hn1.1 hn1.2 hc
    -- machine
    refine ⟨fun σ' H' => ∃ vm, σ' = [some (.ref a), some (.ref dd), some (.int n), some (.ref pr), some (.ref tr), some (.ref kt), some vm, none, none, none, none, none, none, none, none, none, none, none, none] ∧ Fx [] H9 H' ∧ Dp K H' vm (machD (tryM (tryK A B) c)), ?_, fun σ' H10 hM => ?_⟩
    · refine ⟨_, rfl, by show 0 ≤ sizeLine; decide, fun z hz => ne_nilT _ (ns := tryK A B) ((Dp.tup kk (Dp.ints _)).ext (Fx.new hz)) (.tup (SqT.of upd_same) .nil) ⟨_, rfl, ifB (fun c2 => ?_) (fun c2 => ?_)⟩⟩
      · have hne : tryK A B ≠ [] := fun e => by
          rw [e] at c2
          cases c2
        have fz : Fx [] H9 (upd H9 z (.tup [])) := Fx.new hz
        have kk1 := fz.sqT kk
        have hr1 := fz.sqT hrule9
        generalize upd H9 z (.tup []) = Hz at fz kk1 hr1
        refine ⟨_, rfl, by show 2 ≤ sizeLine; decide, fun p1 hp1 => ⟨_, rfl, by show 2 ≤ sizeLine; decide, fun p2 hp2 => ⟨by show 1 ≤ sizeLine; decide, fun p3 hp3 => ?_⟩⟩⟩
        have k1 : Dp K (upd Hz p1 (.tup [.str "known", .ref kt])) (.ref p1) (Tst.d (.known (tryK A B))) := .tup (SqT.of upd_same) (.cons (.str _) (.cons ((Dp.tup kk1 (Dp.ints _)).ext (Fx.new hp1)) .nil))
        have k2 : Dp K Hz (.ref pr) (Ans.d (.plus c)) := .tup hr1 (.cons (.str _) (.cons (.int _) .nil))
        have g1 : Fx [] Hz (upd Hz p1 (.tup [.str "known", .ref kt])) := Fx.new hp1
        have k2' := k2.ext g1
        generalize upd Hz p1 (.tup [.str "known", .ref kt]) = Hy at g1 k1 k2' hp2 hp3
        have k3 : Dp K (upd Hy p2 (.tup [.ref p1, .ref pr])) (.ref p2) (rowD (.known (tryK A B), .plus c)) := .tup (SqT.of upd_same) (.cons (k1.ext (Fx.new hp2)) (.cons (k2'.ext (Fx.new hp2)) .nil))
        have g2 : Fx [] Hy (upd Hy p2 (.tup [.ref p1, .ref pr])) := Fx.new hp2
        generalize upd Hy p2 (.tup [.ref p1, .ref pr]) = Hx at g2 k3 hp3
        refine ⟨.ref p3, rfl, ((fz.trans g1).trans g2).trans (Fx.new hp3), ?_⟩
        unfold tryM
        rw [if_neg hne]
        exact .tup (SqT.of upd_same) (.cons (k3.ext (Fx.new hp3)) .nil)
      · have he : tryK A B = [] := by
          cases h : tryK A B with
          | nil => rfl
          | cons x l => rw [h] at c2; cases c2
        have fz : Fx [] H9 (upd H9 z (.tup [])) := Fx.new hz
        generalize upd H9 z (.tup []) = Hz at fz
        refine ⟨by show 1 ≤ sizeLine; decide, fun p1 hp1 => ⟨by show 1 ≤ sizeLine; decide, fun p2 hp2 => ⟨by show 2 ≤ sizeLine; decide, fun p3 hp3 => ⟨by show 1 ≤ sizeLine; decide, fun p4 hp4 => ?_⟩⟩⟩⟩
        have k1 : Dp K (upd Hz p1 (.tup [.str "any"])) (.ref p1) (Tst.d .any) := .tup (SqT.of upd_same) (.cons (.str _) .nil)
        have g1 : Fx [] Hz (upd Hz p1 (.tup [.str "any"])) := Fx.new hp1
        generalize upd Hz p1 (.tup [.str "any"]) = Hy at g1 k1 hp2 hp3 hp4
        have k2 : Dp K (upd Hy p2 (.tup [.str "none"])) (.ref p2) (Ans.d .none) := .tup (SqT.of upd_same) (.cons (.str _) .nil)
        have g2 : Fx [] Hy (upd Hy p2 (.tup [.str "none"])) := Fx.new hp2
        have k1' := k1.ext g2
        generalize upd Hy p2 (.tup [.str "none"]) = Hx at g2 k2 k1' hp3 hp4
        have k3 : Dp K (upd Hx p3 (.tup [.ref p1, .ref p2])) (.ref p3) (rowD (.any, .none)) := .tup (SqT.of upd_same) (.cons (k1'.ext (Fx.new hp3)) (.cons (k2.ext (Fx.new hp3)) .nil))
        have g3 : Fx [] Hx (upd Hx p3 (.tup [.ref p1, .ref p2])) := Fx.new hp3
        generalize upd Hx p3 (.tup [.ref p1, .ref p2]) = Hw at g3 k3 hp4
        refine ⟨.ref p4, rfl, ((fz.trans g1).trans g2).trans (g3.trans (Fx.new hp4)), ?_⟩
        unfold tryM
        rw [if_pos he]
        exact .tup (SqT.of upd_same) (.cons (k3.ext (Fx.new hp4)) .nil)
    obtain ⟨vm, rfl, f10, km⟩ := hM
    have z9 : (0 : Int) ≤ 0 ∧ (0 : Int) ≤ 999 := ⟨by decide, by decide⟩
    refine ⟨vm, rfl, _, rfl, by show 2 ≤ sizeLine; decide, fun pt hpt => ?_⟩
    have kt10 : Dp K (upd H10 pt (.tup [.ref tr, .int 1])) (.ref pt) (taskD (tryT n c)) := .tup (SqT.of upd_same) (.cons ((krows9.ext f10).ext (Fx.new hpt)) (.cons (.int _) .nil))
    have f11 : Fx [] H9 (upd H10 pt (.tup [.ref tr, .int 1])) := f10.trans (Fx.new hpt)
    have km11 := km.ext (Fx.new (o := HO.tup [.ref tr, .int 1]) hpt)
    generalize upd H10 pt (.tup [.ref tr, .int 1]) = H11 at kt10 f11 km11
    refine ⟨vm, .ref pt, _, _, 0, rfl, km11, kt10, hmo, hto, z9, fun H12 w f12 hw => ?_⟩
    rw [try_hrt c 0 hA hB hn1.2, hrt_ints] at hw
    obtain ⟨wa, wx, rfl, hwa, hwx⟩ := hw.tupI
    obtain rfl := DpAll.intsI hwx
    refine ⟨wa, _, rfl, hwa, rfl, _, _, rfl, _, _, rfl, _, _, rfl, _, _, rfl, _, _, rfl, rfl, ?_⟩
    have hmk := mark_eq hn1.1 hn1.2 hlA hlB
    generalize Hrt.ways ⟨n, A.length, B.length⟩ = W at hmk
    generalize chooseI (2 * ((n : Nat) : Int)) (((A.length : Nat) : Int) + ((B.length : Nat) : Int)) = Ev at hmk
    refine ⟨by show 2 ≤ sizeLine; decide, fun fp hfp => ⟨by show 0 ≤ sizeLine; decide, fun e0 he0 => ⟨by show 1 ≤ sizeLine; decide, fun ep hep => ?_⟩⟩⟩
    have f13 : Fx [] H12 (upd (upd (upd H12 fp (.lst [.int 0, .int 0])) e0 (.lst [])) ep (.lst [.ref e0])) := ((Fx.new hfp).trans (Fx.new he0)).trans (Fx.new hep)
    have hfp13 : upd (upd (upd H12 fp (.lst [.int 0, .int 0])) e0 (.lst [])) ep (.lst [.ref e0]) fp = some (.lst [.int 0, .int 0]) := ((Fx.new (M := []) he0).trans (Fx.new hep)).to upd_same (fun z => nomatch z)
    have hLL : LL (upd (upd (upd H12 fp (.lst [.int 0, .int 0])) e0 (.lst [])) ep (.lst [.ref e0])) ep (markN 0) := by
      refine ⟨[e0], upd_same, rfl, fun i p r h1 h2 => ?_⟩
      match i, h1, h2 with
      | 0, h1, h2 =>
        cases h1
        cases h2
        exact (Fx.new (M := []) hep).to upd_same (fun z => nomatch z)
      | i + 1, h1, h2 => cases h1
    generalize upd (upd (upd H12 fp (.lst [.int 0, .int 0])) e0 (.lst [])) ep (.lst [.ref e0]) = H13 at f13 hfp13 hLL
    refine ⟨_, rfl, _, _, rfl, rfl, .inl ⟨by decide, by decide⟩, _, rfl, by omega, by omega, for_it walk_range (fun i σ' H' => ∃ p y14, σ' = [some (.ref a), some (.ref dd), some (.int n), some (.ref pr), some (.ref tr), some (.ref kt), some vm, some (.int n), some (.int A.length), some (.int B.length), some (.int W), some (.int Ev), some (.ref fp), some (.ref p), y14, none, none, none, none] ∧ Fx [] H13 H' ∧ LL H' p (markN i)) ⟨ep, none, rfl, .refl, hLL⟩ (fun _ _ _ _ _ => trivial) (fun i x σ' Ha Hb hi hP y => ?_) (fun σ' H14 hP => ?_)⟩
    · obtain ⟨p, y14, rfl, fa, ps, e1, e2, e3⟩ := hP
      obtain ⟨rfl, rfl⟩ := y
      have hml := markN_len i
      have hi8 : i ≤ 7 := by omega
      have hp2i : 2 ^ i ≤ 128 := Nat.le_trans (Nat.pow_le_pow_right (by decide) hi8) (by decide)
      refine ⟨_, rfl, p, rfl, ⟨_, SqL.of e1⟩, fun E3 hE3 => lc_rel (walk_list (xs := ps.map V.ref)) (LLR E3 Hb (markN i) 0) ⟨Fx.new hE3, [], rfl, rfl, fun _ _ _ h => nomatch h⟩ (fun j acc Hj r => SqL.of (r.1.to e1 (fun z => nomatch z))) (fun j acc x Hj Hk hj hl hDa r y => ?_) (fun acc1 Hc hlE3 hc1 r1 => ?_)⟩
      · obtain ⟨rfl, hxg⟩ := y
        rw [List.getElem?_map] at hxg
        obtain ⟨pj, hpj, rfl⟩ := Option.map_eq_some_iff.mp hxg
        have hj2 : j < (markN i).length := by rw [List.length_map] at hj; omega
        have hr := List.getElem?_eq_getElem hj2
        have hrl := markN_row i _ (List.getElem_mem hj2)
        generalize (markN i)[j] = row at hr hrl
        have hpo := r.1.to (e3 j pj row hpj hr) (fun z => nomatch z)
        refine ⟨rfl, rd_yes ⟨_, rfl, by show 1 ≤ sizeLine; decide, fun p1 hp1 => ⟨pj, p1, _, _, rfl, rfl, (Fx.new (M := []) hp1).to hpo (fun z => nomatch z), upd_same, sz2 (by rw [List.length_map, hrl]; simp; omega), fun p2 hp2 => ?_⟩⟩⟩
        have el : row.map V.int ++ [V.int 0] = (row ++ [0]).map V.int := by rw [List.map_append]; rfl
        rw [el]
        obtain ⟨z1, z2⟩ := LLR.step r hE3 hDa hr hp1 hp2
        exact Put.ok hl (by rw [List.length_map] at hj; omega) z1 z2
      rw [List.length_map, e2] at r1 hlE3
      have L1 := LLR.done r1 hc1
      have e1' := r1.1.to e1 (fun z => nomatch z)
      have e3' : ∀ (i_1 : Nat) (p : Addr) (r : List Int), ps[i_1]? = some p → (markN i)[i_1]? = some r → Hc p = some (.lst (r.map V.int)) := fun k p r h1 h2 => r1.1.to (e3 k p r h1 h2) (fun z => nomatch z)
      refine ⟨_, rfl, p, rfl, ⟨_, SqL.of e1'⟩, fun E4 hE4 => lc_rel (walk_list (xs := ps.map V.ref)) (LLR E4 Hc (markN i) 1) ⟨Fx.new hE4, [], rfl, rfl, fun _ _ _ h => nomatch h⟩ (fun j acc Hj r => SqL.of (r.1.to e1' (fun z => nomatch z))) (fun j acc x Hj Hk hj hl hDa r y => ?_) (fun acc2 Hd hlE4 hc2 r2 => ?_)⟩
      · obtain ⟨rfl, hxg⟩ := y
        rw [List.getElem?_map] at hxg
        obtain ⟨pj, hpj, rfl⟩ := Option.map_eq_some_iff.mp hxg
        have hj2 : j < (markN i).length := by rw [List.length_map] at hj; omega
        have hr := List.getElem?_eq_getElem hj2
        have hrl := markN_row i _ (List.getElem_mem hj2)
        generalize (markN i)[j] = row at hr hrl
        have hpo := r.1.to (e3' j pj row hpj hr) (fun z => nomatch z)
        refine ⟨rfl, rd_yes ⟨_, rfl, by show 1 ≤ sizeLine; decide, fun p1 hp1 => ⟨pj, p1, _, _, rfl, rfl, (Fx.new (M := []) hp1).to hpo (fun z => nomatch z), upd_same, sz2 (by rw [List.length_map, hrl]; simp; omega), fun p2 hp2 => ?_⟩⟩⟩
        have el : row.map V.int ++ [V.int 1] = (row ++ [1]).map V.int := by rw [List.map_append]; rfl
        rw [el]
        obtain ⟨z1, z2⟩ := LLR.step r hE4 hDa hr hp1 hp2
        exact Put.ok hl (by rw [List.length_map] at hj; omega) z1 z2
      rw [List.length_map, e2] at r2 hlE4
      have L2' := LLR.done r2 hc2
      have hc1' := r2.1.to hc1 (fun z => nomatch z)
      refine ⟨E3, E4, acc1, acc2, rfl, rfl, hc1', hc2, sz2 (by omega), fun q5 hq5 => ?_⟩
      exact ⟨q5, _, rfl, ((fa.trans r1.1).trans r2.1).trans (Fx.new hq5), LL.cat (L1.ext r2.1) L2' hc1' hc2 hq5⟩
    obtain ⟨p, y14, rfl, f14, hLL14⟩ := hP
    have eN2 : ((2 : Int) * ((n : Nat) : Int)).toNat = 2 * n := by omega
    rw [eN2] at hLL14
    have hfp14 := f14.to hfp13 (fun z => nomatch z)
    obtain ⟨ps, e1, e2, e3⟩ := hLL14
    have hml := markN_len (2 * n)
    have hmr := markN_row (2 * n)
    have hma : markAll n (A.length : Nat) ((A.length : Nat) + (B.length : Nat)) = ((markN (2 * n)).take ps.length).foldl (markF n (A.length : Nat) ((A.length : Nat) + (B.length : Nat))) (0, 0) := by
      rw [e2, List.take_length]
      rfl
    -- tried one by one
    refine ⟨_, rfl, p, rfl, ⟨_, SqL.of e1⟩, for_it (walk_list (xs := ps.map V.ref)) (fun i σ' H' => ∃ fq y15 F, σ' = [some (.ref a), some (.ref dd), some (.int n), some (.ref pr), some (.ref tr), some (.ref kt), some vm, some (.int n), some (.int A.length), some (.int B.length), some (.int W), some (.int Ev), some (.ref fq), some (.ref p), y14, y15, none, none, none] ∧ Fx [] H14 H' ∧ H' fq = some (.lst [.int F.1, .int F.2]) ∧ F = ((markN (2 * n)).take i).foldl (markF n (A.length : Nat) ((A.length : Nat) + (B.length : Nat))) (0, 0)) ⟨fp, none, (0, 0), rfl, .refl, hfp14, rfl⟩ (fun i σ' H' _ hP => ?_) (fun i x σ' Ha Hb hi hP y => ?_) (fun σ' H15 hP => ?_)⟩
    · obtain ⟨_, _, _, _, f, _⟩ := hP
      exact SqL.of (f.to e1 (fun z => nomatch z))
    · obtain ⟨fq, y15, F, rfl, f, hF, eF⟩ := hP
      obtain ⟨rfl, hxg⟩ := y
      rw [List.getElem?_map] at hxg
      obtain ⟨pj, hpj, rfl⟩ := Option.map_eq_some_iff.mp hxg
      have hj2 : i < (markN (2 * n)).length := by rw [List.length_map] at hi; omega
      have hr := List.getElem?_eq_getElem hj2
      have hrl := hmr _ (List.getElem_mem hj2)
      generalize (markN (2 * n))[i] = row at hr hrl
      have hpo := f.to (e3 i pj row hpj hr) (fun z => nomatch z)
      have eN : ((markN (2 * n)).take (i + 1)).foldl (markF n (A.length : Nat) ((A.length : Nat) + (B.length : Nat))) (0, 0) = markF n (A.length : Nat) ((A.length : Nat) + (B.length : Nat)) F row := by
        rw [List.take_add_one, hr, List.foldl_append, ← eF]
        rfl
      refine ⟨_, rfl, pj, row, rfl, SqL.of hpo, _, rfl, _, rfl, _, _, rfl, rfl, eq_II ⟨_, rfl, ifB (fun c2 => ?_) (fun c2 => ?_)⟩⟩
      · have c3 : row.sum = ((A.length : Nat) : Int) + ((B.length : Nat) : Int) := by simpa using c2
        refine rd_ixL (j := 0) rfl (SqL.of hF) rfl ⟨_, rfl, _, rfl, _, rfl, pj, _, rfl, SqL.of hpo, fun pc hpc => ⟨pc, row.take n, rfl, SqL.of (by rw [upd_same, cut_to, List.map_take]), _, rfl, _, _, rfl, rfl, .inr ⟨_, rfl, _, _, rfl, rfl, ?_⟩⟩⟩
        refine rd_ixL (j := 1) rfl (SqL.of ((Fx.new (M := []) hpc).to hF (fun z => nomatch z))) rfl ⟨_, _, rfl, rfl, by show 2 ≤ sizeLine; decide, fun fz hfz => ?_⟩
        refine ⟨fz, _, markF n (A.length : Nat) ((A.length : Nat) + (B.length : Nat)) F row, rfl, (f.trans (Fx.new hpc)).trans (Fx.new hfz), ?_, eN.symm⟩
        rw [upd_same]
        unfold markF
        rw [if_pos c3]
        simp
      · have c3 : ¬ row.sum = ((A.length : Nat) : Int) + ((B.length : Nat) : Int) := by simpa using c2
        refine ⟨fq, _, F, rfl, f, hF, ?_⟩
        rw [eN]
        unfold markF
        rw [if_neg c3]
    obtain ⟨fq, y15, F, rfl, f15, hF, eF⟩ := hP
    rw [List.length_map, ← hma, hmk] at eF
    subst eF
    have fA : Fx [] H9 H15 := ((f11.trans f12).trans f13).trans (f14.trans f15)
    have kk15 := fA.sqT kk
    refine ⟨_, rfl, _, rfl, _, rfl, by show 3 ≤ sizeLine; decide, fun l1 hl1 => ⟨_, rfl, by show 1 ≤ sizeLine; decide, fun l2 hl2 => ⟨_, rfl, l2, fq, _, _, rfl, rfl, upd_same, ((Fx.new (M := []) hl1).trans (Fx.new hl2)).to hF (fun z => nomatch z), by show 3 ≤ sizeLine; decide, fun l3 hl3 => ?_⟩⟩⟩
    have fB := ((Fx.new (M := []) (o := HO.lst [.int n, .int W, .int Ev]) hl1).trans (Fx.new (o := HO.lst [.int n]) hl2)).trans (Fx.new (o := HO.lst ([.int n] ++ [.int W, .int Ev])) hl3)
    have z1 : upd (upd (upd H15 l1 (.lst [.int n, .int W, .int Ev])) l2 (.lst [.int n])) l3 (.lst ([.int n] ++ [.int W, .int Ev])) l1 = some (.lst (([(n : Int), W, Ev] : List Int).map V.int)) := ((Fx.new (M := []) hl2).trans (Fx.new hl3)).to upd_same (fun z => nomatch z)
    have z2 : upd (upd (upd H15 l1 (.lst [.int n, .int W, .int Ev])) l2 (.lst [.int n])) l3 (.lst ([.int n] ++ [.int W, .int Ev])) l3 = some (.lst (([(n : Int), W, Ev] : List Int).map V.int)) := upd_same
    refine ne_lists _ z1 z2 rfl ⟨_, rfl, ifF rfl ?_⟩
    generalize upd (upd (upd H15 l1 (.lst [.int n, .int W, .int Ev])) l2 (.lst [.int n])) l3 (.lst ([.int n] ++ [.int W, .int Ev])) = H16 at fB
    have fC := fA.trans fB
    refine ⟨_, rfl, _, rfl, kt, rfl, ⟨_, fC.sqT kk⟩, fun E5 hE5 => lc_rel (walk_tup (xs := (tryK A B).map V.int)) (fun i acc H' => Fx [] H16 H' ∧ acc = (((tryK A B).take i).filter fun x => decide (x < 100)).map V.int) ⟨Fx.new hE5, rfl⟩ (fun i acc H' r => r.1.sqT (fC.sqT kk)) (fun i acc x Ha Hb hi hl hDa r y => ?_) (fun acc H17 hl hDa r => ?_)⟩
    · obtain ⟨rfl, hxg⟩ := y
      rw [List.getElem?_map] at hxg
      obtain ⟨k, hk, rfl⟩ := Option.map_eq_some_iff.mp hxg
      obtain ⟨f, rfl⟩ := r
      have hkl := tryK_len hA hB
      refine ⟨rfl, _, rfl, _, _, rfl, rfl, _, rfl, ifB (fun c2 => ?_) (fun c2 => ?_)⟩
      · refine ⟨_, rfl, Put.ok hl (by rw [List.length_map] at hi; omega) hDa ⟨f.loc hE5 (Chg.lst hDa), ?_⟩⟩
        rw [filt_succ _ hk, show decide (k < 100) = true from c2, List.map_append]
        rfl
      · refine Pvl.skip hl hDa ⟨f, ?_⟩
        rw [filt_succ _ hk, show decide (k < 100) = false from c2]
        simp
    obtain ⟨f17, rfl⟩ := r
    rw [List.length_map, List.take_length] at hDa
    refine ⟨E5, _, rfl, .inl (SqL.of hDa), rfl, ?_⟩
    rw [List.length_map, tryK_small hA hn1.2, decide_eq_true rfl]
    refine ⟨_, rfl, ifF rfl ?_⟩
    have fD := fC.trans f17
    have D17 := D9'.mv fD
    -- all by the rule
    refine ⟨by show 1 ≤ sizeLine; decide, fun p1 hp1 => ⟨_, rfl, by show 2 ≤ sizeLine; decide, fun p2 hp2 => ⟨by show 1 ≤ sizeLine; decide, fun p3 hp3 => ⟨_, rfl, by show 2 ≤ sizeLine; decide, fun p4 hp4 => ?_⟩⟩⟩⟩
    have k1 : Dp K (upd H17 p1 (.tup [.str "any"])) (.ref p1) (Tst.d .any) := .tup (SqT.of upd_same) (.cons (.str _) .nil)
    have k2 : Dp K (upd H17 p1 (.tup [.str "any"])) (.ref pr) (Ans.d (.plus c)) := .tup ((fD.trans (Fx.new hp1)).sqT hrule9) (.cons (.str _) (.cons (.int _) .nil))
    have g1 : Fx [] H17 (upd H17 p1 (.tup [.str "any"])) := Fx.new hp1
    generalize upd H17 p1 (.tup [.str "any"]) = Hy at g1 k1 k2 hp2 hp3 hp4
    have k3 : Dp K (upd Hy p2 (.tup [.ref p1, .ref pr])) (.ref p2) (rowD (.any, .plus c)) := .tup (SqT.of upd_same) (.cons (k1.ext (Fx.new hp2)) (.cons (k2.ext (Fx.new hp2)) .nil))
    have g2 : Fx [] Hy (upd Hy p2 (.tup [.ref p1, .ref pr])) := Fx.new hp2
    generalize upd Hy p2 (.tup [.ref p1, .ref pr]) = Hx at g2 k3 hp3 hp4
    have k4 : Dp K (upd Hx p3 (.tup [.ref p2])) (.ref p3) (machD [(.any, .plus c)]) := .tup (SqT.of upd_same) (.cons (k3.ext (Fx.new hp3)) .nil)
    have g3 : Fx [] Hx (upd Hx p3 (.tup [.ref p2])) := Fx.new hp3
    generalize upd Hx p3 (.tup [.ref p2]) = Hw at g3 k4 hp4
    have fE := fD.trans ((g1.trans g2).trans g3)
    have k5 : Dp K (upd Hw p4 (.tup [.ref tr, .int 1])) (.ref p4) (taskD (tryT n c)) := .tup (SqT.of upd_same) (.cons ((krows9.ext fE).ext (Fx.new hp4)) (.cons (.int _) .nil))
    have g4 : Fx [] Hw (upd Hw p4 (.tup [.ref tr, .int 1])) := Fx.new hp4
    have k4' := k4.ext g4
    generalize upd Hw p4 (.tup [.ref tr, .int 1]) = Hv at g4 k5 k4'
    have fF := fE.trans g4
    have r1000 := off_range s8 (n := 1000) (by decide)
    refine rd_off rfl (D9'.mv fF) ⟨by decide, by decide⟩ fun Hu Du fu => ⟨rfl, rfl, .ref p3, .ref p4, _, _, _, rfl, k4'.mv fu (mach_nol _), k5.mv fu (task_nol _), ⟨(fun z => nomatch z), by show (1 : Nat) ≤ 12; decide, fun r hr => ?_⟩, hto, ⟨r1000.1, by omega⟩, fun Ht w2 ft hw2 => ?_⟩
    · rw [List.mem_singleton.mp hr]
      exact ⟨trivial, ⟨by omega, by omega⟩⟩
    rw [all_hrt, hrt_ints] at hw2
    have km17 := ((km11.ext (f12.trans (f13.trans (f14.trans (f15.trans (fB.trans f17)))))).ext (((g1.trans g2).trans g3).trans g4)).mv fu (mach_nol _)
    refine ⟨_, rfl, _, rfl, _, rfl, _, rfl, by show 5 ≤ sizeLine; decide, fun p5 hp5 => ?_⟩
    have g5 : Fx [] Ht (upd Ht p5 (.tup [.int n, .int n, .int n, .int 1, .int 1])) := Fx.new hp5
    have k6 : Dp K (upd Ht p5 (.tup [.int n, .int n, .int n, .int 1, .int 1])) (.ref p5) (.tuple (([(n : Int), n, n, 1, 1] : List Int).map .int)) := .tup (SqT.of upd_same) (Dp.ints [(n : Int), n, n, 1, 1])
    refine eq_tups _ (hw2.ext g5) k6 (whole_eq hn1.1 hn1.2) ⟨_, rfl, ifT rfl ?_⟩
    have km18 := (km17.ext ft).ext g5
    generalize upd Ht p5 (.tup [.int n, .int n, .int n, .int 1, .int 1]) = Hs at km18
    refine ⟨vm, rfl, by show 3 ≤ sizeLine; decide, fun t1 ht1 => ⟨by show 1 ≤ sizeLine; decide, fun t2 ht2 => ⟨by show 2 ≤ sizeLine; decide, fun t3 ht3 => ?_⟩⟩⟩
    have j1 : Dp K (upd Hs t1 (.tup [.int 0, .int 0, .non])) (.ref t1) (Qst.d ⟨0, 0, none⟩) := .tup (SqT.of upd_same) (.cons (.int _) (.cons (.int _) (.cons .non .nil)))
    have i1 : Fx [] Hs (upd Hs t1 (.tup [.int 0, .int 0, .non])) := Fx.new ht1
    generalize upd Hs t1 (.tup [.int 0, .int 0, .non]) = Hr at i1 j1 ht2 ht3
    have j2 : Dp K (upd Hr t2 (.tup [.ref t1])) (.ref t2) (.tuple [Qst.d ⟨0, 0, none⟩]) := .tup (SqT.of upd_same) (.cons (j1.ext (Fx.new ht2)) .nil)
    have i2 : Fx [] Hr (upd Hr t2 (.tup [.ref t1])) := Fx.new ht2
    generalize upd Hr t2 (.tup [.ref t1]) = Hq at i2 j2 ht3
    have j3 : Dp K (upd Hq t3 (.tup [.ref t2, .int 1])) (.ref t3) (taskD tsk0) := .tup (SqT.of upd_same) (.cons (j2.ext (Fx.new ht3)) (.cons (.int _) .nil))
    have i3 : Fx [] Hq (upd Hq t3 (.tup [.ref t2, .int 1])) := Fx.new ht3
    generalize upd Hq t3 (.tup [.ref t2, .int 1]) = Hp3 at i3 j3
    refine ⟨vm, .ref t3, _, tsk0, 0, rfl, km18.ext ((i1.trans i2).trans i3), j3, hmo, tsk0_ok, z9, fun Ho w3 fo hw3 => ?_⟩
    rw [hrt0, hrt_ints] at hw3
    refine ⟨by show 5 ≤ sizeLine; decide, fun p6 hp6 => ?_⟩
    have k7 : Dp K (upd Ho p6 (.tup [.int 0, .int 0, .int 0, .int 1, .int 1])) (.ref p6) (.tuple (([0, 0, 0, 1, 1] : List Int).map .int)) := .tup (SqT.of upd_same) (Dp.ints [0, 0, 0, 1, 1])
    exact eq_tups _ (hw3.ext (Fx.new hp6)) k7 hrt0_eq (q _)
end Mh
/-! MhEnd -/
namespace Mh
open PySem PySem.Spec PyProof.Rows L2
abbrev R : PySem.W.OpenRow := PySem.W.OpenLaw.row PySem.Challenge.rw_measurehall_k09_whole_ways_tried
abbrev hk : PySem.W.Hook := He.hookD 5 fa fn
def ob (s : PySem.W.SharedT) : He.AlD := He.obsDG 5 fa fn (HandSHeadRun.getT s)
theorem ob_eq (s : PySem.W.SharedT) : ob s = hk.obs s.abs := He.obsDG_eq (HandSHeadRun.getT_eq s)
def looseN : List PySem.Str := (["MOST_ROWS", "MOST_KNOWN", "MOST_BY", "GREAT", "MOST_SEED", "BY_QUESTION", "BY_SEED", "MOST_QUESTIONS", "MOST_WEIGHT", "MOST_DUE", "HallError", "BadSeed", "BadMachine", "BadTask", "is_number", "is_tagged", "is_rest", "are_known", "is_test", "is_answer", "need_machine", "need_seed", "holds_for", "answer_by", "asked", "is_asked", "need_task", "right_of", "right", "choose"] : List PySem.Str) ++ (["heart", "_law_dice", "_law_off"] : List PySem.Str)
theorem run (w : World) : HandSHeadRun.RunEq R (PySem.W.view R.prog [37]) hk ob 4000 looseN w := by
  intro os
  kernel_rfl
end Mh
open PySem PySem.W PySem.Calls PyProof.Rows
theorem PySem.Challenge.cw_measurehall_k09_whole_ways_tried_holds : PySem.Challenge.rw_measurehall_k09_whole_ways_tried.Holds := by
  w_on; o_law
  refine HandSHeadRun.head_any (r := OpenLaw.row PySem.Challenge.rw_measurehall_k09_whole_ways_tried) (q := view (OpenLaw.row PySem.Challenge.rw_measurehall_k09_whole_ways_tried).prog [37]) (H := Mh.hk) (ob := Mh.ob) (M := 4000) (loose := Mh.looseN) (d := HandSHeadRun.topDef (OpenLaw.row PySem.Challenge.rw_measurehall_k09_whole_ways_tried).prog 37) (kwd := []) Mh.ob_eq
    (by kernel_rfl) (fun s => by kernel_rfl) Mh.run (by kernel_rfl) (by kernel_rfl) (by kernel_rfl) (by rfl) (by first | assumption | decide +kernel) (by decide +kernel) ⟨rfl, rfl, rfl, rfl, rfl, by decide +kernel⟩ ?hw ?hc
  case hw => w_witness2
  case hc =>
    refine L2.walk_ofE (l := PySem.Challenge.rw_measurehall_k09_whole_ways_tried) (n := 63) (k := Mh.lawLevel) (x := "_law_script") (CX := L2.CX0) rfl (by decide) (by kernel_rfl) ⟨rfl, by decide, by decide⟩ ?F (fun _ _ _ _ z => z)
    intro w mg fa h Y G hmg0
    obtain ⟨K, KX, c⟩ := Y
    have hmg : mg ("law" : PySem.Str) = some (.ref fa) := by
      have e : (HandSHeadRun.topDef (OpenLaw.row PySem.Challenge.rw_measurehall_k09_whole_ways_tried).prog 37).name = ("law" : PySem.Str) := by kernel_rfl
      rw [← e]
      exact hmg0
    have T : Mh.Tx K mg := ⟨c, h, KX, G⟩
    obtain ⟨fd, F⟩ := T.d_law
    have e := hmg.symm.trans T.g_law
    cases e
    have b := L2.FunD.bindsA (ps := ["_law_script"]) F fun _ _ _ _ _ _ us hl => match us, hl with | [_], _ => rfl
    exact ⟨K, fd, Mh.spLaw K, KX, fun s v => b s [v] rfl, fun H a ns hl _ hS => ⟨a, ns, rfl, hS, hl, fun _ => rfl⟩, fun base _ _ => Mh.ok_law T F⟩
#print axioms PySem.Challenge.cw_measurehall_k09_whole_ways_tried_holds
