import PyProof.Rows.All
import Wide.All
import Wide.FinOn
import HandS.Conv
import HandS.Deep
import HandS.DictComp
import HandS.ForMost
import HandS.Head0
import HandS.Head1
import HandS.Head2
import HandS.HeadEnd
import HandS.HeadHook1
import HandS.HeadHook2
import HandS.HeadNt
import HandS.IsInst
import HandS.New0
import HandS.Property
import HandS.Remove
import HandS.SetFor
import HandS.SetKeys
import HandS.SortInts
import HandS.SortRule
import HandS.Star
import HandS.Strs
import HandS.Style
import HandS.TupAny
import HandS.TupSets
import HandS.Walk
import HandS.Wide
import HandS.Zip
import KE.DataMinMax
import KE.KStateDown
import KE.SortData
import OpenK.AllK
import OpenK.KMeth
import OpenK.KOps
import PySem.Challenge.RW_rowclash_k47_whole_what_replace_leaves
set_option Elab.async false
set_option linter.all false
set_option maxRecDepth 100000
set_option maxHeartbeats 0
/-! part Ly1 -/
/-! my layer over HandS: values by their data, a kept base under every heap, typed slots -/
namespace Rk
open PySem PySem.Spec L2

/-! ### data at a value -/
abbrev lim : Nat := 100000
mutual
inductive Dv (H : Hp) : V → PyData → Prop
  | non : Dv H .non .none
  | bl (b : Bool) : Dv H (.bl b) (.bool b)
  | int (i : Int) : Dv H (.int i) (.int i)
  | str (x : Str) : Dv H (.str x) (.str x)
  | lst {a : Addr} {xs : List V} {ds : List PyData} : H a = some (.lst xs) → xs.length ≤ lim → Da H xs ds → Dv H (.ref a) (.list ds)
  | tup {a : Addr} {xs : List V} {ds : List PyData} : H a = some (.tup xs) → xs.length ≤ lim → Da H xs ds → Dv H (.ref a) (.tuple ds)
inductive Da (H : Hp) : List V → List PyData → Prop
  | nil : Da H [] []
  | cons {v : V} {vs : List V} {d : PyData} {ds : List PyData} : Dv H v d → Da H vs ds → Da H (v :: vs) (d :: ds)
end
mutual
theorem Dv.mono {H H' : Hp} (e : Same H H') : ∀ {d : PyData} {v : V}, Dv H v d → Dv H' v d
  | .none, _, h => by cases h; exact .non
  | .bool _, _, h => by cases h; exact .bl _
  | .int _, _, h => by cases h; exact .int _
  | .str _, _, h => by cases h; exact .str _
  | .list ds, _, h => by cases h with | lst h1 h2 h3 => exact .lst (e _ _ h1) h2 (Da.mono e h3)
  | .tuple ds, _, h => by cases h with | tup h1 h2 h3 => exact .tup (e _ _ h1) h2 (Da.mono e h3)
  | .dict _, _, h => by cases h
theorem Da.mono {H H' : Hp} (e : Same H H') : ∀ {ds : List PyData} {vs : List V}, Da H vs ds → Da H' vs ds
  | [], _, h => by cases h; exact .nil
  | d :: ds, _, h => by cases h with | cons h1 h2 => exact .cons (Dv.mono e h1) (Da.mono e h2)
end
mutual
theorem Dv.dp {K : PySem.W.Frag} {H : Hp} : ∀ {d : PyData} {v : V}, Dv H v d → Dp K H v d
  | .none, _, h => by cases h; exact .non
  | .bool _, _, h => by cases h; exact .bl _
  | .int _, _, h => by cases h; exact .int _
  | .str _, _, h => by cases h; exact .str _
  | .list ds, _, h => by cases h with | lst h1 h2 h3 => exact .lst (SqL.of h1) (Da.dp h3)
  | .tuple ds, _, h => by cases h with | tup h1 h2 h3 => exact .tup (SqT.of h1) (Da.dp h3)
  | .dict _, _, h => by cases h
theorem Da.dp {K : PySem.W.Frag} {H : Hp} : ∀ {ds : List PyData} {vs : List V}, Da H vs ds → DpAll K H vs ds
  | [], _, h => by cases h; exact .nil
  | d :: ds, _, h => by cases h with | cons h1 h2 => exact .cons (Dv.dp h1) (Da.dp h2)
end
theorem Da.length {H : Hp} : ∀ {ds : List PyData} {vs : List V}, Da H vs ds → vs.length = ds.length
  | [], _, h => by cases h; rfl
  | d :: ds, _, h => by cases h with | cons h1 h2 => simp [Da.length h2]
theorem Da.get {H : Hp} : ∀ {ds : List PyData} {vs : List V} {i : Nat} {d : PyData}, Da H vs ds → ds[i]? = some d → ∃ v, vs[i]? = some v ∧ Dv H v d
  | [], _, i, d, _, e => by simp at e
  | x :: ds, _, 0, d, h, e => by cases h with | cons h1 h2 => simp at e; subst e; exact ⟨_, rfl, h1⟩
  | x :: ds, _, i + 1, d, h, e => by
    cases h with
    | cons h1 h2 =>
      obtain ⟨v, a, b⟩ := Da.get (i := i) h2 (by simpa using e)
      exact ⟨v, by simpa using a, b⟩
theorem Da.getV {H : Hp} : ∀ {ds : List PyData} {vs : List V} {i : Nat} {v : V}, Da H vs ds → vs[i]? = some v → ∃ d, ds[i]? = some d ∧ Dv H v d
  | [], _, i, v, h, e => by cases h; simp at e
  | x :: ds, _, 0, v, h, e => by cases h with | cons h1 h2 => simp at e; subst e; exact ⟨_, rfl, h1⟩
  | x :: ds, _, i + 1, v, h, e => by
    cases h with
    | cons h1 h2 =>
      obtain ⟨d, a, b⟩ := Da.getV (i := i) h2 (by simpa using e)
      exact ⟨d, by simpa using a, b⟩
theorem Da.append {H : Hp} : ∀ {ds es : List PyData} {vs ws : List V}, Da H vs ds → Da H ws es → Da H (vs ++ ws) (ds ++ es)
  | [], _, _, _, h, k => by cases h; exact k
  | x :: ds, _, _, _, h, k => by cases h with | cons h1 h2 => exact .cons h1 (Da.append h2 k)
theorem Da.take {H : Hp} : ∀ {ds : List PyData} {vs : List V} (n : Nat), Da H vs ds → Da H (vs.take n) (ds.take n)
  | _, _, 0, _ => .nil
  | [], _, n + 1, h => by cases h; exact .nil
  | x :: ds, _, n + 1, h => by cases h with | cons h1 h2 => exact .cons h1 (Da.take n h2)
theorem Da.drop {H : Hp} : ∀ {ds : List PyData} {vs : List V} (n : Nat), Da H vs ds → Da H (vs.drop n) (ds.drop n)
  | _, _, 0, h => h
  | [], _, n + 1, h => by cases h; exact .nil
  | x :: ds, _, n + 1, h => by cases h with | cons h1 h2 => exact Da.drop n h2
theorem Da.rev {H : Hp} : ∀ {ds : List PyData} {vs : List V}, Da H vs ds → Da H vs.reverse ds.reverse
  | [], _, h => by cases h; exact .nil
  | x :: ds, _, h => by
    cases h with
    | cons h1 h2 =>
      rw [List.reverse_cons, List.reverse_cons]
      exact (Da.rev h2).append (.cons h1 .nil)
theorem Da.eraseIdx {H : Hp} : ∀ {ds : List PyData} {vs : List V} (n : Nat), Da H vs ds → Da H (vs.eraseIdx n) (ds.eraseIdx n)
  | [], _, n, h => by cases h; exact .nil
  | x :: ds, _, 0, h => by cases h with | cons h1 h2 => exact h2
  | x :: ds, _, n + 1, h => by cases h with | cons h1 h2 => exact .cons h1 (Da.eraseIdx n h2)
theorem Da.ints {H : Hp} : ∀ {ns : List Int} {vs : List V}, Da H vs (ns.map .int) → vs = ns.map V.int
  | [], _, h => by cases h; rfl
  | n :: ns, _, h => by cases h with | cons h1 h2 => cases h1; rw [Da.ints h2]; rfl
theorem Da.ofInts {H : Hp} : ∀ (ns : List Int), Da H (ns.map V.int) (ns.map .int)
  | [] => .nil
  | n :: ns => .cons (.int n) (Da.ofInts ns)
theorem Da.bools {H : Hp} : ∀ {bs : List Bool} {vs : List V}, Da H vs (bs.map .bool) → vs = bs.map V.bl
  | [], _, h => by cases h; rfl
  | n :: ns, _, h => by cases h with | cons h1 h2 => cases h1; rw [Da.bools h2]; rfl

/-! ### heaps over a kept base -/
/-- from (H, B) to (H', B'): all is kept, and the base takes nothing that stood outside it -/
structure Stp (H B H' B' : Hp) : Prop where
  h : Same H H'
  b : Same B B'
  s : Same B' H'
  f : ∀ a, B a = none → H a ≠ none → B' a = none
theorem Stp.refl {H B : Hp} (e : Same B H) : Stp H B H B := ⟨.refl _, .refl _, e, fun _ h _ => h⟩
theorem Stp.trans {H B H1 B1 H2 B2 : Hp} (a : Stp H B H1 B1) (b : Stp H1 B1 H2 B2) : Stp H B H2 B2 :=
  ⟨a.h.trans b.h, a.b.trans b.b, b.s, fun x h1 h2 => b.f x (a.f x h1 h2) fun h3 => h2 (a.h.free h3)⟩
theorem same_upd {H : Hp} {p : Addr} {o : HO} (h : H p = none) : Same H (upd H p o) := fun a u e => by rw [upd_ne (ne_of_none e h)]; exact e
/-- a new object, in the base too -/
theorem Stp.new {H B : Hp} {p : Addr} {o : HO} (e : Same B H) (h : H p = none) : Stp H B (upd H p o) (upd B p o) := by
  refine ⟨same_upd h, same_upd (e.free h), fun a u q => ?_, fun a h1 h2 => ?_⟩
  · by_cases hp : a = p
    · subst hp; rw [upd_same] at q ⊢; exact q
    · rw [upd_ne hp] at q ⊢; exact e a u q
  · have : a ≠ p := fun z => h2 (z ▸ h)
    rw [upd_ne this]; exact h1
/-- the heap alone grows -/
theorem Stp.grow {H B H' : Hp} (e : Same B H) (k : Same H H') : Stp H B H' B := ⟨k, .refl _, e.trans k, fun _ h _ => h⟩

/-- what a slot's value is -/
structure Ty where
  R : V → Hp → Prop
  st : ∀ {H H' : Hp} {v : V}, Same H H' → R v H → R v H'
def tD (d : PyData) : Ty := ⟨fun v H => Dv H v d, fun e h => h.mono e⟩
def tV (v : V) : Ty := ⟨fun u _ => u = v, fun _ h => h⟩
abbrev tI (i : Int) : Ty := tD (.int i)
abbrev tB (b : Bool) : Ty := tD (.bool b)
abbrev tN : Ty := tD .none
abbrev tS (s : Str) : Ty := tD (.str s)
/-- the value does not lean on the heap -/
def Sc (t : Ty) : Prop := ∀ v H H', t.R v H → t.R v H'
theorem sc_int (i : Int) : Sc (tI i) := fun v H H' h => by cases h; exact .int i
theorem sc_bl (i : Bool) : Sc (tB i) := fun v H H' h => by cases h; exact .bl i
theorem sc_str (i : Str) : Sc (tS i) := fun v H H' h => by cases h; exact .str i
theorem sc_non : Sc tN := fun v H H' h => by cases h; exact .non
def optD : Option Int → PyData
  | none => .none
  | some i => .int i
theorem sc_opt : ∀ o : Option Int, Sc (tD (optD o))
  | none => sc_non
  | some i => sc_int i
theorem tI_R {i : Int} {v : V} {H : Hp} (h : (tI i).R v H) : v = .int i := by cases h; rfl
theorem tB_R {b : Bool} {v : V} {H : Hp} (h : (tB b).R v H) : v = .bl b := by cases h; rfl
theorem tN_R {v : V} {H : Hp} (h : tN.R v H) : v = .non := by cases h; rfl
theorem tS_R {s : Str} {v : V} {H : Hp} (h : (tS s).R v H) : v = .str s := by cases h; rfl
theorem tL_R {ds : List PyData} {v : V} {H : Hp} (h : (tD (.list ds)).R v H) : ∃ a vs, v = .ref a ∧ H a = some (.lst vs) ∧ vs.length ≤ lim ∧ Da H vs ds := by
  cases h with | lst h1 h2 h3 => exact ⟨_, _, rfl, h1, h2, h3⟩
theorem tT_R {ds : List PyData} {v : V} {H : Hp} (h : (tD (.tuple ds)).R v H) : ∃ a vs, v = .ref a ∧ H a = some (.tup vs) ∧ vs.length ≤ lim ∧ Da H vs ds := by
  cases h with | tup h1 h2 h3 => exact ⟨_, _, rfl, h1, h2, h3⟩

/-! ### typed slots -/
/-- what a def alone holds and changes: its object o over the base B -/
structure Osp where
  ok : Addr → HO → Hp → Prop
  st : ∀ {B B' : Hp} {o : HO} {p : Addr}, Same B B' → ok p o B → ok p o B'
  ty : Ty
  as : ∀ {B : Hp} {o : HO} {p : Addr}, ok p o B → B p = some o → ty.R (.ref p) B
inductive Sl where
  | ty (t : Ty)
  | own (o : Osp)
abbrev Gm := List (Option Sl)
/-- a list that grows -/
def oL (ds : List PyData) : Osp where
  ok := fun _ o B => ∃ vs, o = .lst vs ∧ vs.length ≤ lim ∧ Da B vs ds
  st := fun e ⟨vs, h1, h2, h3⟩ => ⟨vs, h1, h2, h3.mono e⟩
  ty := tD (.list ds)
  as := fun ⟨vs, h1, h2, h3⟩ hp => .lst (h1 ▸ hp) h2 h3

structure Sa (Γ : Gm) (σ : St) (H B : Hp) : Prop where
  ln : σ.length = Γ.length
  sm : Same B H
  ty : ∀ (i : Nat) (t : Ty), Γ[i]? = some (some (.ty t)) → ∃ v, σ[i]? = some (some v) ∧ t.R v B
theorem Sa.mono {Γ : Gm} {σ : St} {H B H' B' : Hp} (a : Sa Γ σ H B) (s : Stp H B H' B') : Sa Γ σ H' B' :=
  ⟨a.ln, s.s, fun i t e => let ⟨v, h1, h2⟩ := a.ty i t e; ⟨v, h1, t.st s.b h2⟩⟩
theorem Sa.set {Γ : Gm} {σ : St} {H B : Hp} (a : Sa Γ σ H B) {j : Nat} {v : V} {t : Ty} (h : t.R v B) : Sa (Γ.set j (some (.ty t))) (σ.set j (some v)) H B := by
  refine ⟨by simp [a.ln], a.sm, fun i u e => ?_⟩
  by_cases hij : j = i
  · subst hij
    rw [List.getElem?_set] at e ⊢
    by_cases hl : j < Γ.length
    · simp only [hl, if_true] at e
      cases e
      exact ⟨v, by simp [a.ln, hl], h⟩
    · simp [hl] at e
  · rw [List.getElem?_set_ne hij] at e ⊢
    exact a.ty i u e
def wipeG (Γ : Gm) : List Nat → Gm
  | [] => Γ
  | v :: vs => (wipeG Γ vs).set v none
theorem Sa.none {Γ : Gm} {σ : St} {H B : Hp} (a : Sa Γ σ H B) {j : Nat} {w : Option V} : Sa (Γ.set j none) (σ.set j w) H B := by
  refine ⟨by simp [a.ln], a.sm, fun i u e => ?_⟩
  by_cases hij : j = i
  · subst hij
    rw [List.getElem?_set] at e
    by_cases hl : j < Γ.length
    · simp [hl] at e
    · simp [hl] at e
  · rw [List.getElem?_set_ne hij] at e ⊢
    exact a.ty i u e
theorem Sa.wipe {Γ : Gm} {σ : St} {H B : Hp} (a : Sa Γ σ H B) : ∀ vs : List Nat, Sa (wipeG Γ vs) (wipe σ vs) H B
  | [] => a
  | v :: vs => (Sa.wipe a vs).none
theorem wipe_set {σ : St} {w : Option V} : ∀ {vs : List Nat} {j : Nat}, j ∈ vs → wipe (σ.set j w) vs = wipe σ vs
  | [], _, h => by cases h
  | v :: vs, j, h => by
    unfold L2.wipe
    by_cases hj : j ∈ vs
    · rw [wipe_set hj]
    · have e : j = v := (List.mem_cons.mp h).resolve_right hj
      subst e
      have : ∀ us : List Nat, j ∉ us → wipe (σ.set j w) us = (wipe σ us).set j w := fun us hu => by
        induction us with
        | nil => rfl
        | cons u us ih =>
          have h1 : j ≠ u := fun z => hu (z ▸ List.mem_cons_self)
          unfold L2.wipe
          rw [ih fun z => hu (List.mem_cons_of_mem _ z), List.set_comm _ _ h1]
      rw [this vs hj, List.set_set]
theorem wipe_wipe {σ : St} : ∀ {vs us : List Nat}, (∀ v ∈ vs, v ∈ us) → wipe (wipe σ vs) us = wipe σ us
  | [], _, _ => rfl
  | v :: vs, us, h => by
    show wipe ((wipe σ vs).set v none) us = _
    rw [wipe_set (h v List.mem_cons_self), wipe_wipe fun x hx => h x (List.mem_cons_of_mem _ hx)]

/-! ### expressions -/
def rd (Γ : Gm) (t : Ty) : TE := fun σ H Q => ∃ B, Sa Γ σ H B ∧ ∀ v H' B', Stp H B H' B' → t.R v B' → Q v H'
def rb (Γ : Gm) (b : Bool) : TT := fun σ H Q => ∃ B, Sa Γ σ H B ∧ ∀ H' B', Stp H B H' B' → Q b H'
inductive Args (B : Hp) : List V → List Ty → Prop
  | nil : Args B [] []
  | cons {v : V} {vs : List V} {t : Ty} {ts : List Ty} : t.R v B → Args B vs ts → Args B (v :: vs) (t :: ts)
theorem Args.mono {B B' : Hp} (e : Same B B') : ∀ {vs : List V} {ts : List Ty}, Args B vs ts → Args B' vs ts
  | _, _, .nil => .nil
  | _, _, .cons h t => .cons (Ty.st _ e h) (Args.mono e t)
theorem Args.length {B : Hp} : ∀ {vs : List V} {ts : List Ty}, Args B vs ts → vs.length = ts.length
  | _, _, .nil => rfl
  | _, _, .cons h t => by simp [Args.length t]
def ra (Γ : Gm) (ts : List Ty) : TA := fun σ H Q => ∃ B, Sa Γ σ H B ∧ ∀ vs H' B', Stp H B H' B' → Args B' vs ts → Q vs H'
abbrev EV (X : Cx) (Γ : Gm) (e : Expr) (t : Ty) : Prop := PE X e (rd Γ t)
abbrev CT (X : Cx) (Γ : Gm) (e : Expr) (b : Bool) : Prop := PT X e (rb Γ b)
abbrev EA (X : Cx) (Γ : Gm) (es : List Expr) (ts : List Ty) : Prop := PA X es (ra Γ ts)
section
variable {X : Cx} {Γ : Gm} {e a b c : Expr} {es : List Expr} {t ta tb tc : Ty} {ts : List Ty} {pos : Pos}
theorem PE.imp {t0 t1 : TE} (h : PE X e t0) (k : ∀ σ H Q, t1 σ H Q → t0 σ H Q) : PE X e t1 := ⟨fun pins s σ H Q I q => h.run pins s σ H Q I (k σ H Q q)⟩
theorem PT.imp {t0 t1 : TT} (h : PT X e t0) (k : ∀ σ H Q, t1 σ H Q → t0 σ H Q) : PT X e t1 := ⟨fun pins s σ H Q I q => h.run pins s σ H Q I (k σ H Q q)⟩
theorem PS.imp {st : Stmt} {t0 t1 : TS} (h : PS X st t0) (k : ∀ D σ H, t1 D σ H → t0 D σ H) : PS X st t1 := ⟨fun pins s σ H D I q => h.run pins s σ H D I (k D σ H q)⟩
theorem PSs.imp {st : List Stmt} {t0 t1 : TS} (h : PSs X st t0) (k : ∀ D σ H, t1 D σ H → t0 D σ H) : PSs X st t1 := ⟨fun pins s σ H D I q => h.run pins s σ H D I (k D σ H q)⟩
theorem EV.of {t0 : TE} (h : PE X e t0) (k : ∀ σ H B (Q : VK), Sa Γ σ H B → (∀ v H' B', Stp H B H' B' → t.R v B' → Q v H') → t0 σ H Q) : EV X Γ e t :=
  PE.imp h fun σ H Q ⟨B, sa, q⟩ => k σ H B Q sa q
/-- the value is had at once -/
theorem rd.go {σ : St} {H B : Hp} {Q : VK} (sa : Sa Γ σ H B) (q : ∀ v H' B', Stp H B H' B' → t.R v B' → Q v H') : rd Γ t σ H Q := ⟨B, sa, q⟩
theorem rd.two {σ : St} {H B : Hp} {R : V → V → Hp → Prop} (sa : Sa Γ σ H B) (q : ∀ x y H' B', Stp H B H' B' → ta.R x B' → tb.R y B' → R x y H') : rd Γ ta σ H fun x H1 => rd Γ tb σ H1 fun y H2 => R x y H2 :=
  ⟨B, sa, fun x H1 B1 s1 rx => ⟨B1, sa.mono s1, fun y H2 B2 s2 ry => q x y H2 B2 (s1.trans s2) (ta.st s2.b rx) ry⟩⟩
theorem EV.cast (h : EV X Γ e ta) (k : ta = tb) : EV X Γ e tb := k ▸ h
theorem EV.imp (h : EV X Γ e ta) (k : ∀ v B, ta.R v B → tb.R v B) : EV X Γ e tb := EV.of h fun σ H B Q sa q => ⟨B, sa, fun v H' B' s r => q v H' B' s (k v B' r)⟩
theorem CT.cast {x y : Bool} (h : CT X Γ e x) (k : x = y) : CT X Γ e y := k ▸ h
theorem EA.nil : EA X Γ [] [] := ⟨fun pos pins s σ H Q I ⟨B, sa, q⟩ => pa_nil.run pos pins s σ H Q I (q _ _ _ (Stp.refl sa.sm) .nil)⟩
theorem EA.cons (h : EV X Γ e t) (hr : EA X Γ es ts) (hs : starEach (e :: es) X.env = (false, eval e X.env) :: starEach es X.env := by rfl) : EA X Γ (e :: es) (t :: ts) :=
  ⟨fun pos pins s σ H Q I ⟨B, sa, q⟩ => (pa_cons h hr hs).run pos pins s σ H Q I ⟨B, sa, fun v H1 B1 s1 r1 => ⟨B1, sa.mono s1, fun vs H2 B2 s2 r2 => q _ _ _ (s1.trans s2) (.cons (t.st s2.b r1) r2)⟩⟩⟩
theorem EA.one (h : EV X Γ e t) (hs : starEach [e] X.env = [(false, eval e X.env)] := by rfl) : EA X Γ [e] [t] := EA.cons h EA.nil hs

/-! names, constants -/
theorem EV.var {x : Str} (i : Nat) (hg : Γ[i]? = some (some (.ty t)) := by rfl) (hN : X.N[i]? = some x := by rfl) (hv : Vis X.env.scope x := by first | exact Or.inl rfl | exact Or.inr (Or.inl rfl) | exact Or.inr (Or.inr rfl))
    (hd : (x == ("__debug__" : Str)) = false := by decide) (hcd : (x == ("__classdict__" : Str)) = false := by decide) : EV X Γ (.Name x pos) t :=
  EV.of (pe_var hN hv hd hcd) fun σ H B Q sa q => let ⟨v, h1, h2⟩ := sa.ty i t hg; ⟨v, h1, q v H B (Stp.refl sa.sm) h2⟩
theorem EV.const {v : V} (h : PE X e (tC v)) (r : ∀ B, t.R v B) : EV X Γ e t := EV.of h fun σ H B Q sa q => q v H B (Stp.refl sa.sm) (r B)
theorem EV.int {i j} : EV X Γ (.Constant (.int i) j pos) (tI i) := EV.const pe_int fun _ => .int i
theorem EV.bl {i j} : EV X Γ (.Constant (.bool i) j pos) (tB i) := EV.const pe_bl fun _ => .bl i
theorem EV.non {j} : EV X Γ (.Constant .none j pos) tN := EV.const pe_non fun _ => .non
theorem EV.str {i j} : EV X Γ (.Constant (.str i) j pos) (tS i) := EV.const pe_str fun _ => .str i
/-- a module's number -/
theorem EV.gint {x : Str} {i : Int} {u : Value} (hm : X.mg x = some u) (r : RelV (.int i) u) (hg : Gl X x := by rfl) (hd : (x == ("__debug__" : Str)) = false := by decide) : EV X Γ (.Name x pos) (tI i) := EV.const (pe_glob hg hm r hd) fun _ => .int i

/-! operators by their types -/
def rop (ta tb tc : Ty) : R2 := fun x y H Q => ∃ B, Same B H ∧ ta.R x B ∧ tb.R y B ∧ ∀ v H' B', Stp H B H' B' → tc.R v B' → Q v H'
abbrev Opt (X : Cx) (f : Value → Value → Sem Value) (ta tb tc : Ty) : Prop := OpR X f (rop ta tb tc)
theorem OpR.imp {f : Value → Value → Sem Value} {r r' : R2} (h : OpR X f r) (k : ∀ x y H Q, r' x y H Q → r x y H Q) : OpR X f r' := fun pins s σ H x y v u Q I rx ry q => h pins s σ H x y v u Q I rx ry (k x y H Q q)
theorem Opt.of {f : Value → Value → Sem Value} {r : R2} (h : OpR X f r) (k : ∀ x y H B (Q : VK), Same B H → ta.R x B → tb.R y B → (∀ v H' B', Stp H B H' B' → tc.R v B' → Q v H') → r x y H Q) : Opt X f ta tb tc :=
  OpR.imp h fun x y H Q ⟨B, s, rx, ry, q⟩ => k x y H B Q s rx ry q
theorem EV.bin {op : Operator} (ha : EV X Γ a ta) (hb : EV X Γ b tb) (ho : Opt X (binaryOp op) ta tb tc) : EV X Γ (.BinOp a op b pos) tc :=
  EV.of (pe_op ho ha hb) fun σ H B Q sa q => rd.two sa fun x y H' B' s rx ry => ⟨B', s.s, rx, ry, fun v H2 B2 s2 r2 => q v H2 B2 (s.trans s2) r2⟩
theorem EV.cmp {op : CmpOp} (ha : EV X Γ a ta) (hb : EV X Γ b tb) (ho : Opt X (compareOp op) ta tb tc) (hm : behindInMarks op b = false := by rfl) : EV X Γ (.Compare a [op] [b] pos) tc :=
  EV.of (pe_cmpR ho ha hb hm) fun σ H B Q sa q => rd.two sa fun x y H' B' s rx ry => ⟨B', s.s, rx, ry, fun v H2 B2 s2 r2 => q v H2 B2 (s.trans s2) r2⟩
theorem CT.cmp {op : CmpOp} {k : Bool} (ha : EV X Γ a ta) (hb : EV X Γ b tb) (ho : Opt X (compareOp op) ta tb (tB k)) (hm : behindInMarks op b = false := by rfl) : CT X Γ (.Compare a [op] [b] pos) k :=
  PT.imp (pt_cmpR ho ha hb hm) fun σ H Q ⟨B, sa, q⟩ => rd.two sa fun x y H' B' s rx ry => ⟨B', s.s, rx, ry, fun v H2 B2 s2 r2 => ⟨k, tB_R r2, q H2 B2 (s.trans s2)⟩⟩
theorem EV.chain {op op' : CmpOp} {k k' : Bool} (ha : EV X Γ a ta) (hb : EV X Γ b tb) (hc : EV X Γ c tc) (ho : Opt X (compareOp op) ta tb (tB k)) (ho' : Opt X (compareOp op') tb tc (tB k')) (hm : lastMarks [op, op'] [b, c] = false := by rfl) : EV X Γ (.Compare a [op, op'] [b, c] pos) (tB (k && k')) := by
  refine EV.of (pe_chain ho ho' ha hb hc hm) fun σ H B Q sa q => rd.two sa fun x y H1 B1 s1 rx ry => ⟨B1, s1.s, rx, ry, fun v H2 B2 s2 r2 => ⟨k, tB_R r2, ?_⟩⟩
  cases k with
  | true =>
    rw [if_pos rfl]
    exact ⟨B2, sa.mono (s1.trans s2), fun z H3 B3 s3 rz => ⟨B3, s3.s, tb.st (s2.b.trans s3.b) ry, rz, fun w H4 B4 s4 r4 => q w H4 B4 ((s1.trans s2).trans (s3.trans s4)) (by simpa using r4)⟩⟩
  | false =>
    rw [if_neg (by decide)]
    exact q _ H2 B2 (s1.trans s2) (.bl false)
theorem Opt.pure {f : Value → Value → Sem Value} {r : R2} {z : V} (h : OpR X f r) (k : ∀ x y H B (Q : VK), Same B H → ta.R x B → tb.R y B → Q z H → r x y H Q) (hz : ∀ B, tc.R z B) : Opt X f ta tb tc :=
  Opt.of h fun x y H B Q s rx ry q => k x y H B Q s rx ry (q z H B (Stp.refl s) (hz B))
theorem oI {f : Value → Value → Sem Value} {g : Int → Int → Int} {i j : Int} (h : OpR X f (rI0 fun i j => .int (g i j))) : Opt X f (tI i) (tI j) (tI (g i j)) :=
  Opt.pure h (fun x y H B Q s rx ry q => ⟨i, j, tI_R rx, tI_R ry, q⟩) fun _ => .int _
theorem oIC {f : Value → Value → Sem Value} {C : Int → Int → Prop} {g : Int → Int → Int} {i j : Int} (h : OpR X f (rI C fun i j => .int (g i j))) (hc : C i j) : Opt X f (tI i) (tI j) (tI (g i j)) :=
  Opt.pure h (fun x y H B Q s rx ry q => ⟨i, j, tI_R rx, tI_R ry, hc, q⟩) fun _ => .int _
theorem oB {f : Value → Value → Sem Value} {g : Int → Int → Bool} {i j : Int} (h : OpR X f (rI0 fun i j => .bl (g i j))) : Opt X f (tI i) (tI j) (tB (g i j)) :=
  Opt.pure h (fun x y H B Q s rx ry q => ⟨i, j, tI_R rx, tI_R ry, q⟩) fun _ => .bl _
theorem o_add {i j : Int} : Opt X (binaryOp .Add) (tI i) (tI j) (tI (i + j)) := oI op_add
theorem o_sub {i j : Int} : Opt X (binaryOp .Sub) (tI i) (tI j) (tI (i - j)) := oI op_sub
theorem o_lt {i j : Int} : Opt X (compareOp .Lt) (tI i) (tI j) (tB (decide (i < j))) := oB op_lt
theorem o_le {i j : Int} : Opt X (compareOp .LtE) (tI i) (tI j) (tB (decide (i ≤ j))) := oB op_le
theorem o_gt {i j : Int} : Opt X (compareOp .Gt) (tI i) (tI j) (tB (decide (j < i))) := oB op_gt
theorem o_ge {i j : Int} : Opt X (compareOp .GtE) (tI i) (tI j) (tB (decide (j ≤ i))) := oB op_ge
end
end Rk
/-! part Ly2 -/
namespace Rk
open PySem PySem.Spec L2
section
variable {X : Cx} {Γ : Gm} {e a b c o : Expr} {es : List Expr} {t ta tb tc : Ty} {ts : List Ty} {pos p : Pos}

/-! tests -/
theorem CT.val {k : Bool} (h : EV X Γ e (tB k)) (he : ∀ whole, isTrue e X.env whole = (do let v ← whole; standAt e.pos; holding [v] (truthy v)) := by intro _; rfl) : CT X Γ e k :=
  PT.imp (pt_val h he) fun σ H Q ⟨B, sa, q⟩ => ⟨B, sa, fun v H' B' s r => ⟨k, tB_R r, q H' B' s⟩⟩
theorem CT.not {k : Bool} (h : CT X Γ a k) : CT X Γ (.UnaryOp .Not a pos) (!k) := PT.imp (pt_not h) fun σ H Q ⟨B, sa, q⟩ => ⟨B, sa, fun H' B' s => q H' B' s⟩
abbrev CW (X : Cx) (Γ : Gm) (e : Expr) (b : Bool) : Prop := PW X e (rb Γ b)
theorem PW.imp {t0 t1 : TT} (h : PW X e t0) (k : ∀ σ H Q, t1 σ H Q → t0 σ H Q) : PW X e t1 := ⟨fun wh pins s σ H Q I q => h.run wh pins s σ H Q I (k σ H Q q)⟩
theorem CW.and1 {k : Bool} (h : CT X Γ a k) : CW X Γ (.BoolOp .And [a] pos) k := pw_and1 h
theorem CW.or1 {k : Bool} (h : CT X Γ a k) : CW X Γ (.BoolOp .Or [a] pos) k := pw_or1 h
/-- a reading that need not be asked where the first word decides -/
def rb' (Γ : Gm) (c : Prop) (b : Bool) : TT := fun σ H Q => c ∧ rb Γ b σ H Q
theorem PW.cond {c : Prop} {k : Bool} (h : c → PW X e (rb Γ k)) : PW X e (rb' Γ c k) := ⟨fun wh pins s σ H Q I ⟨hc, q⟩ => (h hc).run wh pins s σ H Q I q⟩
def rd' (Γ : Gm) (c : Prop) (t : Ty) : TE := fun σ H Q => c ∧ rd Γ t σ H Q
theorem PE.cond {c : Prop} (h : c → EV X Γ e t) : PE X e (rd' Γ c t) := ⟨fun pins s σ H Q I ⟨hc, q⟩ => (h hc).run pins s σ H Q I q⟩
theorem CW.and {k k' : Bool} {rest : List Expr} (h : CT X Γ a k) (h2 : k = true → CW X Γ (.BoolOp .And (b :: rest) pos) k') : CW X Γ (.BoolOp .And (a :: b :: rest) pos) (k && k') :=
  PW.imp (pw_and h (PW.cond (c := k = true) h2)) fun σ H Q ⟨B, sa, q⟩ => ⟨B, sa, fun H1 B1 s1 => by
    cases k with
    | true => rw [if_pos rfl]; exact ⟨rfl, B1, sa.mono s1, fun H2 B2 s2 => q H2 B2 (s1.trans s2)⟩
    | false => rw [if_neg (by decide)]; exact q H1 B1 s1⟩
theorem CW.or {k k' : Bool} {rest : List Expr} (h : CT X Γ a k) (h2 : k = false → CW X Γ (.BoolOp .Or (b :: rest) pos) k') : CW X Γ (.BoolOp .Or (a :: b :: rest) pos) (k || k') :=
  PW.imp (pw_or h (PW.cond (c := k = false) h2)) fun σ H Q ⟨B, sa, q⟩ => ⟨B, sa, fun H1 B1 s1 => by
    cases k with
    | true => rw [if_pos rfl]; exact q H1 B1 s1
    | false => rw [if_neg (by decide)]; exact ⟨rfl, B1, sa.mono s1, fun H2 B2 s2 => q H2 B2 (s1.trans s2)⟩⟩
theorem CW.ct {k : Bool} (h : CW X Γ e k) : CT X Γ e k := PW.pt h
/-! and, or, not as values -/
theorem EV.one {op} (h : EV X Γ a t) : EV X Γ (.BoolOp op [a] pos) t := EV.of (pe_one h) fun σ H B Q sa q => ⟨B, sa, q⟩
theorem EV.and {k k' : Bool} {rest : List Expr} (h : EV X Γ a (tB k)) (h2 : k = true → EV X Γ (.BoolOp .And (b :: rest) pos) (tB k')) : EV X Γ (.BoolOp .And (a :: b :: rest) pos) (tB (k && k')) :=
  EV.of (pe_and h (PE.cond (c := k = true) h2)) fun σ H B Q sa q => ⟨B, sa, fun v H1 B1 s1 r1 => ⟨k, tB_R r1, by
    cases k with
    | true => rw [if_pos rfl]; exact ⟨rfl, B1, sa.mono s1, fun v2 H2 B2 s2 r2 => q v2 H2 B2 (s1.trans s2) (by simpa using r2)⟩
    | false => rw [if_neg (by decide)]; exact q _ H1 B1 s1 (.bl false)⟩⟩
theorem EV.or {k k' : Bool} {rest : List Expr} (h : EV X Γ a (tB k)) (h2 : k = false → EV X Γ (.BoolOp .Or (b :: rest) pos) (tB k')) : EV X Γ (.BoolOp .Or (a :: b :: rest) pos) (tB (k || k')) :=
  EV.of (pe_or h (PE.cond (c := k = false) h2)) fun σ H B Q sa q => ⟨B, sa, fun v H1 B1 s1 r1 => ⟨k, tB_R r1, by
    cases k with
    | true => rw [if_pos rfl]; exact q _ H1 B1 s1 (.bl true)
    | false => rw [if_neg (by decide)]; exact ⟨rfl, B1, sa.mono s1, fun v2 H2 B2 s2 r2 => q v2 H2 B2 (s1.trans s2) (by simpa using r2)⟩⟩⟩
theorem EV.not {k : Bool} (h : EV X Γ a (tB k)) : EV X Γ (.UnaryOp .Not a pos) (tB (!k)) :=
  EV.of (pe_not h) fun σ H B Q sa q => ⟨B, sa, fun v H1 B1 s1 r1 => ⟨k, tB_R r1, q _ H1 B1 s1 (.bl _)⟩⟩
theorem EV.ifE {k : Bool} (h : CT X Γ c k) (h1 : k = true → EV X Γ a t) (h2 : k = false → EV X Γ b t) : EV X Γ (.IfExp c a b pos) t :=
  EV.of (pe_ifExp h (PE.cond (c := k = true) h1) (PE.cond (c := k = false) h2)) fun σ H B Q sa q => ⟨B, sa, fun H1 B1 s1 => by
    cases k with
    | true => rw [if_pos rfl]; exact ⟨rfl, B1, sa.mono s1, fun v2 H2 B2 s2 r2 => q v2 H2 B2 (s1.trans s2) r2⟩
    | false => rw [if_neg (by decide)]; exact ⟨rfl, B1, sa.mono s1, fun v2 H2 B2 s2 r2 => q v2 H2 B2 (s1.trans s2) r2⟩⟩
theorem EV.neg {i : Int} (h : EV X Γ a (tI i)) : EV X Γ (.UnaryOp .USub a pos) (tI (-i)) :=
  EV.of (pe_un un_neg h) fun σ H B Q sa q => ⟨B, sa, fun v H1 B1 s1 r1 => ⟨i, tI_R r1, q _ H1 B1 s1 (.int _)⟩⟩

/-! displays -/
theorem Da.ofArgs {B : Hp} : ∀ {vs : List V} {ds : List PyData}, Args B vs (ds.map tD) → Da B vs ds
  | _, [], h => by cases h; exact .nil
  | _, d :: ds, h => by cases h with | cons h1 h2 => exact .cons h1 (Da.ofArgs h2)
theorem lim_le {n : Nat} (h : n ≤ lim) : n ≤ sizeLine := Nat.le_trans h (by decide)
theorem lim_lt {n : Nat} (h : n ≤ lim) : n < sizeLine := Nat.lt_of_le_of_lt h (by decide)
theorem EV.tup {x1} {ds : List PyData} (h : EA X Γ es (ds.map tD)) (hl : ds.length ≤ lim := by exact Nat.le_of_ble_eq_true rfl) : EV X Γ (.Tuple es x1 pos) (tD (.tuple ds)) :=
  EV.of (pe_tup h) fun σ H B Q sa q => ⟨B, sa, fun vs H1 B1 s1 r1 => by
    have r2 := Da.ofArgs r1
    have hz : vs.length ≤ lim := by rw [r2.length]; exact hl
    exact ⟨lim_le hz, fun p hp => q _ _ _ (s1.trans (Stp.new s1.s hp)) (.tup upd_same hz (r2.mono (same_upd (s1.s.free hp))))⟩⟩
theorem EV.lst {ds : List PyData} (h : EA X Γ es (ds.map tD)) (hl : ds.length ≤ lim := by exact Nat.le_of_ble_eq_true rfl) : EV X Γ (.List es pos) (tD (.list ds)) :=
  EV.of (pe_lst h) fun σ H B Q sa q => ⟨B, sa, fun vs H1 B1 s1 r1 => by
    have r2 := Da.ofArgs r1
    have hz : vs.length ≤ lim := by rw [r2.length]; exact hl
    exact ⟨lim_le hz, fun p hp => q _ _ _ (s1.trans (Stp.new s1.s hp)) (.lst upd_same hz (r2.mono (same_upd (s1.s.free hp))))⟩⟩
theorem Args.app {B : Hp} : ∀ {vs : List V} {ds : List PyData} {ws : List V} {ts : List Ty}, Da B vs ds → Args B ws ts → Args B (vs ++ ws) (ds.map tD ++ ts)
  | _, [], _, _, h, k => by cases h; exact k
  | _, d :: ds, _, _, h, k => by cases h with | cons h1 h2 => exact .cons h1 (Args.app h2 k)
/-- *t in a display's items -/
theorem EA.star {ds : List PyData} {sp : Pos} (h : EV X Γ e (tD (.tuple ds))) (hr : EA X Γ es ts) (hs : starEach (.Starred e sp :: es) X.env = (true, eval e X.env) :: starEach es X.env := by rfl) : EA X Γ (.Starred e sp :: es) (ds.map tD ++ ts) :=
  ⟨fun ps pins s σ H Q I ⟨B, sa, q⟩ => (StX.pa_star h hr hs).run ps pins s σ H Q I ⟨B, sa, fun v H1 B1 s1 r1 => by
    obtain ⟨a, vs, rfl, h1, h2, h3⟩ := tT_R r1
    refine ⟨a, vs, rfl, .inl (SqT.of (s1.s _ _ h1)), B1, sa.mono s1, fun ws H2 B2 s2 r2 => q _ _ _ (s1.trans s2) ?_⟩
    exact Args.app (h3.mono s2.b) r2⟩⟩

/-! built-ins by their types -/
def rcl (ts : List Ty) (tc : Ty) : List V → Hp → VK → Prop := fun vs H Q => ∃ B, Same B H ∧ Args B vs ts ∧ ∀ v H' B', Stp H B H' B' → tc.R v B' → Q v H'
abbrev Clt (X : Cx) (f : Value) (ts : List Ty) (tc : Ty) : Prop := CallR X f (rcl ts tc)
theorem Clt.of {f : Value} {r : List V → Hp → VK → Prop} (h : CallR X f r) (k : ∀ vs H B (Q : VK), Same B H → Args B vs ts → (∀ v H' B', Stp H B H' B' → tc.R v B' → Q v H') → r vs H Q) : Clt X f ts tc :=
  fun pins s σ H xs us Q I r ⟨B, sm, ar, q⟩ => h pins s σ H xs us Q I r (k xs H B Q sm ar q)
theorem EV.callB {x : Str} {id : String} (hm : X.mg x = none) (hc : Clt X (.builtin id) ts tc) (ha : EA X Γ (e :: es) ts) (hv : bootBuiltins x = some (.builtin id) := by decide +kernel) (hg : Gl X x := by rfl)
    (hn : x ≠ "__name__" := by decide) (hd : (x == ("__debug__" : Str)) = false := by decide) (he : starEach (e :: es) X.env = (false, eval e X.env) :: starEach es X.env := by rfl) (hpl : (backTo pos (starEach es X.env)).any (·.1) = false := by rfl) : EV X Γ (.Call (.Name x p) (e :: es) [] pos) tc :=
  EV.of (pe_callB hc hg hm hv ha (hn := hn) (hdb := hd) (he := he) (hpl := hpl)) fun σ H B Q sa q => ⟨B, sa, fun vs H1 B1 s1 r1 => ⟨B1, s1.s, r1, fun v H2 B2 s2 r2 => q v H2 B2 (s1.trans s2) r2⟩⟩
theorem EV.callT {x : Str} {T : String} (hm : X.mg x = none) (hc : Clt X (.type T) ts tc) (ha : EA X Γ (e :: es) ts) (hv : bootBuiltins x = some (.type T) := by decide +kernel) (hg : Gl X x := by rfl)
    (hn : x ≠ "__name__" := by decide) (hd : (x == ("__debug__" : Str)) = false := by decide) (he : starEach (e :: es) X.env = (false, eval e X.env) :: starEach es X.env := by rfl) (hpl : (backTo pos (starEach es X.env)).any (·.1) = false := by rfl) : EV X Γ (.Call (.Name x p) (e :: es) [] pos) tc :=
  EV.of (pe_callTy hc hg hm hv ha (hn := hn) (hdb := hd) (he := he) (hpl := hpl)) fun σ H B Q sa q => ⟨B, sa, fun vs H1 B1 s1 r1 => ⟨B1, s1.s, r1, fun v H2 B2 s2 r2 => q v H2 B2 (s1.trans s2) r2⟩⟩
theorem Args.one {B : Hp} {vs : List V} {t : Ty} (h : Args B vs [t]) : ∃ v, vs = [v] ∧ t.R v B := by cases h with | cons h1 h2 => cases h2; exact ⟨_, rfl, h1⟩
theorem Args.two {B : Hp} {vs : List V} {t u : Ty} (h : Args B vs [t, u]) : ∃ v w, vs = [v, w] ∧ t.R v B ∧ u.R w B := by cases h with | cons h1 h2 => cases h2 with | cons h2 h3 => cases h3; exact ⟨_, _, rfl, h1, h2⟩
theorem Args.three {B : Hp} {vs : List V} {t u w : Ty} (h : Args B vs [t, u, w]) : ∃ x y z, vs = [x, y, z] ∧ t.R x B ∧ u.R y B ∧ w.R z B := by cases h with | cons h1 h2 => cases h2 with | cons h2 h3 => cases h3 with | cons h3 h4 => cases h4; exact ⟨_, _, _, rfl, h1, h2, h3⟩
theorem c_lenL {ds : List PyData} : Clt X (.builtin "len") [tD (.list ds)] (tI ds.length) :=
  Clt.of call_len_seq fun vs H B Q sm ar q => by
    obtain ⟨v, rfl, h⟩ := ar.one
    obtain ⟨a, xs, rfl, h1, h2, h3⟩ := tL_R h
    refine ⟨a, xs, rfl, .inl (SqL.of (sm _ _ h1)), q _ _ _ (Stp.refl sm) ?_⟩
    rw [h3.length]; exact .int _
theorem c_lenT {ds : List PyData} : Clt X (.builtin "len") [tD (.tuple ds)] (tI ds.length) :=
  Clt.of call_len_seq fun vs H B Q sm ar q => by
    obtain ⟨v, rfl, h⟩ := ar.one
    obtain ⟨a, xs, rfl, h1, h2, h3⟩ := tT_R h
    refine ⟨a, xs, rfl, .inr (SqT.of (sm _ _ h1)), q _ _ _ (Stp.refl sm) ?_⟩
    rw [h3.length]; exact .int _
theorem c_all {bs : List Bool} (hc : X.calm = true := by rfl) : Clt X (.builtin "all") [tD (.list (bs.map .bool))] (tB (bs.all id)) :=
  Clt.of (cr_all hc) fun vs H B Q sm ar q => by
    obtain ⟨v, rfl, h⟩ := ar.one
    obtain ⟨a, xs, rfl, h1, h2, h3⟩ := tL_R h
    exact ⟨a, bs, rfl, h3.bools ▸ SqL.of (sm _ _ h1), q _ _ _ (Stp.refl sm) (.bl _)⟩
theorem c_any {bs : List Bool} (hc : X.calm = true := by rfl) : Clt X (.builtin "any") [tD (.list (bs.map .bool))] (tB (bs.any id)) :=
  Clt.of (cr_any hc) fun vs H B Q sm ar q => by
    obtain ⟨v, rfl, h⟩ := ar.one
    obtain ⟨a, xs, rfl, h1, h2, h3⟩ := tL_R h
    exact ⟨a, bs, rfl, h3.bools ▸ SqL.of (sm _ _ h1), q _ _ _ (Stp.refl sm) (.bl _)⟩
theorem c_sum {ns : List Int} (hc : X.calm = true := by rfl) : Clt X (.builtin "sum") [tD (.list (ns.map .int))] (tI ns.sum) :=
  Clt.of (cr_sum hc) fun vs H B Q sm ar q => by
    obtain ⟨v, rfl, h⟩ := ar.one
    obtain ⟨a, xs, rfl, h1, h2, h3⟩ := tL_R h
    exact ⟨a, ns, rfl, h3.ints ▸ SqL.of (sm _ _ h1), q _ _ _ (Stp.refl sm) (.int _)⟩
theorem c_tupL {ds : List PyData} : Clt X (.type "tuple") [tD (.list ds)] (tD (.tuple ds)) :=
  Clt.of call_tuple_of fun vs H B Q sm ar q => by
    obtain ⟨v, rfl, h⟩ := ar.one
    obtain ⟨a, xs, rfl, h1, h2, h3⟩ := tL_R h
    exact ⟨a, xs, rfl, .inl ⟨SqL.of (sm _ _ h1), fun p hp => q _ _ _ (Stp.new sm hp) (.tup upd_same h2 (h3.mono (same_upd (sm.free hp))))⟩⟩
theorem c_lstL {ds : List PyData} : Clt X (.type "list") [tD (.list ds)] (tD (.list ds)) :=
  Clt.of call_list_of fun vs H B Q sm ar q => by
    obtain ⟨v, rfl, h⟩ := ar.one
    obtain ⟨a, xs, rfl, h1, h2, h3⟩ := tL_R h
    exact ⟨a, xs, rfl, .inl (SqL.of (sm _ _ h1)), fun p hp => q _ _ _ (Stp.new sm hp) (.lst upd_same h2 (h3.mono (same_upd (sm.free hp))))⟩
theorem c_lstT {ds : List PyData} : Clt X (.type "list") [tD (.tuple ds)] (tD (.list ds)) :=
  Clt.of call_list_of fun vs H B Q sm ar q => by
    obtain ⟨v, rfl, h⟩ := ar.one
    obtain ⟨a, xs, rfl, h1, h2, h3⟩ := tT_R h
    exact ⟨a, xs, rfl, .inr (SqT.of (sm _ _ h1)), fun p hp => q _ _ _ (Stp.new sm hp) (.lst upd_same h2 (h3.mono (same_upd (sm.free hp))))⟩
theorem c_intB {k : Bool} : Clt X (.type "int") [tB k] (tI (if k then 1 else 0)) :=
  Clt.of call_int1 fun vs H B Q sm ar q => by
    obtain ⟨v, rfl, h⟩ := ar.one
    cases tB_R h
    exact .inr ⟨k, rfl, q _ _ _ (Stp.refl sm) (.int _)⟩
theorem c_intI {k : Int} : Clt X (.type "int") [tI k] (tI k) :=
  Clt.of call_int1 fun vs H B Q sm ar q => by
    obtain ⟨v, rfl, h⟩ := ar.one
    cases tI_R h
    exact .inl ⟨k, rfl, q _ _ _ (Stp.refl sm) (.int _)⟩
theorem c_max2 {i j : Int} (hc : X.calm = true := by rfl) : Clt X (.builtin "max") [tI i, tI j] (tI (if j > i then j else i)) :=
  Clt.of (call_max2 hc) fun vs H B Q sm ar q => by
    obtain ⟨v, w, rfl, h, h'⟩ := ar.two
    cases tI_R h; cases tI_R h'
    exact ⟨i, j, rfl, q _ _ _ (Stp.refl sm) (.int _)⟩

/-! more operators -/
theorem o_modN {i j : Int} (h : j ≠ 0) : Opt X (binaryOp .Mod) (tI i) (tI j) (tI (i.fmod j)) := oIC op_modN h
theorem o_fdivN {i j : Int} (h : j ≠ 0 ∧ j.natAbs < 1073741824) : Opt X (binaryOp .FloorDiv) (tI i) (tI j) (tI (i.fdiv j)) := oIC op_fdivN h
theorem o_mul {i j : Int} (h : CMul i j) : Opt X (binaryOp .Mult) (tI i) (tI j) (tI (i * j)) := oIC op_mul h
theorem o_pow {i j : Int} (h : CPow i j) : Opt X (binaryOp .Pow) (tI i) (tI j) (tI (i ^ j.toNat)) := oIC op_pow h
theorem o_eqI {i j : Int} : Opt X (compareOp .Eq) (tI i) (tI j) (tB (decide (i = j))) :=
  Opt.of op_eq fun x y H B Q sm rx ry q => by
    cases tI_R rx; cases tI_R ry
    refine ⟨rfl, q _ _ _ (Stp.refl sm) ?_⟩
    have e : decide (V.int i = V.int j) = decide (i = j) := by rw [dec_int, Bool.beq_eq_decide_eq]
    rw [e]; exact .bl _
theorem o_neI {i j : Int} : Opt X (compareOp .NotEq) (tI i) (tI j) (tB (!decide (i = j))) :=
  Opt.of op_ne fun x y H B Q sm rx ry q => by
    cases tI_R rx; cases tI_R ry
    refine ⟨rfl, q _ _ _ (Stp.refl sm) ?_⟩
    have e : decide (V.int i = V.int j) = decide (i = j) := by rw [dec_int, Bool.beq_eq_decide_eq]
    rw [e]; exact .bl _
theorem o_neS {i j : Str} : Opt X (compareOp .NotEq) (tS i) (tS j) (tB (!decide (i = j))) :=
  Opt.of op_ne fun x y H B Q sm rx ry q => by
    cases tS_R rx; cases tS_R ry
    refine ⟨rfl, q _ _ _ (Stp.refl sm) ?_⟩
    have e : decide (V.str i = V.str j) = decide (i = j) := by rw [dec_str, Bool.beq_eq_decide_eq]
    rw [e]; exact .bl _
/-- None or a number against a number -/
theorem o_eqO {x : Option Int} {j : Int} : Opt X (compareOp .Eq) (tD (optD x)) (tI j) (tB (decide (x = some j))) :=
  Opt.of op_eq fun u y H B Q sm rx ry q => by
    cases tI_R ry
    cases x with
    | none => cases tN_R rx; exact ⟨rfl, q _ _ _ (Stp.refl sm) (by rw [show decide (V.non = V.int j) = decide ((none : Option Int) = some j) from by simp]; exact .bl _)⟩
    | some i => cases tI_R rx; exact ⟨rfl, q _ _ _ (Stp.refl sm) (by rw [show decide (V.int i = V.int j) = decide (some i = some j) from by rw [dec_int, Bool.beq_eq_decide_eq]; simp]; exact .bl _)⟩
theorem o_isN {x : Option Int} : Opt X (compareOp .Is) (tD (optD x)) tN (tB (decide (x = none))) :=
  Opt.of op_isN fun u y H B Q sm rx ry q => by
    cases tN_R ry
    cases x with
    | none => cases tN_R rx; exact ⟨rfl, q _ _ _ (Stp.refl sm) (.bl true)⟩
    | some i => cases tI_R rx; exact ⟨rfl, q _ _ _ (Stp.refl sm) (.bl false)⟩
theorem o_notN {x : Option Int} : Opt X (compareOp .IsNot) (tD (optD x)) tN (tB (!decide (x = none))) :=
  Opt.of op_notN fun u y H B Q sm rx ry q => by
    cases tN_R ry
    cases x with
    | none => cases tN_R rx; exact ⟨rfl, q _ _ _ (Stp.refl sm) (.bl false)⟩
    | some i => cases tI_R rx; exact ⟨rfl, q _ _ _ (Stp.refl sm) (.bl true)⟩
theorem o_notB {a b : Bool} : Opt X (compareOp .IsNot) (tB a) (tB b) (tB (!decide (a = b))) :=
  Opt.of op_notBl fun u y H B Q sm rx ry q => by
    cases tB_R rx; cases tB_R ry
    exact ⟨a, b, rfl, rfl, q _ _ _ (Stp.refl sm) (.bl _)⟩
/-- deep == -/
theorem o_eqD {d f : PyData} (hu : X.A.units + 64 < cLine) (h1 : SeqAt.shaped d = true) (h2 : SeqAt.shaped f = true) : Opt X (compareOp .Eq) (tD d) (tD f) (tB (PyData.eqv d f)) :=
  Opt.of (op_eqD hu) fun u y H B Q sm rx ry q => ⟨d, f, Dv.dp (Dv.mono sm rx), Dv.dp (Dv.mono sm ry), h1, h2, q _ _ _ (Stp.refl sm) (.bl _)⟩
theorem o_neD {d f : PyData} (hu : X.A.units + 64 < cLine) (h1 : SeqAt.shaped d = true) (h2 : SeqAt.shaped f = true) : Opt X (compareOp .NotEq) (tD d) (tD f) (tB (!PyData.eqv d f)) :=
  Opt.of (op_neD hu) fun u y H B Q sm rx ry q => ⟨d, f, Dv.dp (Dv.mono sm rx), Dv.dp (Dv.mono sm ry), h1, h2, q _ _ _ (Stp.refl sm) (.bl _)⟩
theorem o_inD {d : PyData} {ds : List PyData} (hu : X.A.units + 65 < cLine) (h1 : SeqAt.shaped d = true) (h2 : SeqAt.shaped (.list ds) = true) : Opt X (compareOp .In) (tD d) (tD (.list ds)) (tB (ds.any fun z => PyData.eqv z d)) :=
  Opt.of (op_inD hu) fun u y H B Q sm rx ry q => ⟨d, ds, Dv.dp (Dv.mono sm rx), Dv.dp (Dv.mono sm ry), h1, h2, q _ _ _ (Stp.refl sm) (.bl _)⟩
theorem inV_int {k : Int} : ∀ {ns : List Int}, inV (.int k) (ns.map V.int) = decide (k ∈ ns)
  | [] => by simp [inV]
  | n :: ns => by
    have ih := inV_int (k := k) (ns := ns)
    unfold inV at ih ⊢
    rw [List.map_cons, List.any_cons, ih]
    show ((n == k) || decide (k ∈ ns)) = decide (k ∈ n :: ns)
    rw [Bool.beq_eq_decide_eq, ← Bool.decide_or]
    simp [List.mem_cons, eq_comm]
theorem flat_ints : ∀ ns : List Int, (ns.map V.int).all flatV = true
  | [] => rfl
  | n :: ns => by rw [List.map_cons, List.all_cons, flat_ints ns]; rfl
theorem o_inL {k : Int} {ns : List Int} : Opt X (compareOp .In) (tI k) (tD (.list (ns.map .int))) (tB (decide (k ∈ ns))) :=
  Opt.of op_in_seq fun u y H B Q sm rx ry q => by
    cases tI_R rx
    obtain ⟨a, xs, rfl, h1, h2, h3⟩ := tL_R ry
    cases h3.ints
    refine ⟨a, _, rfl, .inl (SqL.of (sm _ _ h1)), rfl, flat_ints ns, q _ _ _ (Stp.refl sm) ?_⟩
    rw [if_neg (by decide), inV_int]; exact .bl _
theorem o_inT {k : Int} {ns : List Int} : Opt X (compareOp .In) (tI k) (tD (.tuple (ns.map .int))) (tB (decide (k ∈ ns))) :=
  Opt.of op_in_seq fun u y H B Q sm rx ry q => by
    cases tI_R rx
    obtain ⟨a, xs, rfl, h1, h2, h3⟩ := tT_R ry
    cases h3.ints
    refine ⟨a, _, rfl, .inr (SqT.of (sm _ _ h1)), rfl, flat_ints ns, q _ _ _ (Stp.refl sm) ?_⟩
    rw [if_neg (by decide), inV_int]; exact .bl _
theorem o_niL {k : Int} {ns : List Int} : Opt X (compareOp .NotIn) (tI k) (tD (.list (ns.map .int))) (tB (!decide (k ∈ ns))) :=
  Opt.of op_notIn_seq fun u y H B Q sm rx ry q => by
    cases tI_R rx
    obtain ⟨a, xs, rfl, h1, h2, h3⟩ := tL_R ry
    cases h3.ints
    refine ⟨a, _, rfl, .inl (SqL.of (sm _ _ h1)), rfl, flat_ints ns, q _ _ _ (Stp.refl sm) ?_⟩
    rw [if_pos rfl, inV_int]; exact .bl _
theorem o_niT {k : Int} {ns : List Int} : Opt X (compareOp .NotIn) (tI k) (tD (.tuple (ns.map .int))) (tB (!decide (k ∈ ns))) :=
  Opt.of op_notIn_seq fun u y H B Q sm rx ry q => by
    cases tI_R rx
    obtain ⟨a, xs, rfl, h1, h2, h3⟩ := tT_R ry
    cases h3.ints
    refine ⟨a, _, rfl, .inr (SqT.of (sm _ _ h1)), rfl, flat_ints ns, q _ _ _ (Stp.refl sm) ?_⟩
    rw [if_pos rfl, inV_int]; exact .bl _
theorem o_catL {ds fs : List PyData} (h : ds.length + fs.length ≤ lim) : Opt X (binaryOp .Add) (tD (.list ds)) (tD (.list fs)) (tD (.list (ds ++ fs))) :=
  Opt.of op_cat fun u y H B Q sm rx ry q => by
    obtain ⟨a, xs, rfl, h1, h2, h3⟩ := tL_R rx
    obtain ⟨b, ys, rfl, k1, k2, k3⟩ := tL_R ry
    have hz : xs.length + ys.length ≤ lim := by rw [h3.length, k3.length]; exact h
    exact ⟨a, b, xs, ys, rfl, rfl, sm _ _ h1, sm _ _ k1, lim_le hz, fun p hp => q _ _ _ (Stp.new sm hp) (.lst upd_same (by rw [List.length_append]; exact hz) ((h3.append k3).mono (same_upd (sm.free hp))))⟩
theorem o_catT {ds fs : List PyData} (h : ds.length + fs.length ≤ lim) : Opt X (binaryOp .Add) (tD (.tuple ds)) (tD (.tuple fs)) (tD (.tuple (ds ++ fs))) :=
  Opt.of op_catA fun u y H B Q sm rx ry q => by
    obtain ⟨a, xs, rfl, h1, h2, h3⟩ := tT_R rx
    obtain ⟨b, ys, rfl, k1, k2, k3⟩ := tT_R ry
    have hz : xs.length + ys.length ≤ lim := by rw [h3.length, k3.length]; exact h
    refine ⟨a, b, xs, ys, rfl, rfl, SqT.of (sm _ _ h1), SqT.of (sm _ _ k1), lim_le hz, fun e => ?_, fun _ e => ?_, fun _ _ p hp => q _ _ _ (Stp.new sm hp) (.tup upd_same (by rw [List.length_append]; exact hz) ((h3.append k3).mono (same_upd (sm.free hp))))⟩
    · subst e; cases h3; exact q _ _ _ (Stp.refl sm) ry
    · subst e; cases k3; rw [List.append_nil] at q; exact q _ _ _ (Stp.refl sm) rx

/-! items, slices -/
theorem EV.ixL {ds : List PyData} {i : Int} {d : PyData} (ha : EV X Γ a (tD (.list ds))) (hb : EV X Γ b (tI i)) (h : atI ds i = some d) (hs : PlainIx b := by exact fun _ _ => rfl) : EV X Γ (.Subscript a b pos) (tD d) :=
  EV.of (pe_ix ix_list ha hb hs) fun σ H B Q sa q => rd.two sa fun x y H1 B1 s1 rx ry => by
    obtain ⟨p, xs, rfl, h1, h2, h3⟩ := tL_R rx
    cases tI_R ry
    have hl := h3.length
    unfold atI at h
    obtain ⟨j, e1, e2⟩ := Option.bind_eq_some_iff.mp h
    obtain ⟨v, k1, k2⟩ := h3.get e2
    refine ⟨p, xs, i, v, rfl, rfl, SqL.of (s1.s _ _ h1), ?_, q _ _ _ s1 k2⟩
    unfold atI
    rw [hl, e1]; exact k1
theorem EV.ixT {ds : List PyData} {i : Int} {d : PyData} (ha : EV X Γ a (tD (.tuple ds))) (hb : EV X Γ b (tI i)) (h : atI ds i = some d) (hs : PlainIx b := by exact fun _ _ => rfl) : EV X Γ (.Subscript a b pos) (tD d) :=
  EV.of (pe_ix ix_tup ha hb hs) fun σ H B Q sa q => rd.two sa fun x y H1 B1 s1 rx ry => by
    obtain ⟨p, xs, rfl, h1, h2, h3⟩ := tT_R rx
    cases tI_R ry
    have hl := h3.length
    unfold atI at h
    obtain ⟨j, e1, e2⟩ := Option.bind_eq_some_iff.mp h
    obtain ⟨v, k1, k2⟩ := h3.get e2
    refine ⟨p, xs, i, v, rfl, rfl, SqT.of (s1.s _ _ h1), ?_, q _ _ _ s1 k2⟩
    unfold atI
    rw [hl, e1]; exact k1
end
end Rk
/-! part Ly3 -/
namespace Rk
open PySem PySem.Spec L2
/-! ### what a loop or a comprehension walks -/
def IVr {α : Type} (Γ : Gm) (u : α → Ty) (xs : List α) : TI := fun σ H R => ∃ B, Sa Γ σ H B ∧ ∀ (J : It) (H1 B1 : Hp) (Gd : Hp → Prop) (Y : Nat → Hp → V → Hp → Prop), Stp H B H1 B1 → Walk J xs.length Gd Y →
  (∀ H2 B2, Same B1 B2 → Same B2 H2 → Gd H2) → (∀ i x H2 H3 B2, Same B1 B2 → Same B2 H2 → Y i H2 x H3 → ∃ a B3, xs[i]? = some a ∧ Stp H2 B2 H3 B3 ∧ (u a).R x B3) → xs.length ≤ lim → R J H1
abbrev IV {α : Type} (X : Cx) (Γ : Gm) (tg iter : Expr) (u : α → Ty) (xs : List α) : Prop := PI X tg iter (IVr Γ u xs)
theorem PI.imp {X : Cx} {tg iter : Expr} {w w' : TI} (h : PI X tg iter w) (k : ∀ σ H R, w' σ H R → w σ H R) : PI X tg iter w' := ⟨fun pins s σ H R I q => h.run pins s σ H R I (k σ H R q)⟩
section
variable {X : Cx} {Γ : Gm} {tg l : Expr} {α : Type} {xs : List α} {c : α → PyData}
theorem getMap {i : Nat} {d : PyData} (h : (xs.map c)[i]? = some d) : ∃ a, xs[i]? = some a ∧ d = c a := by
  rw [List.getElem?_map] at h
  cases e : xs[i]? with
  | none => rw [e] at h; cases h
  | some a => rw [e] at h; exact ⟨a, rfl, (Option.some.inj h).symm⟩
theorem IV.list (h : EV X Γ l (tD (.list (xs.map c)))) : IV X Γ tg l (fun a => tD (c a)) xs :=
  PI.imp (pi_list h) fun σ H R ⟨B, sa, q⟩ => ⟨B, sa, fun v H1 B1 s1 r1 => by
    obtain ⟨a, vs, rfl, h1, h2, h3⟩ := tL_R r1
    have hl : vs.length = xs.length := by rw [h3.length, List.length_map]
    refine ⟨a, rfl, ⟨vs, SqL.of (s1.s _ _ h1)⟩, q _ H1 B1 _ _ s1 (hl ▸ walk_list (K := X.K) (a := a) (xs := vs)) (fun H2 B2 e1 e2 => SqL.of (e2 _ _ (e1 _ _ h1))) ?_ (hl ▸ h2)⟩
    rintro i x H2 H3 B2 e1 e2 ⟨rfl, hx⟩
    obtain ⟨d, k1, k2⟩ := h3.getV hx
    obtain ⟨a', k3, rfl⟩ := getMap k1
    exact ⟨a', B2, k3, Stp.refl e2, k2.mono e1⟩⟩
theorem IV.tup (h : EV X Γ l (tD (.tuple (xs.map c)))) : IV X Γ tg l (fun a => tD (c a)) xs :=
  PI.imp (pi_tup h) fun σ H R ⟨B, sa, q⟩ => ⟨B, sa, fun v H1 B1 s1 r1 => by
    obtain ⟨a, vs, rfl, h1, h2, h3⟩ := tT_R r1
    have hl : vs.length = xs.length := by rw [h3.length, List.length_map]
    refine ⟨a, rfl, ⟨vs, SqT.of (s1.s _ _ h1)⟩, q _ H1 B1 _ _ s1 (hl ▸ walk_tup (K := X.K) (a := a) (xs := vs)) (fun H2 B2 e1 e2 => SqT.of (e2 _ _ (e1 _ _ h1))) ?_ (hl ▸ h2)⟩
    rintro i x H2 H3 B2 e1 e2 ⟨rfl, hx⟩
    obtain ⟨d, k1, k2⟩ := h3.getV hx
    obtain ⟨a', k3, rfl⟩ := getMap k1
    exact ⟨a', B2, k3, Stp.refl e2, k2.mono e1⟩⟩
end
/-! ### targets -/
def TgOk {α : Type} (g : TG) (js : List Nat) (u : α → Ty) (Γ : Gm) (Γt : α → Gm) : Prop := ∀ a x σ H B (Q : St → Hp → Prop), Sa Γ σ H B → (u a).R x B →
  (∀ σ', Sa (Γt a) σ' H B → σ'.length = σ.length → (∀ i, i ∉ js → σ'[i]? = σ[i]?) → Q σ' H) → g x σ H Q
theorem TgOk.name {α : Type} {u : α → Ty} {Γ : Gm} (j : Nat) : TgOk (gName j) [j] u Γ (fun a => Γ.set j (some (.ty (u a)))) := fun a x σ H B Q sa r q =>
  q _ (sa.set r) (by simp) fun i hi => List.getElem?_set_ne fun e => hi (by simp [e])
theorem TgOk.pair {K : PySem.W.Frag} {α : Type} {c1 c2 : α → PyData} {Γ : Gm} (i j : Nat) : TgOk (gTup K 2 (gCons (gName i) (gCons (gName j) gNil))) [i, j] (fun a => tD (.tuple [c1 a, c2 a])) Γ (fun a => (Γ.set i (some (.ty (tD (c1 a))))).set j (some (.ty (tD (c2 a))))) := fun a x σ H B Q sa r q => by
  obtain ⟨t, vs, rfl, h1, h2, h3⟩ := tT_R r
  cases h3 with
  | cons k1 k2 =>
    cases k2 with
    | cons k2 k3 =>
      cases k3
      refine ⟨t, _, rfl, SqT.of (sa.sm _ _ h1), rfl, _, _, rfl, _, _, rfl, rfl, q _ ((sa.set k1).set k2) (by simp) fun m hm => ?_⟩
      have : j ≠ m ∧ i ≠ m := ⟨fun e => hm (by simp [e]), fun e => hm (by simp [e])⟩
      rw [List.getElem?_set_ne this.1, List.getElem?_set_ne this.2]
theorem TgOk.three {K : PySem.W.Frag} {α : Type} {c1 c2 c3 : α → PyData} {Γ : Gm} (i j k : Nat) : TgOk (gTup K 3 (gCons (gName i) (gCons (gName j) (gCons (gName k) gNil)))) [i, j, k] (fun a => tD (.tuple [c1 a, c2 a, c3 a])) Γ
    (fun a => ((Γ.set i (some (.ty (tD (c1 a))))).set j (some (.ty (tD (c2 a))))).set k (some (.ty (tD (c3 a))))) := fun a x σ H B Q sa r q => by
  obtain ⟨t, vs, rfl, h1, h2, h3⟩ := tT_R r
  cases h3 with
  | cons k1 k2 =>
    cases k2 with
    | cons k2 k3 =>
      cases k3 with
      | cons k3 k4 =>
        cases k4
        refine ⟨t, _, rfl, SqT.of (sa.sm _ _ h1), rfl, _, _, rfl, _, _, rfl, _, _, rfl, rfl, q _ (((sa.set k1).set k2).set k3) (by simp) fun m hm => ?_⟩
        have : j ≠ m ∧ i ≠ m ∧ k ≠ m := ⟨fun e => hm (by simp [e]), fun e => hm (by simp [e]), fun e => hm (by simp [e])⟩
        rw [List.getElem?_set_ne this.2.2, List.getElem?_set_ne this.1, List.getElem?_set_ne this.2.1]
theorem wipe_get {σ : St} {i : Nat} : ∀ {vs : List Nat}, i ∉ vs → (wipe σ vs)[i]? = σ[i]?
  | [], _ => rfl
  | v :: vs, h => by
    unfold L2.wipe
    rw [List.getElem?_set_ne fun e => h (List.mem_cons.mpr (.inl e.symm))]
    exact wipe_get fun z => h (List.mem_cons_of_mem _ z)
theorem wipe_in {σ : St} {i : Nat} : ∀ {vs : List Nat}, i ∈ vs → i < σ.length → (wipe σ vs)[i]? = some none
  | [], h, _ => by cases h
  | v :: vs, h, hl => by
    unfold L2.wipe
    by_cases e : v = i
    · subst e
      rw [List.getElem?_set_self (by rw [wipe_length]; exact hl)]
    · rw [List.getElem?_set_ne e]
      exact wipe_in ((List.mem_cons.mp h).resolve_left fun z => e z.symm) hl
theorem wipe_eq {σ σ' : St} {vs : List Nat} (hl : σ'.length = σ.length) (h : ∀ i, i ∉ vs → σ'[i]? = σ[i]?) : wipe σ' vs = wipe σ vs := by
  refine List.ext_getElem? fun i => ?_
  by_cases hi : i ∈ vs
  · by_cases hb : i < σ.length
    · rw [wipe_in hi (hl ▸ hb), wipe_in hi hb]
    · rw [List.getElem?_eq_none (by rw [wipe_length]; omega), List.getElem?_eq_none (by rw [wipe_length]; omega)]
  · rw [wipe_get hi, wipe_get hi, h i hi]
/-! ### comprehensions -/
section
variable {X : Cx} {Γ : Gm} {tg iter elt c : Expr} {ifs : List Expr} {scope : Scope} {own : List (Str × Nat)} {g : TG} {pos : Pos} {α : Type} {u : α → Ty} {xs : List α} {Γt : α → Gm} {pd : α → Bool} {f : α → PyData} {js : List Nat}
theorem PTs.imp {t0 t1 : TT} (h : PTs X ifs t0) (k : ∀ σ H Q, t1 σ H Q → t0 σ H Q) : PTs X ifs t1 := ⟨fun pins s σ H Q I q => h.run pins s σ H Q I (k σ H Q q)⟩
abbrev CTs (X : Cx) (Γ : Gm) (ifs : List Expr) (b : Bool) : Prop := PTs X ifs (rb Γ b)
theorem CTs.nil : CTs X Γ [] true := PTs.imp pts_nil fun σ H Q ⟨B, sa, q⟩ => q H B (Stp.refl sa.sm)
theorem CTs.one {b : Bool} (h : CT X Γ c b) : CTs X Γ [c] b := pts_one h
theorem lc_read {vs : List Nat} {σ : St} {H B : Hp} {Q : VK} (hT : TgOk g js u (wipeG Γ vs) Γt) (hj : ∀ j ∈ js, j ∈ vs) (sa : Sa Γ σ H B) (q : ∀ v H' B', Stp H B H' B' → (tD (.list ((xs.filter pd).map f))).R v B' → Q v H') :
    tLc (IVr Γ u xs) g (fun σ H Q => ∃ a, a ∈ xs ∧ rb (Γt a) (pd a) σ H Q) (fun σ H Q => ∃ a, a ∈ xs ∧ pd a = true ∧ rd (Γt a) (tD (f a)) σ H Q) vs σ H Q := by
  refine ⟨B, sa, fun J H1 B1 Gd Y s1 w hG hY hl D hD => lc_it (g := g) (tt := fun σ H Q => ∃ a, a ∈ xs ∧ rb (Γt a) (pd a) σ H Q) (te := fun σ H Q => ∃ a, a ∈ xs ∧ pd a = true ∧ rd (Γt a) (tD (f a)) σ H Q) (vs := vs) (σ := σ) (H1 := H1) (D := D) (Qd := fun H => Q (.ref D) H) w (fun i Hc => ∃ acc Bc, Stp H1 B1 Hc Bc ∧ Bc D = none ∧ Hc D = some (.lst acc) ∧ Da Bc acc (((xs.take i).filter pd).map f)) ?_ ?_ ?_ ?_⟩
  · exact ⟨[], B1, Stp.grow s1.s (same_upd hD), s1.s.free hD, upd_same, by simpa using Da.nil⟩
  · rintro i Hc _ ⟨acc, Bc, st, _⟩
    exact hG Hc Bc st.b st.s
  · rintro i x Hc H2 hi ⟨acc, Bc, st, hb, hd, ha⟩ hy
    obtain ⟨a, B3, hx, s3, rx⟩ := hY i x Hc H2 Bc st.b st.s hy
    have hm : a ∈ xs := List.mem_of_getElem? hx
    have st3 := st.trans s3
    refine hT a x _ _ B3 _ ((sa.mono (s1.trans st3)).wipe vs) rx fun σ' sa' hl' hsame => ⟨?_, a, hm, B3, sa', fun H4 B4 s4 => ?_⟩
    · rw [wipe_eq hl' fun i hi => hsame i fun z => hi (hj i z), wipe_wipe fun v hv => hv]
    · have hb4 : B4 D = none := (s3.trans s4).f D hb (by rw [hd]; exact fun z => nomatch z)
      have hd4 : H4 D = some (.lst acc) := s4.h _ _ (s3.h _ _ hd)
      have hacc : acc.length ≤ i := by
        rw [ha.length, List.length_map]
        exact Nat.le_trans (List.length_filter_le _ _) (by rw [List.length_take]; omega)
      have htk : xs.take (i + 1) = xs.take i ++ [a] := by
        rw [List.take_add_one, hx]; rfl
      cases hp : pd a with
      | true =>
        refine iteT ⟨a, hm, hp, B4, sa'.mono s4, fun v H5 B5 s5 r5 => ⟨acc, s5.h _ _ hd4, lim_lt (by omega), acc ++ [v], B5, ?_, s5.f D hb4 (by rw [hd4]; exact fun z => nomatch z), upd_same, ?_⟩⟩
        · have st5 := st3.trans (s4.trans s5)
          have hb5 : B5 D = none := s5.f D hb4 (by rw [hd4]; exact fun z => nomatch z)
          refine ⟨fun b o e => ?_, st5.b, fun b o e => ?_, st5.f⟩
          · rw [upd_ne (ne_of_none e hD)]; exact st5.h b o e
          · rw [upd_ne (ne_of_none e hb5)]; exact st5.s b o e
        · rw [htk, List.filter_append, List.map_append]
          refine (ha.mono (s3.b.trans (s4.b.trans s5.b))).append ?_
          rw [List.filter_cons, if_pos hp]
          exact .cons r5 .nil
      | false =>
        refine iteF ⟨acc, B4, st3.trans s4, hb4, hd4, ?_⟩
        rw [htk, List.filter_append, List.map_append, List.filter_cons, if_neg (by rw [hp]; decide)]
        simpa using ha.mono (s3.b.trans s4.b)
  · rintro Hc ⟨acc, Bc, st, hb, hd, ha⟩
    rw [List.take_of_length_le (Nat.le_refl _)] at ha
    have stt := s1.trans st
    refine q (.ref D) Hc (upd Bc D (.lst acc)) ⟨stt.h, stt.b.trans (same_upd hb), fun b o e => ?_, fun b h1 h2 => ?_⟩ (.lst upd_same ?_ (ha.mono (same_upd hb)))
    · by_cases hbD : b = D
      · subst hbD; rw [upd_same] at e; rw [← e]; exact hd
      · rw [upd_ne hbD] at e; exact st.s b o e
    · have : b ≠ D := fun z => h2 (z ▸ s1.h.free hD)
      rw [upd_ne this]; exact stt.f b h1 h2
    · rw [ha.length, List.length_map]
      exact Nat.le_trans (List.length_filter_le _ _) hl
theorem EV.lc (own : List (Str × Nat)) (hi : IV X Γ tg iter u xs) (hg : ∀ (s : Shared) (H : Hp) (C : Addr) (cl : List (Str × Addr)) (fp : List Addr), PG (X.blk s H scope (compEnvC scope cl C X.env) fp) tg g)
    (hT : TgOk g js u (wipeG Γ (own.map (·.2))) Γt)
    (ht : ∀ a ∈ xs, ∀ (s : Shared) (H : Hp) (C : Addr) (cl : List (Str × Addr)) (fp : List Addr), CTs (X.blk s H scope (compEnvC scope cl C X.env) fp) (Γt a) ifs (pd a))
    (he : ∀ a ∈ xs, pd a = true → ∀ (s : Shared) (H : Hp) (C : Addr) (cl : List (Str × Addr)) (fp : List Addr), EV (X.blk s H scope (compEnvC scope cl C X.env) fp) (Γt a) elt (tD (f a)))
    (hN : X.N.Nodup) (ok : blkC X.N X.env.scope scope own = true := by kernel_rfl) (hc : X.calm = true := by rfl) (hj : ∀ j ∈ js, j ∈ own.map (·.2) := by decide) (hs : ∀ x, foldedSetIterable iter X.env x = pure x := by intro _; rfl) :
    EV X Γ (.ListComp elt [⟨tg, iter, ifs, 0⟩] scope pos) (tD (.list ((xs.filter pd).map f))) :=
  EV.of (pe_lc (own := own) hc hN hi (blkOk_by ok) hg (fun s H C cl fp => ⟨fun pins s' σ H' Q I ⟨a, hm, q⟩ => (ht a hm s H C cl fp).run pins s' σ H' Q I q⟩) (fun s H C cl fp => ⟨fun pins s' σ H' Q I ⟨a, hm, hp, q⟩ => (he a hm hp s H C cl fp).run pins s' σ H' Q I q⟩) hs)
    fun σ H B Q sa q => lc_read hT hj sa q
end
/-! ### defs by their types -/
def spT {A : Type} (ts : A → List Ty) (pre : A → Prop) (tc : A → Ty) : Sp := fun vs H Q _ => ∃ a B, pre a ∧ Same B H ∧ Args B vs (ts a) ∧ ∀ v H' B', Stp H B H' B' → (tc a).R v B' → Q v H'
structure DefT (P : Program) (w : World) (K : PySem.W.Frag) (mg : Str → Option Value) (base : Heap) (x : Str) (k : Nat) {A : Type} (ts : A → List Ty) (pre : A → Prop) (tc : A → Ty) : Prop where
  ex : ∃ f fd ps, FnOk P w K mg base CX0 k f fd ps (spT ts pre tc) ∧ mg x = some (.ref f) ∧ PySem.W.keepIn K (.ref f) = true ∧ Binds K fd ps []
theorem EV.call {X : Cx} {Γ : Gm} {e : Expr} {es : List Expr} {x : Str} {k : Nat} {A : Type} {ts : A → List Ty} {pre : A → Prop} {tc : A → Ty} {p pos : Pos} (D : DefT X.prog X.w X.K X.mg X.base x k ts pre tc) (a : A) (hp : pre a) (hr : Room k X.A) (ha : EA X Γ (e :: es) (ts a))
    (hg : Gl X x := by rfl) (hd : (x == ("__debug__" : Str)) = false := by decide) (he : starEach (e :: es) X.env = (false, eval e X.env) :: starEach es X.env := by rfl) (hpl : (backTo pos (starEach es X.env)).any (·.1) = false := by rfl) : EV X Γ (.Call (.Name x p) (e :: es) [] pos) (tc a) := by
  obtain ⟨f, fd, ps, F, hm, hk, hb⟩ := D.ex
  refine EV.of (pe_call F hr hg hm hk hb .nil pass0 ha (hdb := hd) (he := he) (hpl := hpl)) fun σ H B Q sa q => ⟨B, sa, fun vs H1 B1 s1 r1 => ?_⟩
  show spT ts pre tc (vs ++ []) H1 Q E0
  rw [List.append_nil]
  exact ⟨a, B1, hp, s1.s, r1, fun v H2 B2 s2 r2 => q v H2 B2 (s1.trans s2) r2⟩
/-! ### statements -/
structure Ste (H0 B0 Bl : Hp) (Γ : Gm) (σ : St) (H B : Hp) : Prop where
  sa : Sa Γ σ H B
  sp : Stp H0 B0 H B
  lb : Same Bl B
  ow : ∀ (i : Nat) (o : Osp), Γ[i]? = some (some (.own o)) → ∃ p h, σ[i]? = some (some (.ref p)) ∧ H0 p = none ∧ B p = none ∧ H p = some h ∧ o.ok p h B
  di : ∀ (i j : Nat) (oi oj : Osp) (p : Addr), Γ[i]? = some (some (.own oi)) → Γ[j]? = some (some (.own oj)) → σ[i]? = some (some (.ref p)) → σ[j]? = some (some (.ref p)) → i = j
section
variable {H0 B0 Bl H B H' B' : Hp} {Γ : Gm} {σ : St}
theorem Ste.step (s : Ste H0 B0 Bl Γ σ H B) (k : Stp H B H' B') : Ste H0 B0 Bl Γ σ H' B' :=
  ⟨s.sa.mono k, s.sp.trans k, s.lb.trans k.b, fun i o e => let ⟨p, h, a1, a2, a3, a4, a5⟩ := s.ow i o e; ⟨p, h, a1, a2, k.f p a3 (by rw [a4]; exact fun z => nomatch z), k.h _ _ a4, o.st k.b a5⟩, s.di⟩
/-- behind a look at all slots, the base as it was -/
theorem Ste.look (s : Ste H0 B0 Bl Γ σ H B) (k : Same H H') : Ste H0 B0 Bl Γ σ H' B := s.step (Stp.grow s.sa.sm k)
theorem getset {α : Type} {l : List α} {i j : Nat} {x y : α} (h : (List.set l j x)[i]? = some y) : (i = j ∧ y = x) ∨ (i ≠ j ∧ l[i]? = some y) := by
  by_cases e : j = i
  · subst e
    rw [List.getElem?_set] at h
    by_cases hl : j < l.length
    · simp [hl] at h; exact .inl ⟨rfl, h.symm⟩
    · simp [hl] at h
  · rw [List.getElem?_set_ne e] at h
    exact .inr ⟨fun z => e z.symm, h⟩
theorem Ste.set (s : Ste H0 B0 Bl Γ σ H B) {i : Nat} {v : V} {t : Ty} (r : t.R v B) : Ste H0 B0 Bl (Γ.set i (some (.ty t))) (σ.set i (some v)) H B := by
  refine ⟨s.sa.set r, s.sp, s.lb, fun j o e => ?_, fun j k oj ok p e1 e2 e3 e4 => ?_⟩
  · rcases getset e with ⟨_, z⟩ | ⟨hn, z⟩
    · cases z
    · rw [List.getElem?_set_ne (Ne.symm hn)]; exact s.ow j o z
  · rcases getset e1 with ⟨_, z⟩ | ⟨hn, z1⟩
    · cases z
    · rcases getset e2 with ⟨_, z⟩ | ⟨hn2, z2⟩
      · cases z
      · rw [List.getElem?_set_ne (Ne.symm hn)] at e3
        rw [List.getElem?_set_ne (Ne.symm hn2)] at e4
        exact s.di j k oj ok p z1 z2 e3 e4
/-- a new object of one's own -/
theorem Ste.newOwn (s : Ste H0 B0 Bl Γ σ H B) {i : Nat} {p : Addr} {h : HO} {o : Osp} (hi : i < Γ.length) (hp : H p = none) (ok : o.ok p h B) : Ste H0 B0 Bl (Γ.set i (some (.own o))) (σ.set i (some (.ref p))) (upd H p h) B := by
  have s1 := s.look (same_upd hp (o := h))
  have hil : i < σ.length := by rw [s.sa.ln]; exact hi
  refine ⟨⟨by simp [s.sa.ln], s1.sa.sm, fun j t e => ?_⟩, s1.sp, s.lb, fun j u e => ?_, fun j k oj ok p' e1 e2 e3 e4 => ?_⟩
  · rcases getset e with ⟨_, z⟩ | ⟨hn, z⟩
    · cases z
    · rw [List.getElem?_set_ne (Ne.symm hn)]; exact s.sa.ty j t z
  · rcases getset e with ⟨rfl, z⟩ | ⟨hn, z⟩
    · cases z
      exact ⟨p, h, by rw [List.getElem?_set_self hil], s.sp.h.free hp, s.sa.sm.free hp, upd_same, ok⟩
    · rw [List.getElem?_set_ne (Ne.symm hn)]; exact s1.ow j u z
  · have key : ∀ (m : Nat) (om : Osp) (q : Addr), Γ[m]? = some (some (Sl.own om)) → σ[m]? = some (some (V.ref q)) → q ≠ p := fun m om q z1 z2 e => by
      obtain ⟨q', h', a1, _, _, a4, _⟩ := s.ow m om z1
      rw [z2] at a1; cases a1
      rw [e, hp] at a4; cases a4
    rcases getset e1 with ⟨rfl, z⟩ | ⟨hn, z1⟩
    · rcases getset e2 with ⟨rfl, z⟩ | ⟨hn2, z2⟩
      · rfl
      · rw [List.getElem?_set_self hil] at e3; cases e3
        rw [List.getElem?_set_ne (Ne.symm hn2)] at e4
        exact absurd rfl (key k ok _ z2 e4)
    · rcases getset e2 with ⟨rfl, z⟩ | ⟨hn2, z2⟩
      · rw [List.getElem?_set_self hil] at e4; cases e4
        rw [List.getElem?_set_ne (Ne.symm hn)] at e3
        exact absurd rfl (key j oj _ z1 e3)
      · rw [List.getElem?_set_ne (Ne.symm hn)] at e3
        rw [List.getElem?_set_ne (Ne.symm hn2)] at e4
        exact s.di j k oj ok p' z1 z2 e3 e4
/-- one's own object changes -/
theorem Ste.store (s : Ste H0 B0 Bl Γ σ H B) {i : Nat} {p : Addr} {h' : HO} {o o' : Osp} (hi : Γ[i]? = some (some (.own o))) (hp : σ[i]? = some (some (.ref p))) (ok : o'.ok p h' B) : Ste H0 B0 Bl (Γ.set i (some (.own o'))) σ (upd H p h') B := by
  obtain ⟨p', h, a1, a2, a3, a4, a5⟩ := s.ow i o hi
  rw [hp] at a1; cases a1
  have sm : Same B (upd H p h') := fun b u e => by rw [upd_ne (ne_of_none e a3)]; exact s.sa.sm b u e
  refine ⟨⟨by simp [s.sa.ln], sm, fun j t e => ?_⟩, ⟨fun b u e => by rw [upd_ne (ne_of_none e a2)]; exact s.sp.h b u e, s.sp.b, sm, s.sp.f⟩, s.lb, fun j u e => ?_, fun j k oj ok q e1 e2 e3 e4 => ?_⟩
  · rcases getset e with ⟨_, z⟩ | ⟨hn, z⟩
    · cases z
    · exact s.sa.ty j t z
  · rcases getset e with ⟨rfl, z⟩ | ⟨hn, z⟩
    · cases z
      exact ⟨p, h', hp, a2, a3, upd_same, ok⟩
    · obtain ⟨q, hq, b1, b2, b3, b4, b5⟩ := s.ow j u z
      have : q ≠ p := fun e => hn (s.di j i u o p z hi (e ▸ b1) hp)
      exact ⟨q, hq, b1, b2, b3, by rw [upd_ne this]; exact b4, b5⟩
  · have g : ∀ (m : Nat) (om : Osp), (Γ.set i (some (Sl.own o')))[m]? = some (some (Sl.own om)) → ∃ om' : Osp, Γ[m]? = some (some (Sl.own om')) := fun m om e => by
      rcases getset e with ⟨rfl, _⟩ | ⟨_, z⟩
      · exact ⟨o, hi⟩
      · exact ⟨om, z⟩
    obtain ⟨oj', z1⟩ := g j oj e1
    obtain ⟨ok', z2⟩ := g k ok e2
    exact s.di j k oj' ok' q z1 z2 e3 e4
/-- all slots to be read -/
def pk1 : Option Sl → Option Sl
  | some (.own o) => some (.ty o.ty)
  | x => x
def pk (Γ : Gm) : Gm := Γ.map pk1
theorem Ste.peek (s : Ste H0 B0 Bl Γ σ H B) : ∃ B2, Sa (pk Γ) σ H B2 ∧ Stp H0 B0 H B2 ∧ Same B B2 := by
  classical
  let own : Addr → Prop := fun a => ∃ (i : Nat) (o : Osp), Γ[i]? = some (some (Sl.own o)) ∧ σ[i]? = some (some (V.ref a))
  have hB : ∀ a, own a → H0 a = none ∧ B a = none := fun a ⟨i, o, e1, e2⟩ => by
    obtain ⟨p, h, a1, a2, a3, _⟩ := s.ow i o e1
    rw [e2] at a1; cases a1
    exact ⟨a2, a3⟩
  have sBB : Same B fun a => if own a then H a else B a := fun a o e => by
    have : ¬ own a := fun z => by rw [(hB a z).2] at e; cases e
    show (if own a then H a else B a) = some o
    rw [if_neg this]; exact e
  refine ⟨fun a => if own a then H a else B a, ⟨by simp [pk, s.sa.ln], fun a o e => ?_, fun i t e => ?_⟩, ⟨s.sp.h, s.sp.b.trans sBB, fun a o e => ?_, fun a h1 h2 => ?_⟩, sBB⟩
  · have e : (if own a then H a else B a) = some o := e
    by_cases ha : own a
    · rw [if_pos ha] at e; exact e
    · rw [if_neg ha] at e; exact s.sa.sm a o e
  · unfold pk at e
    rw [List.getElem?_map] at e
    cases q : Γ[i]? with
    | none => rw [q] at e; cases e
    | some x =>
      rw [q] at e
      cases x with
      | none => cases e
      | some y =>
        cases y with
        | ty t' =>
          have e : some (some (Sl.ty t')) = some (some (Sl.ty t)) := e
          cases e
          obtain ⟨v, h1, h2⟩ := s.sa.ty i t q
          exact ⟨v, h1, t.st sBB h2⟩
        | own o =>
          have e : some (some (Sl.ty o.ty)) = some (some (Sl.ty t)) := e
          cases e
          obtain ⟨p, h, a1, a2, a3, a4, a5⟩ := s.ow i o q
          refine ⟨.ref p, a1, o.as (o.st sBB a5) ?_⟩
          show (if own p then H p else B p) = some h
          rw [if_pos ⟨i, o, q, a1⟩]; exact a4
  · have e : (if own a then H a else B a) = some o := e
    by_cases ha : own a
    · rw [if_pos ha] at e; exact e
    · rw [if_neg ha] at e; exact s.sa.sm a o e
  · show (if own a then H a else B a) = none
    rw [if_neg fun z => h2 (hB a z).1]; exact s.sp.f a h1 h2
end
def rg (Γ : Gm) (N C K : Gm → Prop) (t : Ty) : TS := fun D σ H => ∃ H0 B0 Bl B, Ste H0 B0 Bl Γ σ H B ∧ (∀ Γ' σ' H' B', N Γ' → Ste H0 B0 Bl Γ' σ' H' B' → D.nx σ' H') ∧ (∀ Γ' σ' H' B', C Γ' → Ste H0 B0 Bl Γ' σ' H' B' → D.ct σ' H') ∧
  (∀ Γ' σ' H' B', K Γ' → Ste H0 B0 Bl Γ' σ' H' B' → D.bk σ' H') ∧ ∀ v H' B', Stp H0 B0 H' B' → t.R v B' → D.rt v H'
abbrev GS (X : Cx) (Γ : Gm) (ss : List Stmt) (N C K : Gm → Prop) (t : Ty) : Prop := PSs X ss (rg Γ N C K t)
abbrev G1 (X : Cx) (Γ : Gm) (st : Stmt) (N C K : Gm → Prop) (t : Ty) : Prop := PS X st (rg Γ N C K t)
abbrev nev : Gm → Prop := fun _ => False
section
variable {X : Cx} {Γ Γ1 : Gm} {st : Stmt} {ss : List Stmt} {N N1 C K : Gm → Prop} {t u : Ty} {e c o : Expr} {pos p p2 : Pos} {x : Str}
theorem GS.nil (h : N Γ) : GS X Γ [] N C K t := PSs.imp pss_nil fun D σ H ⟨H0, B0, Bl, B, s, n, _⟩ => n Γ σ H B h s
theorem GS.cons (h : G1 X Γ st N1 C K t) (h2 : ∀ Γ1, N1 Γ1 → GS X Γ1 ss N C K t) : GS X Γ (st :: ss) N C K t := by
  refine PSs.imp (pss_cons h (u := fun D σ H => ∃ Γ1, N1 Γ1 ∧ rg Γ1 N C K t D σ H) ⟨fun pins s σ H D I ⟨Γ1, h1, q⟩ => (h2 Γ1 h1).run pins s σ H D I q⟩) ?_
  rintro D σ H ⟨H0, B0, Bl, B, s, n, ct, bk, rt⟩
  exact ⟨H0, B0, Bl, B, s, fun Γ' σ' H' B' h1 s' => ⟨Γ', h1, H0, B0, Bl, B', s', n, ct, bk, rt⟩, ct, bk, rt⟩
theorem GS.seq (h : G1 X Γ st (· = Γ1) C K t) (h2 : GS X Γ1 ss N C K t) : GS X Γ (st :: ss) N C K t := GS.cons h fun _ e => e ▸ h2
theorem GS.one (h : G1 X Γ st N C K t) : GS X Γ [st] N C K t := GS.cons h fun _ e => GS.nil e
/-- x = e -/
theorem G1.set {pos' : Pos} (i : Nat) (he : EV X Γ e u) (nd : X.N.Nodup) (hi : X.N[i]? = some x := by rfl) (hx : Loc X.env.scope x := by first | exact .inl rfl | exact .inr rfl) (hs : swapsWith e (some (.Name x pos')) pos.line X.env = pure false := by rfl)
    (hf : X.fn x = true ∨ X.env.scope.names.lookup x = some .local := by first | exact .inl rfl | exact .inr rfl) : G1 X Γ (.Assign [.Name x pos'] e pos) (· = Γ.set i (some (.ty u))) C K t :=
  PS.imp (ps_set nd hi hx he hs hf) fun D σ H ⟨H0, B0, Bl, B, s, n, _⟩ => ⟨B, s.sa, fun v H' B' k r => n _ _ _ B' rfl ((s.step k).set r)⟩
/-- the same, one's own objects read, the value no object -/
theorem G1.setPk {pos' : Pos} (i : Nat) (he : EV X (pk Γ) e u) (sc : Sc u) (nd : X.N.Nodup) (hi : X.N[i]? = some x := by rfl) (hx : Loc X.env.scope x := by first | exact .inl rfl | exact .inr rfl) (hs : swapsWith e (some (.Name x pos')) pos.line X.env = pure false := by rfl)
    (hf : X.fn x = true ∨ X.env.scope.names.lookup x = some .local := by first | exact .inl rfl | exact .inr rfl) : G1 X Γ (.Assign [.Name x pos'] e pos) (· = Γ.set i (some (.ty u))) C K t :=
  PS.imp (ps_set nd hi hx he hs hf) fun D σ H ⟨H0, B0, Bl, B, s, n, _⟩ => by
    obtain ⟨B2, sa2, sp2, _⟩ := s.peek
    exact ⟨B2, sa2, fun v H' B' k r => n _ _ _ B rfl ((s.look k.h).set (sc _ _ _ r))⟩
/-- x = [] -/
theorem G1.newL {pos' p3 : Pos} (i : Nat) (nd : X.N.Nodup) (hl : i < Γ.length := by exact Nat.le_of_ble_eq_true rfl) (hi : X.N[i]? = some x := by rfl) (hx : Loc X.env.scope x := by first | exact .inl rfl | exact .inr rfl) (hs : swapsWith (.List [] p3) (some (.Name x pos')) pos.line X.env = pure false := by rfl)
    (hf : X.fn x = true ∨ X.env.scope.names.lookup x = some .local := by first | exact .inl rfl | exact .inr rfl) : G1 X Γ (.Assign [.Name x pos'] (.List [] p3) pos) (· = Γ.set i (some (.own (oL [])))) C K t :=
  PS.imp (ps_set nd hi hx (pe_lst pa_nil) hs hf) fun D σ H ⟨H0, B0, Bl, B, s, n, _⟩ => ⟨Nat.zero_le _, fun q hq => n _ _ _ B rfl (s.newOwn hl hq ⟨[], rfl, Nat.zero_le _, .nil⟩)⟩
theorem G1.ret (he : EV X (pk Γ) e t) : G1 X Γ (.Return (some e) pos) N C K t :=
  PS.imp (ps_ret he) fun D σ H ⟨H0, B0, Bl, B, s, _, _, _, rt⟩ => by
    obtain ⟨B2, sa2, sp2, _⟩ := s.peek
    exact ⟨B2, sa2, fun v H' B' k r => rt v H' B' (sp2.trans k) r⟩
theorem G1.expr (he : EV X (pk Γ) e u) (hs : swapsWith e none pos.line X.env = pure false := by rfl) : G1 X Γ (.Expr e pos) (· = Γ) C K t :=
  PS.imp (ps_expr he hs) fun D σ H ⟨H0, B0, Bl, B, s, n, _⟩ => by
    obtain ⟨B2, sa2, sp2, _⟩ := s.peek
    exact ⟨B2, sa2, fun v H' B' k r => n _ _ _ B rfl (s.look k.h)⟩
theorem G1.ifS {b : Bool} {s1 s2 : List Stmt} (hc : CT X (pk Γ) c b) (h1 : b = true → GS X Γ s1 N C K t) (h2 : b = false → GS X Γ s2 N C K t) : G1 X Γ (.If c s1 s2 pos) N C K t :=
  PS.imp (ps_if hc (t := fun D σ H => b = true ∧ rg Γ N C K t D σ H) (u := fun D σ H => b = false ∧ rg Γ N C K t D σ H) ⟨fun pins s σ H D I ⟨hb, q⟩ => (h1 hb).run pins s σ H D I q⟩ ⟨fun pins s σ H D I ⟨hb, q⟩ => (h2 hb).run pins s σ H D I q⟩)
    fun D σ H ⟨H0, B0, Bl, B, s, n, ct, bk, rt⟩ => by
      obtain ⟨B2, sa2, sp2, _⟩ := s.peek
      refine ⟨B2, sa2, fun H' B' k => ?_⟩
      cases b with
      | true => rw [if_pos rfl]; exact ⟨rfl, H0, B0, Bl, B, s.look k.h, n, ct, bk, rt⟩
      | false => rw [if_neg (by decide)]; exact ⟨rfl, H0, B0, Bl, B, s.look k.h, n, ct, bk, rt⟩
/-- a test whose answer is known -/
theorem G1.ifF {s1 s2 : List Stmt} (hc : CT X (pk Γ) c false) (h2 : GS X Γ s2 N C K t) : G1 X Γ (.If c s1 s2 pos) N C K t := by
  refine PS.imp (ps_if hc (pss_never (sts := s1)) h2) fun D σ H ⟨H0, B0, Bl, B, s, n, ct, bk, rt⟩ => ?_
  obtain ⟨B2, sa2, sp2, _⟩ := s.peek
  exact ⟨B2, sa2, fun H' B' k => iteF ⟨H0, B0, Bl, B, s.look k.h, n, ct, bk, rt⟩⟩
theorem G1.brk (h : K Γ) : G1 X Γ (.Break pos) N C K t := PS.imp ps_break fun D σ H ⟨H0, B0, Bl, B, s, n, ct, bk, rt⟩ => bk Γ σ H B h s
theorem G1.cont (h : C Γ) : G1 X Γ (.Continue pos) N C K t := PS.imp ps_continue fun D σ H ⟨H0, B0, Bl, B, s, n, ct, bk, rt⟩ => ct Γ σ H B h s
/-- x.append(e), x one's own -/
theorem G1.append {ds : List PyData} {d : PyData} {ap : Pos} (i : Nat) (he : EV X Γ e (tD d)) (hl : ds.length < lim) (hg : Γ[i]? = some (some (.own (oL ds))) := by rfl) (hi : X.N[i]? = some x := by rfl) (hv : Vis X.env.scope x := by first | exact Or.inl rfl | exact Or.inr (Or.inl rfl) | exact Or.inr (Or.inr rfl))
    (hd : (x == ("__debug__" : Str)) = false := by decide) (hcd : (x == ("__classdict__" : Str)) = false := by decide)
    (hbase : attributeBase (.Name x p2) "append" X.env (eval (.Name x p2) X.env) = eval (.Name x p2) X.env := by rfl)
    (hfew : ((backTo p (starEach [e] X.env)).all (fun x => !x.1) && (backToKw p (keywordEach [] X.env)).all (fun x => x.1.isSome) && decide (([e] : List Expr).length + ([] : List Keyword).length + (if ([] : List Keyword).isEmpty then 0 else 1) < 30)) = true := by rfl)
    (hline : (ap.endLine == p.line) = true := by rfl) (hse : starEach [e] X.env = (false, eval e X.env) :: starEach [] X.env := by rfl) (hpl : (backTo p (starEach [] X.env)).any (·.1) = false := by rfl)
    (hs : swapsWith (.Call (.Attribute (.Name x p2) "append" ap) [e] [] p) none pos.line X.env = pure false := by rfl) :
    G1 X Γ (.Expr (.Call (.Attribute (.Name x p2) "append" ap) [e] [] p) pos) (· = Γ.set i (some (.own (oL (ds ++ [d]))))) C K t := by
  refine PS.imp (ps_expr (pe_bm PySem.F.plainAttrs_list PySem.F.slot_list_append PySem.F.type_list_append mt_append (pe_var (i := i) hi hv hd hcd) (pa_cons he pa_nil hse) (hbase := hbase) (hfew := hfew) (hline := hline) (hs := hse) (hplain := hpl)) hs) ?_
  rintro D σ H ⟨H0, B0, Bl, B, s, n, _⟩
  obtain ⟨q, h, a1, a2, a3, a4, vs, rfl, a5, a6⟩ := s.ow i _ hg
  refine ⟨_, a1, Or.inl ⟨rfl, _, SqL.of a4⟩, B, s.sa, fun v H' B' k r => ⟨q, vs, v, rfl, rfl, k.h _ _ a4, lim_lt a5, ?_⟩⟩
  have hz : vs.length < lim := by rw [a6.length]; exact hl
  exact n _ _ _ B' rfl ((s.step k).store (o' := oL (ds ++ [d])) hg a1 ⟨vs ++ [v], rfl, by rw [List.length_append]; exact hz, (a6.mono k.b).append (.cons r .nil)⟩)
/-- while -/
theorem G1.whileS {body : List Stmt} (Iv : Nat → Gm → Prop) (m : Nat) (h0 : Iv m Γ) (hc : ∀ m Γi, Iv m Γi → ∃ b, CT X (pk Γi) c b ∧ (b = true → GS X Γi body (fun Γ' => ∃ m', m' < m ∧ Iv m' Γ') (fun Γ' => ∃ m', m' < m ∧ Iv m' Γ') N t) ∧ (b = false → N Γi))
    (hp : PassesOwn (model X.prog X.w) X.A X.env X.xe := by exact PassesOwn.never) : G1 X Γ (.While c body [] pos) N C K t := by
  refine PS.imp (ps_while hp (tc := fun σ H Q => ∃ m Γi b, Iv m Γi ∧ CT X (pk Γi) c b ∧ rb (pk Γi) b σ H Q)
    (tb := fun D σ H => ∃ m Γi, Iv m Γi ∧ GS X Γi body (fun Γ' => ∃ m', m' < m ∧ Iv m' Γ') (fun Γ' => ∃ m', m' < m ∧ Iv m' Γ') N t ∧ rg Γi (fun Γ' => ∃ m', m' < m ∧ Iv m' Γ') (fun Γ' => ∃ m', m' < m ∧ Iv m' Γ') N t D σ H)
    ⟨fun pins s σ H Q I ⟨m, Γi, b, _, h, q⟩ => h.run pins s σ H Q I q⟩ ⟨fun pins s σ H D I ⟨m, Γi, _, h, q⟩ => h.run pins s σ H D I q⟩) ?_
  rintro D σ H ⟨H0, B0, Bl, B, s, n, ct, bk, rt⟩
  refine ⟨fun m σ H => ∃ Γi B, Iv m Γi ∧ Ste H0 B0 Bl Γi σ H B, ⟨m, Γ, B, h0, s⟩, ?_⟩
  rintro m σ1 H1 ⟨Γi, B1, hI, s1⟩
  obtain ⟨b, h1, h2, h3⟩ := hc m Γi hI
  obtain ⟨B2, sa2, sp2, _⟩ := s1.peek
  refine ⟨m, Γi, b, hI, h1, B2, sa2, fun H' B' k => ?_⟩
  cases b with
  | true =>
    rw [if_pos rfl]
    refine ⟨fun σ' H' => ∃ m', m' < m ∧ ∃ Γ' B', Iv m' Γ' ∧ Ste H0 B0 Bl Γ' σ' H' B', fun σ' H' z => z, m, Γi, hI, h2 rfl, H0, B0, Bl, B1, s1.look k.h, ?_, ?_, n, rt⟩
    · rintro Γ' σ' H' B' ⟨m', hm, hI'⟩ s'; exact ⟨m', hm, Γ', B', hI', s'⟩
    · rintro Γ' σ' H' B' ⟨m', hm, hI'⟩ s'; exact ⟨m', hm, Γ', B', hI', s'⟩
  | false =>
    rw [if_neg (by decide)]
    exact n Γi σ1 H' B1 (h3 rfl) (s1.look k.h)
/-- a target behind which one's own objects stand as before -/
theorem Ste.target {α : Type} {H0 B0 Bl H B : Hp} {σ : St} {g : TG} {js : List Nat} {ut : α → Ty} {Γt : α → Gm} {a : α} {x : V} {Q : St → Hp → Prop} (s : Ste H0 B0 Bl Γ σ H B) (hT : TgOk g js ut Γ Γt) (h2 : ∀ j, j ∉ js → (Γt a)[j]? = Γ[j]?) (h3 : ∀ j o, j ∈ js → (Γt a)[j]? ≠ some (some (.own o)))
    (r : (ut a).R x B) (q : ∀ σ', Ste H0 B0 Bl (Γt a) σ' H B → Q σ' H) : g x σ H Q := by
  refine hT a x σ H B Q s.sa r fun σ' sa hl hsame => q σ' ⟨sa, s.sp, s.lb, fun i o e => ?_, fun i j oi oj p e1 e2 e3 e4 => ?_⟩
  · have hi : i ∉ js := fun z => h3 i o z e
    rw [h2 i hi] at e
    rw [hsame i hi]
    exact s.ow i o e
  · have hi : i ∉ js := fun z => h3 i oi z e1
    have hj : j ∉ js := fun z => h3 j oj z e2
    rw [h2 i hi] at e1
    rw [h2 j hj] at e2
    rw [hsame i hi] at e3
    rw [hsame j hj] at e4
    exact s.di i j oi oj p e1 e2 e3 e4
theorem Ste.rebase {H0 B0 Bl Bl' H B : Hp} {σ : St} (s : Ste H0 B0 Bl Γ σ H B) (h : Same Bl' B) : Ste H0 B0 Bl' Γ σ H B := ⟨s.sa, s.sp, h, s.ow, s.di⟩
/-- for -/
theorem G1.forS {α : Type} {tg iter : Expr} {body : List Stmt} {g : TG} {js : List Nat} {ut : α → Ty} {xs : List α} {Γt : Gm → α → Gm} (Iv : Nat → Gm → Prop) (hi : IV X Γ tg iter ut xs) (h0 : Iv 0 Γ) (hg : PG X tg g) (hT : ∀ Γi, TgOk g js ut Γi (Γt Γi))
    (hT2 : ∀ Γi a j, j ∉ js → (Γt Γi a)[j]? = Γi[j]?) (hT3 : ∀ Γi a j o, j ∈ js → (Γt Γi a)[j]? ≠ some (some (.own o)))
    (hb : ∀ i a Γi, xs[i]? = some a → Iv i Γi → GS X (Γt Γi a) body (Iv (i + 1)) (Iv (i + 1)) N t) (hN : ∀ Γi, Iv xs.length Γi → N Γi)
    (hp : PassesOwn (model X.prog X.w) X.A X.env X.xe := by exact PassesOwn.never) (hc : X.calm = true := by rfl) (hs : ∀ x, foldedSetIterable iter X.env x = pure x := by intro _; rfl) : G1 X Γ (.For tg iter body [] pos) N C K t := by
  refine PS.imp (ps_for hp hc hi hg (tb := fun D σ H => ∃ i a Γi, xs[i]? = some a ∧ Iv i Γi ∧ rg (Γt Γi a) (Iv (i + 1)) (Iv (i + 1)) N t D σ H) ⟨fun pins s σ H D I ⟨i, a, Γi, h1, h2, q⟩ => (hb i a Γi h1 h2).run pins s σ H D I q⟩ hs) ?_
  rintro D σ H ⟨H0, B0, Bl, B, s, n, ct, bk, rt⟩
  refine ⟨B, s.sa, fun J H1 B1 Gd Y s1 w hG hY hl => ?_⟩
  refine for_it (g := g) (tb := fun D σ H => ∃ i a Γi, xs[i]? = some a ∧ Iv i Γi ∧ rg (Γt Γi a) (Iv (i + 1)) (Iv (i + 1)) N t D σ H) (D := D) (σ := σ) w (fun i σ' H' => ∃ Γi B', Iv i Γi ∧ Ste H0 B0 B1 Γi σ' H' B' ∧ Same Bl B') ⟨Γ, B1, h0, (s.step s1).rebase (.refl _), (s.step s1).lb⟩ ?_ ?_ ?_
  · rintro i σ' H' _ ⟨Γi, B', _, s', _⟩
    exact hG H' B' s'.lb s'.sa.sm
  · rintro i x σ' H' H'' hi' ⟨Γi, B', hI, s', lb⟩ hy
    obtain ⟨a, B3, hx, s3, rx⟩ := hY i x H' H'' B' s'.lb s'.sa.sm hy
    refine (s'.step s3).target (hT Γi) (hT2 Γi a) (hT3 Γi a) rx fun σ2 s2 => ⟨i, a, Γi, hx, hI, H0, B0, B1, B3, s2, ?_, ?_, ?_, rt⟩
    · intro Γ' σ4 H4 B4 hI' s4
      exact ⟨Γ', B4, hI', s4, (s.lb.trans s1.b).trans s4.lb⟩
    · intro Γ' σ4 H4 B4 hI' s4
      exact ⟨Γ', B4, hI', s4, (s.lb.trans s1.b).trans s4.lb⟩
    · intro Γ' σ4 H4 B4 hI' s4
      exact n Γ' σ4 H4 B4 hI' (s4.rebase ((s.lb.trans s1.b).trans s4.lb))
  · rintro σ' H' ⟨Γi, B', hI, s', lb⟩
    exact n Γi σ' H' B' (hN Γi hI) (s'.rebase lb)
end
end Rk
/-! part Tx -/
namespace Rk
open PySem PySem.Spec L2
def topS (i : Nat) : Stmt := PySem.Challenge.pw_rowclash_k47_whole_what_replace_leaves.main.body.getD i (.Pass ⟨0, 0, 0, 0⟩)
abbrev s_is_integer : Stmt := topS 16
abbrev s_is_key : Stmt := topS 17
abbrev s_is_row : Stmt := topS 18
abbrev s_is_ascending : Stmt := topS 19
abbrev s_checked_rows : Stmt := topS 20
abbrev s_more_rows : Stmt := topS 21
abbrev s_keys_of : Stmt := topS 23
abbrev s_need_table : Stmt := topS 24
abbrev s_need_row : Stmt := topS 25
abbrev s_is_set : Stmt := topS 26
abbrev s_need_rows : Stmt := topS 27
abbrev s_is_order : Stmt := topS 28
abbrev s_need_order : Stmt := topS 29
abbrev s_waited : Stmt := topS 31
abbrev s_path_of : Stmt := topS 32
abbrev s_end_of : Stmt := topS 33
abbrev s_path : Stmt := topS 34
abbrev s_rings_of : Stmt := topS 35
abbrev s_by_new : Stmt := topS 36
abbrev s_waiting_for : Stmt := topS 37
abbrev s_is_still : Stmt := topS 38
abbrev s_wanted_keys : Stmt := topS 40
abbrev s_pure_rings : Stmt := topS 41
abbrev s_is_cover : Stmt := topS 42
abbrev s_branch_counts : Stmt := topS 43
abbrev s_ring_count : Stmt := topS 44
abbrev s_count_covers : Stmt := topS 45
abbrev s_struck : Stmt := topS 46
abbrev s_single_ends : Stmt := topS 47
abbrev s_pieces_of : Stmt := topS 48
abbrev s_least_with : Stmt := topS 49
abbrev s_first_cover : Stmt := topS 50
abbrev s_is_kept_right : Stmt := topS 52
abbrev s_is_left : Stmt := topS 53
abbrev s_can_be_left : Stmt := topS 54
abbrev s_arriving : Stmt := topS 55
abbrev s_order_leaving : Stmt := topS 56
abbrev s_left_fate : Stmt := topS 57
abbrev s_can_be_held : Stmt := topS 58
abbrev s_count_held : Stmt := topS 59
abbrev s_most_left : Stmt := topS 60
abbrev s_fewest_left : Stmt := topS 61
abbrev s_keys_of_piece : Stmt := topS 62
abbrev s_is_piece : Stmt := topS 63
abbrev s_shows_fewest : Stmt := topS 64
abbrev s_holder_of : Stmt := topS 68
abbrev s_law_cell_at : Stmt := topS 74
abbrev s_law_pen : Stmt := topS 75
abbrev s_law_draw : Stmt := topS 76
abbrev s_law_pick : Stmt := topS 77
abbrev s_law_mixed : Stmt := topS 78
abbrev s_law_pairs : Stmt := topS 79
abbrev s_law_order_right : Stmt := topS 80
abbrev s_law_more_right : Stmt := topS 81
abbrev s_law : Stmt := topS 82
abbrev s_Table_init : Stmt := inClass (topS 22) 0
abbrev s_Table_rows : Stmt := inClass (topS 22) 1
abbrev s_Table_getitem : Stmt := inClass (topS 22) 2
abbrev s_Table_contains : Stmt := inClass (topS 22) 4
abbrev s_Table_add : Stmt := inClass (topS 22) 9
abbrev s_Outcome_init : Stmt := inClass (topS 66) 0
abbrev s_Outcome_left : Stmt := inClass (topS 66) 5
abbrev s_Outcome_held : Stmt := inClass (topS 66) 6
abbrev s_Outcome_len : Stmt := inClass (topS 66) 9
abbrev s_Continues_halts : Stmt := inClass (topS 70) 0
abbrev s_Removes_settle : Stmt := inClass (topS 71) 0
abbrev s_Rule_call : Stmt := inClass (topS 69) 4
def fnL : List He5.DefA := [
  ⟨fun K => He.ga K "is_integer", "is_integer", "is_integer", defArgs s_is_integer, defBody s_is_integer, defScope s_is_integer, [], []⟩,
  ⟨fun K => He.ga K "is_key", "is_key", "is_key", defArgs s_is_key, defBody s_is_key, defScope s_is_key, [], []⟩,
  ⟨fun K => He.ga K "is_row", "is_row", "is_row", defArgs s_is_row, defBody s_is_row, defScope s_is_row, [], []⟩,
  ⟨fun K => He.ga K "is_ascending", "is_ascending", "is_ascending", defArgs s_is_ascending, defBody s_is_ascending, defScope s_is_ascending, [], []⟩,
  ⟨fun K => He.ga K "checked_rows", "checked_rows", "checked_rows", defArgs s_checked_rows, defBody s_checked_rows, defScope s_checked_rows, [], []⟩,
  ⟨fun K => He.ga K "more_rows", "more_rows", "more_rows", defArgs s_more_rows, defBody s_more_rows, defScope s_more_rows, [], []⟩,
  ⟨fun K => He.ga K "keys_of", "keys_of", "keys_of", defArgs s_keys_of, defBody s_keys_of, defScope s_keys_of, [], []⟩,
  ⟨fun K => He.ga K "need_table", "need_table", "need_table", defArgs s_need_table, defBody s_need_table, defScope s_need_table, [], []⟩,
  ⟨fun K => He.ga K "need_row", "need_row", "need_row", defArgs s_need_row, defBody s_need_row, defScope s_need_row, [], []⟩,
  ⟨fun K => He.ga K "is_set", "is_set", "is_set", defArgs s_is_set, defBody s_is_set, defScope s_is_set, [], []⟩,
  ⟨fun K => He.ga K "need_rows", "need_rows", "need_rows", defArgs s_need_rows, defBody s_need_rows, defScope s_need_rows, [], []⟩,
  ⟨fun K => He.ga K "is_order", "is_order", "is_order", defArgs s_is_order, defBody s_is_order, defScope s_is_order, [], []⟩,
  ⟨fun K => He.ga K "need_order", "need_order", "need_order", defArgs s_need_order, defBody s_need_order, defScope s_need_order, [], []⟩,
  ⟨fun K => He.ga K "waited", "waited", "waited", defArgs s_waited, defBody s_waited, defScope s_waited, [], []⟩,
  ⟨fun K => He.ga K "path_of", "path_of", "path_of", defArgs s_path_of, defBody s_path_of, defScope s_path_of, [], []⟩,
  ⟨fun K => He.ga K "end_of", "end_of", "end_of", defArgs s_end_of, defBody s_end_of, defScope s_end_of, [], []⟩,
  ⟨fun K => He.ga K "path", "path", "path", defArgs s_path, defBody s_path, defScope s_path, [], []⟩,
  ⟨fun K => He.ga K "rings_of", "rings_of", "rings_of", defArgs s_rings_of, defBody s_rings_of, defScope s_rings_of, [], []⟩,
  ⟨fun K => He.ga K "by_new", "by_new", "by_new", defArgs s_by_new, defBody s_by_new, defScope s_by_new, [], []⟩,
  ⟨fun K => He.ga K "waiting_for", "waiting_for", "waiting_for", defArgs s_waiting_for, defBody s_waiting_for, defScope s_waiting_for, [], []⟩,
  ⟨fun K => He.ga K "is_still", "is_still", "is_still", defArgs s_is_still, defBody s_is_still, defScope s_is_still, [], []⟩,
  ⟨fun K => He.ga K "wanted_keys", "wanted_keys", "wanted_keys", defArgs s_wanted_keys, defBody s_wanted_keys, defScope s_wanted_keys, [], []⟩,
  ⟨fun K => He.ga K "pure_rings", "pure_rings", "pure_rings", defArgs s_pure_rings, defBody s_pure_rings, defScope s_pure_rings, [], []⟩,
  ⟨fun K => He.ga K "is_cover", "is_cover", "is_cover", defArgs s_is_cover, defBody s_is_cover, defScope s_is_cover, [], []⟩,
  ⟨fun K => He.ga K "branch_counts", "branch_counts", "branch_counts", defArgs s_branch_counts, defBody s_branch_counts, defScope s_branch_counts, [], []⟩,
  ⟨fun K => He.ga K "ring_count", "ring_count", "ring_count", defArgs s_ring_count, defBody s_ring_count, defScope s_ring_count, [], []⟩,
  ⟨fun K => He.ga K "count_covers", "count_covers", "count_covers", defArgs s_count_covers, defBody s_count_covers, defScope s_count_covers, [], []⟩,
  ⟨fun K => He.ga K "struck", "struck", "struck", defArgs s_struck, defBody s_struck, defScope s_struck, [], []⟩,
  ⟨fun K => He.ga K "single_ends", "single_ends", "single_ends", defArgs s_single_ends, defBody s_single_ends, defScope s_single_ends, [], []⟩,
  ⟨fun K => He.ga K "pieces_of", "pieces_of", "pieces_of", defArgs s_pieces_of, defBody s_pieces_of, defScope s_pieces_of, [], []⟩,
  ⟨fun K => He.ga K "least_with", "least_with", "least_with", defArgs s_least_with, defBody s_least_with, defScope s_least_with, [], []⟩,
  ⟨fun K => He.ga K "first_cover", "first_cover", "first_cover", defArgs s_first_cover, defBody s_first_cover, defScope s_first_cover, [], []⟩,
  ⟨fun K => He.ga K "is_kept_right", "is_kept_right", "is_kept_right", defArgs s_is_kept_right, defBody s_is_kept_right, defScope s_is_kept_right, [], []⟩,
  ⟨fun K => He.ga K "is_left", "is_left", "is_left", defArgs s_is_left, defBody s_is_left, defScope s_is_left, [], []⟩,
  ⟨fun K => He.ga K "can_be_left", "can_be_left", "can_be_left", defArgs s_can_be_left, defBody s_can_be_left, defScope s_can_be_left, [], []⟩,
  ⟨fun K => He.ga K "arriving", "arriving", "arriving", defArgs s_arriving, defBody s_arriving, defScope s_arriving, [], []⟩,
  ⟨fun K => He.ga K "order_leaving", "order_leaving", "order_leaving", defArgs s_order_leaving, defBody s_order_leaving, defScope s_order_leaving, [], []⟩,
  ⟨fun K => He.ga K "left_fate", "left_fate", "left_fate", defArgs s_left_fate, defBody s_left_fate, defScope s_left_fate, [], []⟩,
  ⟨fun K => He.ga K "can_be_held", "can_be_held", "can_be_held", defArgs s_can_be_held, defBody s_can_be_held, defScope s_can_be_held, [], []⟩,
  ⟨fun K => He.ga K "count_held", "count_held", "count_held", defArgs s_count_held, defBody s_count_held, defScope s_count_held, [], []⟩,
  ⟨fun K => He.ga K "most_left", "most_left", "most_left", defArgs s_most_left, defBody s_most_left, defScope s_most_left, [], []⟩,
  ⟨fun K => He.ga K "fewest_left", "fewest_left", "fewest_left", defArgs s_fewest_left, defBody s_fewest_left, defScope s_fewest_left, [], []⟩,
  ⟨fun K => He.ga K "keys_of_piece", "keys_of_piece", "keys_of_piece", defArgs s_keys_of_piece, defBody s_keys_of_piece, defScope s_keys_of_piece, [], []⟩,
  ⟨fun K => He.ga K "is_piece", "is_piece", "is_piece", defArgs s_is_piece, defBody s_is_piece, defScope s_is_piece, [], []⟩,
  ⟨fun K => He.ga K "shows_fewest", "shows_fewest", "shows_fewest", defArgs s_shows_fewest, defBody s_shows_fewest, defScope s_shows_fewest, [], []⟩,
  ⟨fun K => He.ga K "holder_of", "holder_of", "holder_of", defArgs s_holder_of, defBody s_holder_of, defScope s_holder_of, [], []⟩,
  ⟨fun K => He.ga K "_law_cell_at", "_law_cell_at", "_law_cell_at", defArgs s_law_cell_at, defBody s_law_cell_at, defScope s_law_cell_at, [], []⟩,
  ⟨fun K => He.ga K "_law_pen", "_law_pen", "_law_pen", defArgs s_law_pen, defBody s_law_pen, defScope s_law_pen, [], []⟩,
  ⟨fun K => He.ga K "_law_draw", "_law_draw", "_law_draw", defArgs s_law_draw, defBody s_law_draw, defScope s_law_draw, [], []⟩,
  ⟨fun K => He.ga K "_law_pick", "_law_pick", "_law_pick", defArgs s_law_pick, defBody s_law_pick, defScope s_law_pick, [], []⟩,
  ⟨fun K => He.ga K "_law_mixed", "_law_mixed", "_law_mixed", defArgs s_law_mixed, defBody s_law_mixed, defScope s_law_mixed, [], []⟩,
  ⟨fun K => He.ga K "_law_pairs", "_law_pairs", "_law_pairs", defArgs s_law_pairs, defBody s_law_pairs, defScope s_law_pairs, [], []⟩,
  ⟨fun K => He.ga K "_law_order_right", "_law_order_right", "_law_order_right", defArgs s_law_order_right, defBody s_law_order_right, defScope s_law_order_right, [], []⟩,
  ⟨fun K => He.ga K "_law_more_right", "_law_more_right", "_law_more_right", defArgs s_law_more_right, defBody s_law_more_right, defScope s_law_more_right, [], []⟩,
  ⟨fun K => He.ga K "law", "law", "law", defArgs s_law, defBody s_law, defScope s_law, [], []⟩,
  ⟨fun K => He.ma K (He.ga K "Table") "__init__", "__init__", "Table.__init__", defArgs s_Table_init, defBody s_Table_init, defScope s_Table_init, [], []⟩,
  ⟨fun K => He5.wf K (He.ga K "Table") "property" "rows", "rows", "Table.rows", defArgs s_Table_rows, defBody s_Table_rows, defScope s_Table_rows, [], []⟩,
  ⟨fun K => He.ma K (He.ga K "Table") "__getitem__", "__getitem__", "Table.__getitem__", defArgs s_Table_getitem, defBody s_Table_getitem, defScope s_Table_getitem, [], []⟩,
  ⟨fun K => He.ma K (He.ga K "Table") "__contains__", "__contains__", "Table.__contains__", defArgs s_Table_contains, defBody s_Table_contains, defScope s_Table_contains, [], []⟩,
  ⟨fun K => He.ma K (He.ga K "Table") "__add__", "__add__", "Table.__add__", defArgs s_Table_add, defBody s_Table_add, defScope s_Table_add, [], []⟩,
  ⟨fun K => He.ma K (He.ga K "Outcome") "__init__", "__init__", "Outcome.__init__", defArgs s_Outcome_init, defBody s_Outcome_init, defScope s_Outcome_init, [], []⟩,
  ⟨fun K => He5.wf K (He.ga K "Outcome") "property" "left", "left", "Outcome.left", defArgs s_Outcome_left, defBody s_Outcome_left, defScope s_Outcome_left, [], []⟩,
  ⟨fun K => He5.wf K (He.ga K "Outcome") "property" "held", "held", "Outcome.held", defArgs s_Outcome_held, defBody s_Outcome_held, defScope s_Outcome_held, [], []⟩,
  ⟨fun K => He.ma K (He.ga K "Outcome") "__len__", "__len__", "Outcome.__len__", defArgs s_Outcome_len, defBody s_Outcome_len, defScope s_Outcome_len, [], []⟩,
  ⟨fun K => He.ma K (He.ga K "Replace") "halts", "halts", "Continues.halts", defArgs s_Continues_halts, defBody s_Continues_halts, defScope s_Continues_halts, [], []⟩,
  ⟨fun K => He.ma K (He.ga K "Replace") "settle", "settle", "Removes.settle", defArgs s_Removes_settle, defBody s_Removes_settle, defScope s_Removes_settle, [], []⟩,
  ⟨fun K => He.ma K (He.ga K "Replace") "__call__", "__call__", "Rule.__call__", defArgs s_Rule_call, defBody s_Rule_call, defScope s_Rule_call, [], []⟩]
def faL : List He.Fa := [
  .free "isinstance",
  .free "int",
  .free "bool",
  .free "tuple",
  .free "list",
  .free "len",
  .free "all",
  .free "any",
  .free "zip",
  .free "sorted",
  .free "set",
  .free "sum",
  .free "max",
  .free "min",
  .free "range",
  .free "enumerate",
  .glo "is_integer",
  .glo "is_key",
  .glo "is_row",
  .glo "is_ascending",
  .glo "checked_rows",
  .glo "more_rows",
  .glo "keys_of",
  .glo "need_table",
  .glo "need_row",
  .glo "is_set",
  .glo "need_rows",
  .glo "is_order",
  .glo "need_order",
  .glo "waited",
  .glo "path_of",
  .glo "end_of",
  .glo "path",
  .glo "rings_of",
  .glo "by_new",
  .glo "waiting_for",
  .glo "is_still",
  .glo "wanted_keys",
  .glo "pure_rings",
  .glo "is_cover",
  .glo "branch_counts",
  .glo "ring_count",
  .glo "count_covers",
  .glo "struck",
  .glo "single_ends",
  .glo "pieces_of",
  .glo "least_with",
  .glo "first_cover",
  .glo "is_kept_right",
  .glo "is_left",
  .glo "can_be_left",
  .glo "arriving",
  .glo "order_leaving",
  .glo "left_fate",
  .glo "can_be_held",
  .glo "count_held",
  .glo "most_left",
  .glo "fewest_left",
  .glo "keys_of_piece",
  .glo "is_piece",
  .glo "shows_fewest",
  .glo "holder_of",
  .glo "_law_cell_at",
  .glo "_law_pen",
  .glo "_law_draw",
  .glo "_law_pick",
  .glo "_law_mixed",
  .glo "_law_pairs",
  .glo "_law_order_right",
  .glo "_law_more_right",
  .glo "law",
  .glo "Table",
  .glo "Outcome",
  .glo "Replace",
  .int "KEY_BOUND" 1000000000000000000000000000000,
  .int "MOST_ROWS" 40,
  .cls "Table",
  .cls "Outcome",
  .cls "Replace",
  .noat "Table" "wants",
  .noat "Outcome" "triple",
  .mkr "Table",
  .mkr "Outcome",
  .meth "Table" "__getitem__",
  .meth "Table" "__contains__",
  .meth "Table" "__add__",
  .meth "Outcome" "__len__",
  .meth "Replace" "halts",
  .meth "Replace" "settle",
  .meth "Replace" "__call__",
  .keep "Replace"]
def propB (K : PySem.W.Frag) (x m : Str) : Bool :=
  He.eqO (PySem.W.findIn K (.ref (He.ga K x)) m) (some (some (.ref (He.ma K (He.ga K x) m)))) && (He.eqO (PySem.W.specialIn K (.ref (He.ma K (He.ga K x) m)) "__get__") (some (some (.builtin "property.__get__"))) &&
   (decide (PySem.W.takesIn K (.ref (He.ma K (He.ga K x) m)) = some true) && (match PySem.W.recIn K (He.ma K (He.ga K x) m) "property" with
     | some (.ref f :: _) => decide (f = He5.wf K (He.ga K x) "property" m)
     | _ => false)))
def exB (K : PySem.W.Frag) : Bool :=
  propB K "Table" "rows" && (propB K "Outcome" "left" && (propB K "Outcome" "held" &&
  (decide (PySem.W.kitOne K (.type "tuple") (.ref (He.ga K "Table")) = some false) && (decide (PySem.W.kitOne K (.ref (He.ga K "Table")) (.ref (He.ga K "Table")) = some true) &&
  (PySem.W.selfFirst K (He.ga K "Table") && (PySem.W.noSeq K (He.ga K "Table") && (PySem.W.makesIn K (He.ga K "Replace") && (He.eqO (PySem.W.findIn K (.ref (He.ga K "Replace")) "__init__") (some (some (.builtin "object.__init__")))
   && (PySem.W.fnIn K (He.ma K (He.ga K "Table") "__getitem__") && (PySem.W.fnIn K (He.ma K (He.ga K "Replace") "__call__") &&
   (He.eqO (PySem.W.findIn K (.ref (He.ga K "Table")) "__class__") (some (some (.builtin "object.__class__"))) && (He.eqO (PySem.W.specialIn K (.builtin "object.__class__") "__get__") (some (some (.builtin "getset_descriptor.__get__"))) &&
   (decide (PySem.W.takesIn K (.builtin "object.__class__") = some true) && decide (PySem.W.mroIn K (He.ga K "Table") (.type "object") = some true))))))))))))))
structure Says (K : PySem.W.Frag) : Prop where
  a : He5.SaysA faL fnL K
  ex : exB K = true
structure Txt (K : PySem.W.Frag) (mg : Str → Option Value) : Prop where
  s : Says K
  g : ∃ h : Heap, K.In h ∧ h.Ns mainGlobals mg
section
variable {P : Program} {w : World} {K : PySem.W.Frag} {mg : Str → Option Value} {base : Heap}
theorem Txt.free (T : Txt K mg) (i : Nat) {x : Str} (h : faL[i]? = some (.free x) := by rfl) : mg x = none := let ⟨_, hK, G⟩ := T.g; He.free_ok hK G (T.s.a.fact i (f := .free x) h)
theorem Txt.glo (T : Txt K mg) (i : Nat) {x : Str} (h : faL[i]? = some (.glo x) := by rfl) : mg x = some (.ref (He.ga K x)) := let ⟨_, hK, G⟩ := T.g; He.glo_ok hK G (T.s.a.fact i (f := .glo x) h)
theorem Txt.int (T : Txt K mg) (i : Nat) {x : Str} {n : Int} (h : faL[i]? = some (.int x n) := by rfl) : ∃ t, mg x = some (.int n t) := let ⟨_, hK, G⟩ := T.g; He.int_ok hK G (T.s.a.fact i (f := .int x n) h)
theorem Txt.def_ (T : Txt K mg) (i : Nat) {at_ : PySem.W.Frag → Addr} {nm q : Str} {st : Stmt} (h : fnL[i]? = some ⟨at_, nm, q, defArgs st, defBody st, defScope st, [], []⟩ := by rfl) : ∃ fd, Fun K nm q st (at_ K) fd := by
  obtain ⟨fd, F⟩ := T.s.a.def_ i h
  exact ⟨fd, He5.fun_of F⟩
def stG (N : List Str) (ts : List Ty) : Gm := ts.map (fun t => some (.ty t)) ++ List.replicate (N.length - ts.length) none
theorem start_sa {N : List Str} {B H : Hp} : ∀ {vs : List V} {ts : List Ty}, Same B H → Args B vs ts → ts.length ≤ N.length → Sa (stG N ts) (start N vs) H B := fun {vs ts} sm ar hl => by
  refine ⟨?_, sm, ?_⟩
  · unfold stG L2.start
    simp [ar.length]
  · have key : ∀ {vs : List V} {ts : List Ty} (n : Nat), Args B vs ts → ∀ (i : Nat) (t : Ty), (ts.map (fun t => some (Sl.ty t)) ++ List.replicate n none)[i]? = some (some (Sl.ty t)) → ∃ v, (vs.map some ++ List.replicate n none)[i]? = some (some v) ∧ t.R v B := by
      intro vs ts n ar
      induction ar with
      | nil =>
        intro i t e
        simp only [List.map_nil, List.nil_append] at e
        rw [List.getElem?_replicate] at e
        split at e
        · cases e
        · cases e
      | cons h _ ih =>
        intro i t e
        cases i with
        | zero => simp at e; subst e; exact ⟨_, by simp, h⟩
        | succ i =>
          obtain ⟨v, h1, h2⟩ := ih i t (by simpa using e)
          exact ⟨v, by simpa using h1, h2⟩
    intro i t e
    have := key (N.length - ts.length) ar i t e
    unfold L2.start
    rw [ar.length]
    exact this
theorem stG_own {N : List Str} {ts : List Ty} {i : Nat} {o : Osp} (e : (stG N ts)[i]? = some (some (.own o))) : False := by
  unfold stG at e
  rcases List.getElem?_append (l₁ := ts.map fun t => some (Sl.ty t)) ▸ e with e
  split at e
  · rw [List.getElem?_map] at e
    cases q : ts[i]? with
    | none => rw [q] at e; cases e
    | some t => rw [q] at e; cases e
  · rw [List.getElem?_replicate] at e
    split at e <;> cases e
/-- a def of the text keeps its promise if its body does -/
theorem Txt.typed {nm q : Str} {st : Stmt} {N ps : List Str} {k : Nat} {A : Type} {ts : A → List Ty} {pre : A → Prop} {tc : A → Ty} {at_ : PySem.W.Frag → Addr} (T : Txt K mg) (i : Nat) (S : FnScope N ps (defScope st)) (hl : ∀ a, (ts a).length = ps.length)
    (hf : fnL[i]? = some ⟨at_, nm, q, defArgs st, defBody st, defScope st, [], []⟩)
    (body : ∀ (f : Addr) (cdv : Value) (Ar : Around) (outer : List Env) (s : Shared) (H : Hp) (E : XK) (a : A), pre a → Room k (Ar.deeper (PyProof.Rows.envOfC q (defScope st) s.heap.objs.size f cdv)) →
      GS (cxOf CX0 P w K mg base N q (defScope st) f cdv Ar outer s H E).nox (stG N (ts a)) (defBody st) (fun _ => tc a = tN) nev nev (tc a)) : ∃ fd, Fun K nm q st (at_ K) fd ∧ FnOk P w K mg base CX0 (k + 1) (at_ K) fd ps (spT ts pre tc) := by
  obtain ⟨fd, F⟩ := T.def_ i hf
  refine ⟨fd, F, F.ok S (fun vs H Q E h => ?_) (fun cdv A outer s H vs Q E hr h => ?_)⟩
  · obtain ⟨a, B, _, _, ar, _⟩ := h
    rw [ar.length, hl a]
  · obtain ⟨a, B, hp, sm, ar, q⟩ := h
    have hN : ps.length ≤ N.length := by
      have := congrArg List.length S.pre
      rw [List.length_take] at this
      omega
    exact ⟨_, body _ cdv A outer s H E a hp hr, H, B, B, B, ⟨start_sa sm ar (by rw [hl a]; exact hN), Stp.refl sm, .refl _, fun _ _ e => (stG_own e).elim, fun _ _ _ _ _ e => (stG_own e).elim⟩,
      fun Γ' σ' H' B' ht s' => q .non H' B' s'.sp (by rw [ht]; exact .non), fun _ _ _ _ z => z.elim, fun _ _ _ _ z => z.elim, fun v H' B' s1 r => q v H' B' s1 r⟩
theorem DefT.top {x : Str} {st : Stmt} {N ps : List Str} {k : Nat} {A : Type} {ts : A → List Ty} {pre : A → Prop} {tc : A → Ty} (T : Txt K mg) (i j : Nat) (S : FnScope N ps (defScope st))
    (hb : ∀ (kV doc pm : Value) (an : Option Addr) (cdv ct : Value) (us : List Value), us.length = ps.length → bindArgs (PySem.W.fnOf x x (defArgs st) (defBody st) (defScope st) .none kV doc pm an cdv ct) ⟨us, []⟩ = pure (ps.zip us)) (hl : ∀ a, (ts a).length = ps.length)
    (body : ∀ (f : Addr) (cdv : Value) (Ar : Around) (outer : List Env) (s : Shared) (H : Hp) (E : XK) (a : A), pre a → Room k (Ar.deeper (PyProof.Rows.envOfC x (defScope st) s.heap.objs.size f cdv)) →
      GS (cxOf CX0 P w K mg base N x (defScope st) f cdv Ar outer s H E).nox (stG N (ts a)) (defBody st) (fun _ => tc a = tN) nev nev (tc a))
    (hf : fnL[i]? = some ⟨fun K => He.ga K x, x, x, defArgs st, defBody st, defScope st, [], []⟩ := by rfl) (hj : faL[j]? = some (.glo x) := by rfl) : DefT P w K mg base x (k + 1) ts pre tc := by
  obtain ⟨fd, F, h⟩ := T.typed i S hl hf body
  exact ⟨_, fd, ps, h, T.glo j hj, F.kp, F.binds hb⟩
/-- a method -/
theorem FnT.top {nm q : Str} {st : Stmt} {N ps : List Str} {k : Nat} {A : Type} {ts : A → List Ty} {pre : A → Prop} {tc : A → Ty} {at_ : PySem.W.Frag → Addr} (T : Txt K mg) (i : Nat) (S : FnScope N ps (defScope st))
    (hb : ∀ (kV doc pm : Value) (an : Option Addr) (cdv ct : Value) (us : List Value), us.length = ps.length → bindArgs (PySem.W.fnOf nm q (defArgs st) (defBody st) (defScope st) .none kV doc pm an cdv ct) ⟨us, []⟩ = pure (ps.zip us)) (hl : ∀ a, (ts a).length = ps.length)
    (body : ∀ (f : Addr) (cdv : Value) (Ar : Around) (outer : List Env) (s : Shared) (H : Hp) (E : XK) (a : A), pre a → Room k (Ar.deeper (PyProof.Rows.envOfC q (defScope st) s.heap.objs.size f cdv)) →
      GS (cxOf CX0 P w K mg base N q (defScope st) f cdv Ar outer s H E).nox (stG N (ts a)) (defBody st) (fun _ => tc a = tN) nev nev (tc a))
    (hf : fnL[i]? = some ⟨at_, nm, q, defArgs st, defBody st, defScope st, [], []⟩ := by rfl) : FnR P w K mg base CX0 (k + 1) (at_ K) (spT ts pre tc) := by
  obtain ⟨fd, F, h⟩ := T.typed i S hl hf body
  exact (h.raw (F.binds hb) .nil).imp fun vs H Q E z => by rw [List.append_nil]; exact z
end
end Rk
/-! part M1 -/
namespace Rk
/-! ### rows: pairs (key, new key), ascending by their keys -/
abbrev Rows := List (Int × Int)
def keys (R : Rows) : List Int := R.map (·.1)
def nw (R : Rows) (k : Int) : Int := (R.lookup k).getD 0
def B30 : Int := 1000000000000000000000000000000
def inB (k : Int) : Prop := -B30 < k ∧ k < B30
structure WF (R : Rows) : Prop where
  asc : R.Pairwise (fun a b => a.1 < b.1)
  bnd : ∀ r ∈ R, inB r.1 ∧ inB r.2
  len : R.length ≤ 40
theorem lookup_some {R : Rows} {k n : Int} (h : R.lookup k = some n) : (k, n) ∈ R := by
  induction R with
  | nil => cases h
  | cons r R ih =>
    rw [List.lookup_cons] at h
    by_cases e : k = r.1
    · subst e
      simp at h
      subst h
      exact List.mem_cons_self
    · have : (k == r.1) = false := by simpa using e
      rw [this] at h
      exact List.mem_cons_of_mem _ (ih h)
theorem lookup_none {R : Rows} {k : Int} : R.lookup k = none ↔ k ∉ keys R := by
  induction R with
  | nil => simp [keys]
  | cons r R ih =>
    rw [List.lookup_cons]
    by_cases e : k = r.1
    · subst e; simp [keys]
    · have : (k == r.1) = false := by simpa using e
      rw [this]
      simp only [keys, List.map_cons, List.mem_cons, not_or] at ih ⊢
      exact ⟨fun h => ⟨e, ih.mp h⟩, fun h => ih.mpr h.2⟩
theorem WF.nodup {R : Rows} (w : WF R) : (keys R).Nodup := by
  unfold keys
  refine List.pairwise_map.mpr (w.asc.imp ?_)
  intro a b h e
  rw [e] at h
  exact absurd h (Int.lt_irrefl _)
theorem lookup_of_mem {R : Rows} (h : (keys R).Nodup) {k n : Int} (m : (k, n) ∈ R) : R.lookup k = some n := by
  induction R with
  | nil => cases m
  | cons r R ih =>
    rw [List.lookup_cons]
    simp only [keys, List.map_cons, List.nodup_cons] at h
    rcases List.mem_cons.mp m with e | m
    · subst e; simp
    · have hk : k ∈ R.map (·.1) := List.mem_map.mpr ⟨_, m, rfl⟩
      have : (k == r.1) = false := by
        simp only [beq_eq_false_iff_ne]
        exact fun e => h.1 (e ▸ hk)
      rw [this]
      exact ih h.2 m
theorem lookup_perm {l R : Rows} (hp : l.Perm R) (h : (keys R).Nodup) (k : Int) : l.lookup k = R.lookup k := by
  have hl : (keys l).Nodup := (hp.map _).nodup_iff.mpr h
  cases e : R.lookup k with
  | none =>
    refine lookup_none.mpr fun m => lookup_none.mp e ?_
    exact (hp.map _).mem_iff.mp m
  | some n => exact lookup_of_mem hl (hp.mem_iff.mpr (lookup_some e))
theorem mem_keys {R : Rows} {k : Int} : k ∈ keys R ↔ ∃ n, (k, n) ∈ R := by
  unfold keys
  rw [List.mem_map]
  exact ⟨fun ⟨⟨a, b⟩, h, e⟩ => ⟨b, e ▸ h⟩, fun ⟨n, h⟩ => ⟨_, h, rfl⟩⟩
theorem nw_of_mem {R : Rows} (w : WF R) {k n : Int} (m : (k, n) ∈ R) : nw R k = n := by
  unfold nw
  rw [lookup_of_mem w.nodup m]
  rfl
theorem lookup_nw {R : Rows} {k : Int} (h : k ∈ keys R) : R.lookup k = some (nw R k) := by
  unfold nw
  cases e : R.lookup k with
  | none => exact absurd h (lookup_none.mp e)
  | some n => rfl
theorem mem_nw {R : Rows} {k : Int} (h : k ∈ keys R) : (k, nw R k) ∈ R := lookup_some (lookup_nw h)
end Rk
/-! part D2 -/
namespace Rk
open PySem PySem.Spec L2
/-! ### tables, dicts -/
def tabK (l : Rows) : List (Key × V) := l.map fun p => (Sum.inl p.1, V.int p.2)
theorem valV_tabK (l : Rows) (k : Int) : valV (tabK l) (Sum.inl k : Key) = (l.lookup k).map V.int := by
  induction l with
  | nil => rfl
  | cons r l ih =>
    unfold valV tabK at ih ⊢
    rw [List.map_cons, List.find?_cons, List.lookup_cons]
    by_cases e : k = r.1
    · subst e; simp
    · have h1 : decide ((Sum.inl r.1 : Key) = Sum.inl k) = false := decide_eq_false fun z => e (Sum.inl.inj z).symm
      have h2 : (k == r.1) = false := by simpa using e
      rw [h1, h2]
      exact ih
theorem rd_same {H H' : Hp} {a : Addr} {u : HO} (e : Same H H') (h : Rd H a u) : Rd H' a u := h.elim (fun h => .inl (e _ _ h)) fun ⟨o, h⟩ => .inr ⟨o, e _ _ h⟩
/-- a table, its dict locked or not -/
def tTabR (C : Addr) (R : Rows) : Ty := ⟨fun v H => WF R ∧ ∃ a dx d l, v = .ref a ∧ H a = some (.ins C dx [("wants", .ref d)]) ∧ Rd H d (.dK (tabK l)) ∧ l.Perm R, fun e ⟨h0, a, dx, d, l, h1, h2, h3, h4⟩ => ⟨h0, a, dx, d, l, h1, e _ _ h2, rd_same e h3, h4⟩⟩
def tTab (C : Addr) (R : Rows) : Ty := ⟨fun v H => WF R ∧ ∃ a dx d l, v = .ref a ∧ H a = some (.ins C dx [("wants", .ref d)]) ∧ H d = some (.dK (tabK l)) ∧ l.Perm R, fun e ⟨h0, a, dx, d, l, h1, h2, h3, h4⟩ => ⟨h0, a, dx, d, l, h1, e _ _ h2, e _ _ h3, h4⟩⟩
/-- a dict of numbers' data, by what it answers -/
theorem tab_r {C : Addr} {R : Rows} (v : V) (B : Hp) (h : (tTab C R).R v B) : (tTabR C R).R v B := let ⟨h0, a, dx, d, l, h1, h2, h3, h4⟩ := h; ⟨h0, a, dx, d, l, h1, h2, .inl h3, h4⟩
def tDK (f : Int → Option PyData) : Ty := ⟨fun v H => ∃ d kvs, v = .ref d ∧ Rd H d (.dK kvs) ∧ ∀ k : Int, (f k = none → valV kvs (Sum.inl k : Key) = none) ∧ ∀ x, f k = some x → ∃ u, valV kvs (Sum.inl k : Key) = some u ∧ Dv H u x,
  fun e ⟨d, kvs, h1, h2, h3⟩ => ⟨d, kvs, h1, rd_same e h2, fun k => ⟨(h3 k).1, fun x q => let ⟨u, a, b⟩ := (h3 k).2 x q; ⟨u, a, b.mono e⟩⟩⟩⟩
section
variable {X : Cx} {Γ : Gm} {e i o : Expr} {R : Rows} {C : Addr} {f : Int → Option PyData} {k : Int} {d : PyData} {pos p : Pos}
theorem EV.wants (h : EV X Γ e (tTabR C R)) (c : Cls X.K C) (n : NoAttr X.K C "wants") (hb : attributeBase e "wants" X.env (eval e X.env) = eval e X.env := by rfl) : EV X Γ (.Attribute e "wants" pos) (tDK fun k => (R.lookup k).map .int) :=
  EV.of (pe_fld h hb) fun σ H B Q sa q => ⟨B, sa, fun v H' B' s r => by
    obtain ⟨w, a, dx, d, l, rfl, h1, h2, h3⟩ := r
    refine ⟨a, C, dx, _, .ref d, rfl, s.s _ _ h1, c, n, rfl, q _ _ _ s ⟨d, tabK l, rfl, h2, fun k => ?_⟩⟩
    show ((R.lookup k).map PyData.int = none → _) ∧ ∀ x, (R.lookup k).map PyData.int = some x → _
    rw [valV_tabK, lookup_perm h3 w.nodup]
    cases R.lookup k with
    | none => exact ⟨fun _ => rfl, fun x z => by cases z⟩
    | some n => exact ⟨fun z => by (cases z), fun x z => by cases z; exact ⟨_, rfl, .int n⟩⟩⟩
theorem dk_get {v : V} {H : Hp} (h : (tDK f).R v H) (k : Int) : ∃ a o, v = .ref a ∧ DGet H a (.int k) o ∧ (o.isSome = (f k).isSome) ∧ ∀ d, f k = some d → ∃ u, o = some u ∧ Dv H u d := by
  obtain ⟨a, kvs, rfl, h1, h2⟩ := h
  refine ⟨a, _, rfl, .inl ⟨kvs, Sum.inl k, h1, rfl, rfl⟩, ?_, fun d e => ?_⟩
  · cases e : f k with
    | none => rw [(h2 k).1 e]; rfl
    | some d => obtain ⟨u, h3, _⟩ := (h2 k).2 d e; rw [h3]; rfl
  · obtain ⟨u, h3, h4⟩ := (h2 k).2 d e; exact ⟨u, h3, h4⟩
theorem dget_same {H H' : Hp} {a : Addr} {y : V} {o : Option V} (e : Same H H') (h : DGet H a y o) : DGet H' a y o := by
  have rdm : ∀ u, Rd H a u → Rd H' a u := fun u h => h.elim (fun h => .inl (e _ _ h)) fun ⟨o, h⟩ => .inr ⟨o, e _ _ h⟩
  rcases h with ⟨kvs, k, h1, h2, h3⟩ | ⟨kvs, k, b, h1, h2, h3, h4⟩
  · exact .inl ⟨kvs, k, rdm _ h1, h2, h3⟩
  · exact .inr ⟨kvs, k, b, rdm _ h1, h2, e _ _ h3, h4⟩
theorem EV.din (hu : X.A.units + 1 < cLine) (hi : EV X Γ i (tI k)) (ho : EV X Γ o (tDK f)) (hm : behindInMarks .In o = false := by rfl) : EV X Γ (.Compare i [.In] [o] pos) (tB (f k).isSome) :=
  EV.of (pe_cmp (pc_din hu hi ho) hm) fun σ H B Q sa q => rd.two sa fun x y H' B' s rx ry => by
    cases tI_R rx
    obtain ⟨a, o, rfl, h1, h2, _⟩ := dk_get ry k
    exact ⟨a, o, rfl, dget_same s.s h1, q _ _ _ s (h2 ▸ .bl _)⟩
theorem CT.din (hu : X.A.units + 1 < cLine) (hi : EV X Γ i (tI k)) (ho : EV X Γ o (tDK f)) (hm : behindInMarks .In o = false := by rfl) : CT X Γ (.Compare i [.In] [o] pos) (f k).isSome :=
  PT.imp (pt_cmp (pc_din hu hi ho) hm) fun σ H Q ⟨B, sa, q⟩ => rd.two sa fun x y H' B' s rx ry => by
    cases tI_R rx
    obtain ⟨a, o, rfl, h1, h2, _⟩ := dk_get ry k
    exact ⟨a, o, rfl, dget_same s.s h1, _, rfl, h2 ▸ q _ _ s⟩
theorem EV.dget (hu : X.A.units + 1 < cLine) (ho : EV X Γ o (tDK f)) (hi : EV X Γ i (tI k)) (h : f k = some d) (hs : NoSl i := by exact fun _ _ => rfl) : EV X Γ (.Subscript o i pos) (tD d) :=
  EV.of (pe_dget hu ho hi hs) fun σ H B Q sa q => rd.two sa fun x y H' B' s rx ry => by
    cases tI_R ry
    obtain ⟨a, o, rfl, h1, _, h3⟩ := dk_get rx k
    obtain ⟨u, rfl, h4⟩ := h3 d h
    exact ⟨a, u, rfl, dget_same s.s h1, q _ _ _ s h4⟩
/-! ### methods -/
abbrev FnT (X : Cx) (f : Addr) (k : Nat) {A : Type} (ts : A → List Ty) (pre : A → Prop) (tc : A → Ty) : Prop := FnR X.prog X.w X.K X.mg X.base CX0 k f (spT ts pre tc)
section
variable {A : Type} {ts : A → List Ty} {pre : A → Prop} {tc : A → Ty} {f : Addr} {k : Nat}
theorem FnT.go {pins : List (Addr × Obj)} {σ : St} {H B : Hp} {s : Shared} {Ar : Around} {us : List Value} {vs : List V} {Q : VK} (F : FnT X f k ts pre tc) (hr : Room k Ar) (e0 : Env0 X.prog X.w X.K X.mg X.base Ar X.stack s H) (I : Inv X pins σ H s) (r : Vals vs us)
    (a : A) (hp : pre a) (sm : Same B H) (ar : Args B vs (ts a)) (q : ∀ v H' B', Stp H B H' B' → (tc a).R v B' → Q v H') : wpAny (model X.prog X.w) Ar (call (.ref f) us) (EP X pins σ Q) X.xe s := by
  refine wpAny_call (codeAny_mono (F Ar X.stack s H us vs Q E0 hr e0 r ⟨a, B, hp, sm, ar, q⟩) fun r s' hq => ?_)
  cases r with
  | error e => exact False.elim hq
  | ok fl =>
    cases fl with
    | ret u => exact I.after hq
    | next => exact False.elim hq
    | brk => exact False.elim hq
    | cont => exact False.elim hq
theorem tab_inst {pins : List (Addr × Obj)} {σ : St} {H B : Hp} {s : Shared} {v : V} {u : Value} (I : Inv X pins σ H s) (sm : Same B H) (r : (tTabR C R).R v B) (rv : RelV v u) : ∃ a od, v = .ref a ∧ u = .ref a ∧ ∃ dx, PySem.W.InstAt s.heap a (PySem.W.instObj C dx) C (some od) := by
  obtain ⟨_, a, dx, d, l, rfl, h1, _⟩ := r
  obtain ⟨mA, O, _⟩ := ins_get I.hok (sm _ _ h1)
  obtain ⟨od, J, _⟩ := O.look
  exact ⟨a, od, rfl, rv, dx, J⟩
theorem Opt.impR {g : Value → Value → Sem Value} {ta tb tb' tc : Ty} (h : Opt X g ta tb' tc) (k : ∀ v B, tb.R v B → tb'.R v B) : Opt X g ta tb tc := fun pins s σ H x y v u Q I rx ry ⟨B, sm, r1, r2, q⟩ => h pins s σ H x y v u Q I rx ry ⟨B, sm, r1, k _ _ r2, q⟩
/-- k in table, k not in table -/
theorem o_inTab {b : Bool} {k : Int} (m : Meth X.K C "__contains__" f) {n : Nat} {ts : A → List Ty} {pre : A → Prop} {tc : A → Ty} (F : FnT X f n ts pre tc) (hr : Room n X.A) (a : A) (hp : pre a) (hts : ts a = [tTabR C R, tI k]) (htc : tc a = tB b) : Opt X (compareOp .In) (tI k) (tTabR C R) (tB b) := by
  rintro pins s σ H x y v u Q I rx ry ⟨B, sm, tx, ty, q⟩
  obtain ⟨ad, od, rfl, rfl, dx, J⟩ := tab_inst I sm ty ry
  obtain ⟨mm, fr⟩ := I.fr
  refine PySem.W.in_K fr I.ok.mod.kin J m.at_ m.fn (thn (F.go (vs := [V.ref ad, x]) hr I.env0 I (Paired.cons (show RelV (V.ref ad) (Value.ref ad) from rfl) (Paired.cons rx Paired.nil)) a hp sm (by rw [hts]; exact .cons ty (.cons tx .nil)) (Q := fun v H' => v = .bl b ∧ Q v H') fun v H' B' s1 r1 => ⟨tB_R (htc ▸ r1), q v H' B' s1 (htc ▸ r1)⟩) fun r s' ⟨v', H', I', rv, e, q'⟩ => ?_)
  subst e
  cases rv
  exact wpAny_truthy_bool ⟨.bl _, H', I', rfl, q'⟩
theorem o_niTab {b : Bool} {k : Int} (m : Meth X.K C "__contains__" f) {n : Nat} {ts : A → List Ty} {pre : A → Prop} {tc : A → Ty} (F : FnT X f n ts pre tc) (hr : Room n X.A) (a : A) (hp : pre a) (hts : ts a = [tTabR C R, tI k]) (htc : tc a = tB b) : Opt X (compareOp .NotIn) (tI k) (tTabR C R) (tB (!b)) := by
  rintro pins s σ H x y v u Q I rx ry ⟨B, sm, tx, ty, q⟩
  obtain ⟨ad, od, rfl, rfl, dx, J⟩ := tab_inst I sm ty ry
  obtain ⟨mm, fr⟩ := I.fr
  refine PySem.W.notIn_K fr I.ok.mod.kin J m.at_ m.fn (thn (F.go (vs := [V.ref ad, x]) hr I.env0 I (Paired.cons (show RelV (V.ref ad) (Value.ref ad) from rfl) (Paired.cons rx Paired.nil)) a hp sm (by rw [hts]; exact .cons ty (.cons tx .nil)) (Q := fun v H' => v = .bl b ∧ Q (.bl (!b)) H') fun v H' B' s1 r1 => ⟨tB_R (htc ▸ r1), q _ H' B' s1 (.bl _)⟩) fun r s' ⟨v', H', I', rv, e, q'⟩ => ?_)
  subst e
  cases rv
  exact wpAny_truthy_bool ⟨.bl _, H', I', rfl, q'⟩
/-- table[k] -/
theorem EV.subTab {k : Int} {t : Ty} (ho : EV X Γ o (tTab C R)) (hi : EV X Γ i (tI k)) (m : Meth X.K C "__getitem__" f) (hfi : PySem.W.fnIn X.K f = true) {n : Nat} {ts : A → List Ty} {pre : A → Prop} {tc : A → Ty} (F : FnT X f n ts pre tc) (hr : Room (n + 1) X.A) (a : A) (hp : pre a) (hts : ts a = [tTab C R, tI k]) (htc : tc a = t)
    (hsl : ∀ x v, subscripted i true (.ref x) v = runValue (.builtin "lifetime.subscript" ⟨[.ref x, v], []⟩) := by intro _ _; with_unfolding_all rfl) : EV X Γ (.Subscript o i pos) t := by
  refine ⟨fun pins s σ H Q I ⟨B, sa, q⟩ => PyProof.Rows.Subscript_ (binT ho hi I (R := fun x y H' => ∃ B', Stp H B H' B' ∧ (tTab C R).R x B' ∧ (tI k).R y B') (rd.two sa fun x y H' B' s1 rx ry => ⟨B', s1, rx, ry⟩) fun v u s2 x y H2 I2 rx ry ⟨B2, s1, tx, ty⟩ => ?_)⟩
  obtain ⟨ad, od, rfl, rfl, dx, J⟩ := tab_inst I2 s1.s (tab_r _ _ tx) rx
  obtain ⟨mm, fr⟩ := I2.fr
  exact PySem.W.sub_K fr I2.ok.mod.kin J m.at_ hfi m.fn (F.go (Q := Q) (vs := [V.ref ad, y]) hr.in1 I2.env0.in1 I2 (Paired.cons (show RelV (V.ref ad) (Value.ref ad) from rfl) (Paired.cons ry Paired.nil)) a hp s1.s (by rw [hts]; exact .cons tx (.cons ty .nil)) fun v H' B' s3 r3 => q v H' B' (s1.trans s3) (htc ▸ r3)) (hsl _ _)
end
/-- isinstance -/
theorem c_isiI {n : String} {j : Int} {b : Bool} (h : kitB "int" n = some b) : Clt X (.builtin "isinstance") [tI j, tV (.ty n)] (tB b) :=
  Clt.of call_isi fun vs H B Q sm ar q => by
    obtain ⟨v, w, rfl, h1, h2⟩ := ar.two
    obtain rfl : w = .ty n := h2
    cases tI_R h1
    exact ⟨_, _, _, _, b, rfl, .ty n, .base (.int j), kit_ty h, q _ _ _ (Stp.refl sm) (.bl b)⟩
theorem c_isiT {n : String} {ds : List PyData} {b : Bool} (h : kitB "tuple" n = some b) : Clt X (.builtin "isinstance") [tD (.tuple ds), tV (.ty n)] (tB b) :=
  Clt.of call_isi fun vs H B Q sm ar q => by
    obtain ⟨v, w, rfl, h1, h2⟩ := ar.two
    obtain rfl : w = .ty n := h2
    obtain ⟨a, xs, rfl, k1, k2, k3⟩ := tT_R h1
    exact ⟨_, _, _, _, b, rfl, .ty n, .base (.tup (sm _ _ k1)), kit_ty h, q _ _ _ (Stp.refl sm) (.bl b)⟩
theorem EV.tyName {x : Str} {n : String} (hm : X.mg x = none) (hv : bootBuiltins x = some (.type n) := by decide +kernel) (hg : Gl X x := by rfl) (hn : x ≠ "__name__" := by decide) (hd : (x == ("__debug__" : Str)) = false := by decide) : EV X Γ (.Name x pos) (tV (.ty n)) :=
  EV.const (pe_bltn (v := .ty n) hg hm hv rfl hn hd) fun _ => rfl
end
end Rk
/-! part M2 -/
namespace Rk
/-! ### sorting -/
def leI (a b : Int) : Bool := decide (a ≤ b)
def srt (l : List Int) : List Int := l.mergeSort leI
theorem srt_perm (l : List Int) : (srt l).Perm l := List.mergeSort_perm l leI
theorem srt_le (l : List Int) : (srt l).Pairwise (· ≤ ·) := by
  have h := List.pairwise_mergeSort (le := leI) (fun a b c h1 h2 => by simp only [leI, decide_eq_true_eq] at *; omega) (fun a b => by simp only [leI, Bool.or_eq_true, decide_eq_true_eq]; omega) l
  exact h.imp fun h => by simpa [leI] using h
theorem srt_uniq {l m : List Int} (hp : m.Perm l) (hs : m.Pairwise (· ≤ ·)) : m = srt l :=
  List.Perm.eq_of_pairwise (fun a b _ _ h1 h2 => by omega) hs (srt_le l) (hp.trans (srt_perm l).symm)
theorem srt_id {l : List Int} (hs : l.Pairwise (· ≤ ·)) : srt l = l := (srt_uniq (List.Perm.refl l) hs).symm
theorem srt_congr {l m : List Int} (h : l.Perm m) : srt l = srt m := srt_uniq ((srt_perm l).trans h) (srt_le l)
theorem mem_srt {l : List Int} {a : Int} : a ∈ srt l ↔ a ∈ l := (srt_perm l).mem_iff
theorem srt_len (l : List Int) : (srt l).length = l.length := (srt_perm l).length_eq
def leP (a b : Int × Int) : Bool := decide (a.1 < b.1 ∨ (a.1 = b.1 ∧ a.2 ≤ b.2))
def srtP (l : List (Int × Int)) : List (Int × Int) := l.mergeSort leP
theorem srtP_perm (l : List (Int × Int)) : (srtP l).Perm l := List.mergeSort_perm l leP
theorem srtP_le (l : List (Int × Int)) : (srtP l).Pairwise fun a b => leP a b = true :=
  List.pairwise_mergeSort (le := leP) (fun a b c h1 h2 => by simp only [leP, decide_eq_true_eq] at *; omega) (fun a b => by simp only [leP, Bool.or_eq_true, decide_eq_true_eq]; omega) l
theorem srtP_uniq {l m : List (Int × Int)} (hp : m.Perm l) (hs : m.Pairwise fun a b => leP a b = true) : m = srtP l :=
  List.Perm.eq_of_pairwise (fun a b _ _ h1 h2 => by
    simp only [leP, decide_eq_true_eq] at *
    exact Prod.ext (by omega) (by omega)) hs (srtP_le l) (hp.trans (srtP_perm l).symm)
theorem srtP_rows {l R : Rows} (hp : l.Perm R) (w : WF R) : srtP l = R := by
  refine (srtP_uniq hp.symm (w.asc.imp ?_)).symm
  intro a b h
  simp only [leP, decide_eq_true_eq]
  omega
/-! distinct ones, ascending -/
def ded : List Int → List Int
  | [] => []
  | a :: l => if a ∈ l then ded l else a :: ded l
theorem mem_ded {a : Int} : ∀ {l : List Int}, a ∈ ded l ↔ a ∈ l
  | [] => by simp [ded]
  | b :: l => by
    unfold ded
    split
    · rename_i h
      rw [mem_ded]
      constructor
      · exact fun h => List.mem_cons_of_mem _ h
      · intro h'
        rcases List.mem_cons.mp h' with rfl | h'
        · exact h
        · exact h'
    · rw [List.mem_cons, List.mem_cons, mem_ded]
theorem nodup_ded : ∀ l : List Int, (ded l).Nodup
  | [] => List.nodup_nil
  | b :: l => by
    unfold ded
    split
    · exact nodup_ded l
    · rename_i h
      exact List.nodup_cons.mpr ⟨fun z => h (mem_ded.mp z), nodup_ded l⟩
theorem ded_len : ∀ l : List Int, (ded l).length ≤ l.length
  | [] => Nat.le_refl _
  | b :: l => by
    unfold ded
    split
    · exact Nat.le_succ_of_le (ded_len l)
    · exact Nat.succ_le_succ (ded_len l)
theorem ded_id : ∀ {l : List Int}, l.Nodup → ded l = l
  | [], _ => rfl
  | b :: l, h => by
    unfold ded
    rw [if_neg (List.nodup_cons.mp h).1, ded_id (List.nodup_cons.mp h).2]
/-- the set's members, ascending -/
def sset (l : List Int) : List Int := srt (ded l)
theorem mem_sset {a : Int} {l : List Int} : a ∈ sset l ↔ a ∈ l := mem_srt.trans mem_ded
theorem asc_of {l : List Int} (h : l.Pairwise (· ≤ ·)) (n : l.Nodup) : l.Pairwise (· < ·) := (h.and n).imp fun ⟨a, b⟩ => by omega
theorem sset_asc (l : List Int) : (sset l).Pairwise (· < ·) := asc_of (srt_le _) ((srt_perm _).nodup_iff.mpr (nodup_ded l))
theorem nodup_asc {l : List Int} (h : l.Pairwise (· < ·)) : l.Nodup := h.imp fun h e => by omega
theorem sset_nodup (l : List Int) : (sset l).Nodup := nodup_asc (sset_asc l)
theorem perm_of_mem {l m : List Int} (hl : l.Nodup) (hm : m.Nodup) (h : ∀ a, a ∈ l ↔ a ∈ m) : l.Perm m := (List.perm_ext_iff_of_nodup hl hm).mpr h
theorem asc_uniq {l m : List Int} (hl : l.Pairwise (· < ·)) (hm : m.Pairwise (· < ·)) (h : ∀ a, a ∈ l ↔ a ∈ m) : l = m :=
  List.Perm.eq_of_pairwise (le := fun a b => a ≤ b) (fun a b _ _ h1 h2 => by omega) (hl.imp fun h => by omega) (hm.imp fun h => by omega) (perm_of_mem (nodup_asc hl) (nodup_asc hm) h)
theorem sset_uniq {l m : List Int} (hl : l.Pairwise (· < ·)) (h : ∀ a, a ∈ l ↔ a ∈ m) : l = sset m := asc_uniq hl (sset_asc m) fun a => (h a).trans mem_sset.symm
theorem sset_len (l : List Int) : (sset l).length ≤ l.length := by unfold sset; rw [srt_len]; exact ded_len l
end Rk
/-! part D3 -/
namespace Rk
open PySem PySem.Spec L2
def dP (r : Int × Int) : PyData := .tuple [.int r.1, .int r.2]
abbrev dI (l : List Int) : PyData := .list (l.map .int)
abbrev dT (l : List Int) : PyData := .tuple (l.map .int)
abbrev dR (l : Rows) : PyData := .list (l.map dP)
section
variable {X : Cx} {Γ : Gm} {e i o : Expr} {R : Rows} {C : Addr} {f : Int → Option PyData} {k : Int} {d : PyData} {pos p : Pos}
theorem c_sortedL {ns : List Int} : Clt X (.builtin "sorted") [tD (dI ns)] (tD (dI (srt ns))) :=
  Clt.of cr_sortedI fun vs H B Q sm ar q => by
    obtain ⟨v, rfl, h⟩ := ar.one
    obtain ⟨a, xs, rfl, h1, h2, h3⟩ := tL_R h
    have hl := h3.length
    cases h3.ints
    refine ⟨a, ns, rfl, SqL.of (sm _ _ h1), fun ns' p hp hs hn => ?_⟩
    cases srt_uniq hp hs
    exact q _ _ _ (Stp.new sm hn) (.lst upd_same (by rw [List.length_map, srt_len]; simpa using h2) (Da.ofInts _))
/-- the pair at a value -/
theorem Da.pairs {H : Hp} : ∀ {l : Rows} {vs : List V}, Da H vs (l.map dP) → ∃ k : V → Int × Int, (∀ x ∈ vs, ∃ t, x = V.ref t ∧ H t = some (.tup [.int (k x).1, .int (k x).2])) ∧ vs.map k = l := by
  classical
  intro l vs h
  have ex : ∀ x ∈ vs, ∃ (p : Int × Int) (t : Addr), x = V.ref t ∧ H t = some (.tup [.int p.1, .int p.2]) := by
    induction vs generalizing l with
    | nil => intro x hx; cases hx
    | cons v vs ih =>
      cases l with
      | nil => cases h
      | cons r l =>
        cases h with
        | cons h1 h2 =>
          intro x hx
          rcases List.mem_cons.mp hx with rfl | hx
          · obtain ⟨a, ws, rfl, k1, k2, k3⟩ := tT_R (show (tD (.tuple [.int r.1, .int r.2])).R x H from h1)
            cases k3 with
            | cons k3 k4 => cases k4 with | cons k4 k5 => cases k5; cases k3; cases k4; exact ⟨r, a, rfl, k1⟩
          · exact ih h2 x hx
  have kk : ∀ x, ∃ p : Int × Int, x ∈ vs → ∃ t, x = V.ref t ∧ H t = some (.tup [.int p.1, .int p.2]) := fun x => by
    by_cases hx : x ∈ vs
    · obtain ⟨p, t, e⟩ := ex x hx; exact ⟨p, fun _ => ⟨t, e⟩⟩
    · exact ⟨(0, 0), fun z => absurd z hx⟩
  let k : V → Int × Int := fun x => Classical.choose (kk x)
  have hk : ∀ x ∈ vs, ∃ t, x = V.ref t ∧ H t = some (.tup [.int (k x).1, .int (k x).2]) := fun x hx => Classical.choose_spec (kk x) hx
  refine ⟨k, hk, ?_⟩
  clear ex
  clear_value k
  clear kk
  induction vs generalizing l with
  | nil => cases l with
    | nil => rfl
    | cons => cases h
  | cons v vs ih =>
    cases l with
    | nil => cases h
    | cons r l =>
      cases h with
      | cons h1 h2 =>
        rw [List.map_cons, ih h2 fun x hx => hk x (List.mem_cons_of_mem _ hx)]
        congr 1
        obtain ⟨t, e, ht⟩ := hk v List.mem_cons_self
        obtain ⟨a, ws, e', k1, k2, k3⟩ := tT_R (show (tD (.tuple [.int r.1, .int r.2])).R v H from h1)
        rw [e] at e'; cases e'
        rw [ht] at k1; cases k1
        cases k3 with
        | cons k3 k4 =>
          cases k4 with
          | cons k4 k5 =>
            have a1 := tI_R k3
            have a2 := tI_R k4
            exact Prod.ext (V.int.inj a1) (V.int.inj a2)
theorem Da.ofPairs {H : Hp} {k : V → Int × Int} : ∀ {vs : List V}, (∀ x ∈ vs, ∃ t, x = V.ref t ∧ H t = some (.tup [.int (k x).1, .int (k x).2])) → Da H vs ((vs.map k).map dP)
  | [], _ => .nil
  | v :: vs, h => by
    obtain ⟨t, rfl, ht⟩ := h v List.mem_cons_self
    exact .cons (.tup ht (by show 2 ≤ lim; decide) (.cons (.int _) (.cons (.int _) .nil))) (Da.ofPairs fun x hx => h x (List.mem_cons_of_mem _ hx))
theorem c_sortedP {l : Rows} : Clt X (.builtin "sorted") [tD (dR l)] (tD (dR (srtP l))) :=
  Clt.of cr_sortedPO fun vs H B Q sm ar q => by
    obtain ⟨v, rfl, h⟩ := ar.one
    obtain ⟨a, xs, rfl, h1, h2, h3⟩ := tL_R h
    obtain ⟨k, hk, hm⟩ := h3.pairs
    refine ⟨a, xs, k, rfl, SqL.of (sm _ _ h1), fun x hx => let ⟨t, e, ht⟩ := hk x hx; ⟨t, e, sm _ _ ht⟩, fun ys p hs hst hn => ?_⟩
    have e : ys.map k = srtP l := by
      refine srtP_uniq (hm ▸ hst.perm.map k) (List.pairwise_map.mpr (hs.imp fun {x y} hlt => ?_))
      have := SrtO.lexB_no.mp hlt
      simp only [leP, decide_eq_true_eq]
      omega
    refine q _ _ _ (Stp.new sm hn) (.lst upd_same (by rw [hst.len]; exact h2) ?_)
    rw [← e]
    refine (Da.ofPairs fun x hx => ?_).mono (same_upd (sm.free hn))
    exact hk x (hst.perm.mem_iff.mp hx)
/-! ### a dict under a lock -/
/-- the result does not lean on a dict -/
def Unl (t : Ty) : Prop := ∀ v B d od kv, B d = some (.frz od (.dK kv)) → t.R v B → t.R v (upd B d (.dK kv))
mutual
theorem Dv.unl {B : Hp} {d : Addr} {o u : HO} (h1 : B d = some o) (hl : ∀ xs, o ≠ .lst xs) (ht : ∀ xs, o ≠ .tup xs) : ∀ {x : PyData} {v : V}, Dv B v x → Dv (upd B d u) v x
  | .none, _, h => by cases h; exact .non
  | .bool _, _, h => by cases h; exact .bl _
  | .int _, _, h => by cases h; exact .int _
  | .str _, _, h => by cases h; exact .str _
  | .list ds, _, h => by cases h with | lst k1 k2 k3 => exact .lst (by rw [upd_ne (ne_of k1 h1 fun z => hl _ z.symm)]; exact k1) k2 (Da.unl h1 hl ht k3)
  | .tuple ds, _, h => by cases h with | tup k1 k2 k3 => exact .tup (by rw [upd_ne (ne_of k1 h1 fun z => ht _ z.symm)]; exact k1) k2 (Da.unl h1 hl ht k3)
  | .dict _, _, h => by cases h
theorem Da.unl {B : Hp} {d : Addr} {o u : HO} (h1 : B d = some o) (hl : ∀ xs, o ≠ .lst xs) (ht : ∀ xs, o ≠ .tup xs) : ∀ {ds : List PyData} {vs : List V}, Da B vs ds → Da (upd B d u) vs ds
  | [], _, h => by cases h; exact .nil
  | x :: ds, _, h => by cases h with | cons k1 k2 => exact .cons (Dv.unl h1 hl ht k1) (Da.unl h1 hl ht k2)
end
theorem unl_D (x : PyData) : Unl (tD x) := fun v B d od kv h r => Dv.unl h (fun _ z => nomatch z) (fun _ z => nomatch z) r
theorem lock_D {x : PyData} {v : V} {B : Hp} {d : Addr} {od : Obj} {kv : List (Key × V)} (h : B d = some (.dK kv)) (r : (tD x).R v B) : (tD x).R v (upd B d (.frz od (.dK kv))) := Dv.unl h (fun _ z => nomatch z) (fun _ z => nomatch z) r
/-- an expression that walks a dict: L the dict's content, of which P is known -/
theorem EV.lock {L : Type} {P : L → Prop} {ΓL : L → Gm} {t : Ty} (hl : ∀ σ H B, Sa Γ σ H B → ∃ l, P l ∧ ∃ d kv, B d = some (.dK kv) ∧ ∀ od, Sa (ΓL l) σ (upd H d (.frz od (.dK kv))) (upd B d (.frz od (.dK kv)))) (h : ∀ l, P l → EV X (ΓL l) e t) (hu : Unl t) : EV X Γ e t := by
  refine EV.of (pe_lock (t := fun σ H Q => ∃ l, P l ∧ rd (ΓL l) t σ H Q) ⟨fun pins s σ H Q I ⟨l, hp, q⟩ => (h l hp).run pins s σ H Q I q⟩) fun σ H B Q sa q => ?_
  obtain ⟨l, hp, d, kv, hd, hs⟩ := hl σ H B sa
  have hH := sa.sm _ _ hd
  refine ⟨d, _, hH, trivial, fun od => ⟨l, hp, _, hs od, fun v H' B' s r => ?_⟩⟩
  have h1 : H' d = some (.frz od (.dK kv)) := s.h _ _ upd_same
  have h2 : B' d = some (.frz od (.dK kv)) := s.b _ _ upd_same
  refine ⟨h1, q v _ (upd B' d (.dK kv)) ⟨fun a o e => ?_, fun a o e => ?_, fun a o e => ?_, fun a e1 e2 => ?_⟩ (hu v B' d od kv h2 r)⟩
  · by_cases ha : a = d
    · subst ha; rw [upd_same, ← e, hH]
    · rw [upd_ne ha]; exact s.h a o (by rw [upd_ne ha]; exact e)
  · by_cases ha : a = d
    · subst ha; rw [upd_same, ← e, hd]
    · rw [upd_ne ha]; exact s.b a o (by rw [upd_ne ha]; exact e)
  · by_cases ha : a = d
    · subst ha; rw [upd_same] at e ⊢; exact e
    · rw [upd_ne ha] at e ⊢; exact s.s a o e
  · have ha : a ≠ d := fun z => by rw [z, hd] at e1; cases e1
    rw [upd_ne ha]
    exact s.f a (by rw [upd_ne ha]; exact e1) (by rw [upd_ne ha]; exact e2)
/-- a locked dict of numbers, its pairs in their order -/
def fzR (l : List (Int × PyData)) (v : V) (H : Hp) : Prop := ∃ (d : Addr) (od : Obj) (kv : List (Key × V)), v = .ref d ∧ H d = some (.frz od (.dK kv)) ∧ kv.length ≤ lim ∧ kv.map (·.1) = l.map (fun p => (Sum.inl p.1 : Key)) ∧ Da H (kv.map (·.2)) (l.map (·.2))
def tFz (l : List (Int × PyData)) : Ty := ⟨fzR l, fun e ⟨d, od, kv, h1, h2, h3, h4, h5⟩ => ⟨d, od, kv, h1, e _ _ h2, h3, h4, h5.mono e⟩⟩
theorem valV_of {H : Hp} : ∀ {kv : List (Key × V)} {l : List (Int × PyData)}, kv.map (·.1) = l.map (fun p => (Sum.inl p.1 : Key)) → Da H (kv.map (·.2)) (l.map (·.2)) → ∀ k : Int, (l.lookup k = none → valV kv (Sum.inl k : Key) = none) ∧ ∀ x, l.lookup k = some x → ∃ u, valV kv (Sum.inl k : Key) = some u ∧ Dv H u x
  | [], [], _, _, k => ⟨fun _ => rfl, fun x z => nomatch z⟩
  | [], _ :: _, e, _, _ => by cases e
  | _ :: _, [], e, _, _ => by cases e
  | q :: kv, r :: l, e, h, k => by
    rw [List.map_cons, List.map_cons] at e
    obtain ⟨e1, e2⟩ := List.cons.inj e
    rw [List.map_cons, List.map_cons] at h
    cases h with
    | cons h1 h2 =>
      have ih := valV_of e2 h2 k
      unfold valV at ih ⊢
      rw [List.find?_cons, List.lookup_cons]
      by_cases hk : k = r.1
      · subst hk
        have a1 : decide (q.1 = (Sum.inl r.1 : Key)) = true := decide_eq_true e1
        rw [a1]
        simp only [beq_self_eq_true]
        exact ⟨fun z => (nomatch z), fun x z => by cases z; exact ⟨_, rfl, h1⟩⟩
      · have a1 : decide (q.1 = (Sum.inl k : Key)) = false := decide_eq_false fun z => hk (Sum.inl.inj (e1.symm.trans z)).symm
        have a2 : (k == r.1) = false := by simpa using hk
        rw [a1, a2]
        exact ih
theorem IV.keys {tg : Expr} {l : List (Int × PyData)} (h : EV X Γ e (tFz l)) : IV X Γ tg e (fun p : Int × PyData => tI p.1) l :=
  PI.imp (pi_keys h) fun σ H R ⟨B, sa, q⟩ => ⟨B, sa, fun v H1 B1 s1 r1 => by
    obtain ⟨d, od, kv, rfl, h2, h3, h4, h5⟩ := r1
    have hl : kv.length = l.length := by simpa using congrArg List.length h4
    refine ⟨d, od, rfl, .inl ⟨kv, s1.s _ _ h2, q _ H1 B1 _ _ s1 (hl ▸ walk_keys (d := d) (o := od) (kvs := kv)) (fun H2 B2 e1 e2 => e2 _ _ (e1 _ _ h2)) ?_ (hl ▸ h3)⟩⟩
    rintro i x H2 H3 B2 e1 e2 ⟨rfl, k, v, hx, rfl⟩
    have e3 : (kv.map (·.1))[i]? = some k := by rw [List.getElem?_map, hx]; rfl
    rw [h4, List.getElem?_map] at e3
    cases q : l[i]? with
    | none => rw [q] at e3; cases e3
    | some p =>
      rw [q] at e3
      have e3 := Option.some.inj e3
      exact ⟨p, B2, rfl, Stp.refl e2, by rw [← e3]; exact .int _⟩⟩
theorem EV.fget {l : List (Int × PyData)} (hu : X.A.units + 1 < cLine) (ho : EV X Γ o (tFz l)) (hi : EV X Γ i (tI k)) (h : l.lookup k = some d) (hs : NoSl i := by exact fun _ _ => rfl) : EV X Γ (.Subscript o i pos) (tD d) :=
  EV.of (pe_dget hu ho hi hs) fun σ H B Q sa q => rd.two sa fun x y H' B' s rx ry => by
    cases tI_R ry
    obtain ⟨a, od, kv, rfl, h2, h3, h4, h5⟩ := rx
    obtain ⟨u, k1, k2⟩ := (valV_of h4 h5 k).2 d h
    exact ⟨a, u, rfl, .inl ⟨kv, Sum.inl k, .inr ⟨od, s.s _ _ h2⟩, rfl, k1.symm⟩, q _ _ _ s k2⟩
/-! ### a property -/
theorem EV.prop {A : Type} {ts : A → List Ty} {pre : A → Prop} {tc : A → Ty} {t : Ty} {m : Str} {pp g : Addr} {fd : FuncData} {ps : List Str} {n : Nat} (he : EV X Γ e t) (ht : ∀ v B, t.R v B → ∃ a dx fs, v = .ref a ∧ B a = some (.ins C dx fs)) (c : Cls X.K C) (hp : PropOf X.K C m pp g)
    (F : FnOk X.prog X.w X.K X.mg X.base CX0 n g fd ps (spT ts pre tc)) (hb : Binds X.K fd ps []) (hr : Room (n + 1) X.A) (a : A) (ha : pre a) (hts : ts a = [t]) (hab : attributeBase e m X.env (eval e X.env) = eval e X.env := by rfl) : EV X Γ (.Attribute e m pos) (tc a) :=
  EV.of (pe_prop (E := E0) he c hp F hr hb .nil (fun _ _ _ _ _ _ _ z => z.elim) hab) fun σ H B Q sa q => ⟨B, sa, fun v H' B' s r => by
    obtain ⟨ad, dx, fs, rfl, h1⟩ := ht v B' r
    exact ⟨ad, dx, fs, rfl, s.s _ _ h1, a, B', ha, s.s, by rw [hts]; exact .cons r .nil, fun v H2 B2 s2 r2 => q v H2 B2 (s.trans s2) r2⟩⟩
end
end Rk
/-! part D4 -/
namespace Rk
open PySem PySem.Spec L2
section
variable {P : Program} {w : World} {K : PySem.W.Frag} {mg : Str → Option Value} {base : Heap}
abbrev tT (K : PySem.W.Frag) (R : Rows) : Ty := tTab (He.ga K "Table") R
abbrev tTR (K : PySem.W.Frag) (R : Rows) : Ty := tTabR (He.ga K "Table") R
theorem Txt.cls (T : Txt K mg) : Cls K (He.ga K "Table") := He.cls_ok (T.s.a.fact 76 (f := .cls "Table"))
theorem Txt.wants (T : Txt K mg) : NoAttr K (He.ga K "Table") "wants" := He.noat_ok (T.s.a.fact 79 (f := .noat "Table" "wants"))
abbrev fGet (K : PySem.W.Frag) : Addr := He.ma K (He.ga K "Table") "__getitem__"
abbrev fIn (K : PySem.W.Frag) : Addr := He.ma K (He.ga K "Table") "__contains__"
theorem Txt.mGet (T : Txt K mg) : Meth K (He.ga K "Table") "__getitem__" (fGet K) := He.meth_ok (T.s.a.fact 83 (f := .meth "Table" "__getitem__"))
theorem Txt.mIn (T : Txt K mg) : Meth K (He.ga K "Table") "__contains__" (fIn K) := He.meth_ok (T.s.a.fact 84 (f := .meth "Table" "__contains__"))
/-! is_integer, is_key -/
theorem sc_is_integer : FnScope ["thing"] ["thing"] (defScope s_is_integer) := ⟨rfl, rfl, rfl, by decide +kernel, rfl, by decide +kernel, by decide +kernel⟩
theorem ok_is_integer (T : Txt K mg) : DefT P w K mg base "is_integer" 1 (A := Int) (fun a => [tI a]) (fun _ => True) (fun _ => tB true) := by
  refine DefT.top T 0 16 sc_is_integer (fun _ _ _ _ _ _ us hl => match us, hl with | [_], _ => rfl) (fun _ => rfl) fun f cdv Ar outer s H E a hp hr => ?_
  refine GS.one (G1.ret ?_)
  exact EV.and (EV.callB (T.free 0) (c_isiI (n := "int") (b := true) (by decide +kernel)) (EA.cons (EV.var 0) (EA.one (EV.tyName (T.free 1))))) fun _ => EV.one (EV.not (EV.callB (T.free 0) (c_isiI (n := "bool") (b := false) (by decide +kernel)) (EA.cons (EV.var 0) (EA.one (EV.tyName (T.free 2))))))
theorem sc_is_key : FnScope ["thing"] ["thing"] (defScope s_is_key) := ⟨rfl, rfl, rfl, by decide +kernel, rfl, by decide +kernel, by decide +kernel⟩
def isK (k : Int) : Bool := decide (-B30 < k) && decide (k < B30)
theorem ok_is_key (T : Txt K mg) : DefT P w K mg base "is_key" 2 (A := Int) (fun a => [tI a]) (fun _ => True) (fun k => tB (isK k)) := by
  refine DefT.top T 1 17 sc_is_key (fun _ _ _ _ _ _ us hl => match us, hl with | [_], _ => rfl) (fun _ => rfl) fun f cdv Ar outer s H E a hp hr => ?_
  obtain ⟨t, hK⟩ := T.int 74 (x := "KEY_BOUND")
  refine GS.one (G1.ret ?_)
  exact EV.cast (EV.and (EV.call (ok_is_integer T) a trivial hr (EA.one (EV.var 0))) fun _ => EV.one (EV.chain (EV.neg (EV.gint hK ⟨t, rfl⟩)) (EV.var 0) (EV.gint hK ⟨t, rfl⟩) o_lt o_lt)) rfl
/-! the table's own methods -/
theorem sc_contains : FnScope ["self", "thing"] ["self", "thing"] (defScope s_Table_contains) := ⟨rfl, rfl, rfl, by decide +kernel, rfl, by decide +kernel, by decide +kernel⟩
theorem in_keys {R : Rows} (w : WF R) (k : Int) : (isK k && ((R.lookup k).map PyData.int).isSome) = decide (k ∈ keys R) := by
  by_cases h : k ∈ keys R
  · rw [lookup_nw h, decide_eq_true h]
    obtain ⟨n, hn⟩ := mem_keys.mp h
    obtain ⟨h1, h2⟩ := (w.bnd _ hn).1
    unfold isK
    rw [decide_eq_true h1, decide_eq_true h2]; rfl
  · rw [lookup_none.mpr h, decide_eq_false h]
    cases isK k <;> rfl
theorem ok_contains (T : Txt K mg) : FnR P w K mg base CX0 3 (fIn K) (spT (A := Rows × Int) (fun a => [tTR K a.1, tI a.2]) (fun a => WF a.1) (fun a => tB (decide (a.2 ∈ keys a.1)))) := by
  refine FnT.top T 58 sc_contains (fun _ _ _ _ _ _ us hl => match us, hl with | [_, _], _ => rfl) (fun _ => rfl) fun f cdv Ar outer s H E a hp hr => ?_
  refine GS.one (G1.ret ?_)
  refine EV.cast (EV.and (EV.call (ok_is_key T) a.2 trivial hr (EA.one (EV.var 1))) fun _ => EV.one ?_) (congrArg tB (in_keys hp a.2))
  exact EV.din (f := fun k => (a.1.lookup k).map .int) (hu_of hr) (EV.var 1) (EV.wants (EV.var 0) T.cls T.wants)
section
variable {X : Cx} {Γ : Gm} {e i o : Expr} {R : Rows} {k : Int} {pos p : Pos}
/-- what a body of the text knows -/
structure In0 (X : Cx) (K : PySem.W.Frag) (mg : Str → Option Value) : Prop where
  k : X.K = K
  m : X.mg = mg
end
theorem sc_getitem : FnScope ["self", "key"] ["self", "key"] (defScope s_Table_getitem) := ⟨rfl, rfl, rfl, by decide +kernel, rfl, by decide +kernel, by decide +kernel⟩
theorem ok_getitem (T : Txt K mg) : FnR P w K mg base CX0 4 (fGet K) (spT (A := Rows × Int) (fun a => [tT K a.1, tI a.2]) (fun a => WF a.1 ∧ a.2 ∈ keys a.1) (fun a => tI (nw a.1 a.2))) := by
  refine FnT.top T 57 sc_getitem (fun _ _ _ _ _ _ us hl => match us, hl with | [_, _], _ => rfl) (fun _ => rfl) fun f cdv Ar outer s H E a hp hr => ?_
  refine GS.seq (G1.ifF (CT.cast (CT.cmp (EV.var 1) (EV.var 0) (Opt.impR (o_niTab T.mIn (ok_contains T) hr a hp.1 rfl rfl) tab_r)) (by rw [decide_eq_true hp.2]; rfl)) (GS.nil rfl)) ?_
  refine GS.one (G1.ret ?_)
  exact EV.dget (f := fun k => (a.1.lookup k).map .int) (hu_of hr) (EV.wants (EV.imp (EV.var 0) tab_r) T.cls T.wants) (EV.var 1) (by show (a.1.lookup a.2).map PyData.int = _; rw [lookup_nw hp.2]; rfl)
end
end Rk
/-! part D5 -/
namespace Rk
open PySem PySem.Spec L2
theorem filter_yes {α : Type} (l : List α) : (l.filter fun _ => true) = l := List.filter_eq_self.mpr fun _ _ => rfl
def tlR (C : Addr) (l : Rows) (v : V) (H : Hp) : Prop := ∃ (a dx d : Addr) (od : Obj), v = .ref a ∧ H a = some (.ins C dx [("wants", .ref d)]) ∧ H d = some (.frz od (.dK (tabK l))) ∧ l.length ≤ lim
def tTL (C : Addr) (l : Rows) : Ty := ⟨tlR C l, fun e ⟨a, dx, d, od, h1, h2, h3, h4⟩ => ⟨a, dx, d, od, h1, e _ _ h2, e _ _ h3, h4⟩⟩
def lP (p : Int × Int) : Int × PyData := (p.1, .int p.2)
section
variable {P : Program} {w : World} {K : PySem.W.Frag} {mg : Str → Option Value} {base : Heap} {X : Cx} {Γ : Gm} {e : Expr} {C : Addr} {l R : Rows} {pos : Pos}
theorem tabK_da (H : Hp) : ∀ l : Rows, Da H ((tabK l).map (·.2)) ((l.map lP).map (·.2))
  | [] => .nil
  | r :: l => .cons (.int r.2) (tabK_da H l)
theorem EV.wantsL (h : EV X Γ e (tTL C l)) (c : Cls X.K C) (n : NoAttr X.K C "wants") (hb : attributeBase e "wants" X.env (eval e X.env) = eval e X.env := by rfl) : EV X Γ (.Attribute e "wants" pos) (tFz (l.map lP)) :=
  EV.of (pe_fld h hb) fun σ H B Q sa q => ⟨B, sa, fun v H' B' s r => by
    obtain ⟨a, dx, d, od, rfl, h1, h2, h3⟩ := r
    refine ⟨a, C, dx, _, .ref d, rfl, s.s _ _ h1, c, n, rfl, q _ _ _ s ⟨d, od, tabK l, rfl, h2, by simpa [tabK] using h3, by simp [tabK, lP, Function.comp_def], tabK_da _ l⟩⟩⟩
theorem lookup_lP (l : Rows) (k : Int) : (l.map lP).lookup k = (l.lookup k).map .int := by
  induction l with
  | nil => rfl
  | cons r l ih =>
    rw [List.map_cons, List.lookup_cons, List.lookup_cons]
    show (match k == r.1 with | true => some (PyData.int r.2) | false => List.lookup k (l.map lP)) = _
    cases k == r.1 with
    | true => rfl
    | false => exact ih
theorem lock_tab {σ : St} {H B : Hp} {n : Nat} {Γ' : Gm} (sa : Sa Γ' σ H B) (h0 : Γ'[0]? = some (some (.ty (tTab C R)))) (hn : Γ'.length = n + 1) :
    ∃ l, (l.Perm R ∧ WF R) ∧ ∃ d kv, B d = some (.dK kv) ∧ ∀ od, Sa (some (.ty (tTL C l)) :: List.replicate n none) σ (upd H d (.frz od (.dK kv))) (upd B d (.frz od (.dK kv))) := by
  obtain ⟨v, h1, w, a, dx, d, l, rfl, h2, h3, h4⟩ := sa.ty 0 _ h0
  refine ⟨l, ⟨h4, w⟩, d, tabK l, h3, fun od => ⟨by rw [sa.ln, hn]; simp, fun b o e => ?_, fun i t e => ?_⟩⟩
  · by_cases hb : b = d
    · subst hb; rw [upd_same] at e ⊢; exact e
    · rw [upd_ne hb] at e ⊢; exact sa.sm _ _ e
  · cases i with
    | zero =>
      simp only [List.getElem?_cons_zero, Option.some.injEq, Sl.ty.injEq] at e
      subst e
      have ne : a ≠ d := ne_of h2 h3 fun z => nomatch z
      exact ⟨_, h1, a, dx, d, od, rfl, by rw [upd_ne ne]; exact h2, upd_same, by rw [h4.length_eq]; exact Nat.le_trans w.len (by decide)⟩
    | succ i =>
      rw [List.getElem?_cons_succ, List.getElem?_replicate] at e
      split at e <;> cases e
theorem sc_rows : FnScope ["self", "key"] ["self"] (defScope s_Table_rows) := ⟨rfl, rfl, rfl, by decide +kernel, rfl, by decide +kernel, by decide +kernel⟩
theorem ok_rows (T : Txt K mg) : ∃ fd, FnOk P w K mg base CX0 1 (He5.wf K (He.ga K "Table") "property" "rows") fd ["self"] (spT (A := Rows) (fun a => [tT K a]) (fun a => WF a) (fun a => tD (.tuple (a.map dP)))) ∧ Binds K fd ["self"] [] := by
  obtain ⟨fd, F, h⟩ := T.typed (P := P) (w := w) (base := base) (k := 0) (A := Rows) (ts := fun a => [tT K a]) (pre := fun a => WF a) (tc := fun a => tD (.tuple (a.map dP))) 56 sc_rows (fun _ => rfl) rfl fun f cdv Ar outer s H E a hp hr => by
    refine GS.one (G1.ret ?_)
    refine EV.lock (P := fun l : Rows => l.Perm a ∧ WF a) (ΓL := fun l => [some (.ty (tTL (He.ga K "Table") l)), none]) (fun σ H B sa => lock_tab (n := 1) sa rfl rfl) (fun l hl => ?_) (unl_D _)
    have hx : ∀ p ∈ l.map lP, (l.map lP).lookup p.1 = some p.2 := fun p hp' => by
      obtain ⟨q, hq, rfl⟩ := List.mem_map.mp hp'
      rw [lookup_lP, lookup_perm hl.1 hl.2.nodup, show a.lookup (lP q).1 = some q.2 from lookup_of_mem hl.2.nodup (hl.1.mem_iff.mp hq)]
      rfl
    refine EV.callT (T.free 3) c_tupL (EA.one (EV.cast (EV.callB (T.free 9) (c_sortedP (l := l)) (EA.one (EV.cast (EV.lc (pd := fun _ => true) (f := fun p => .tuple [.int p.1, p.2]) [("key", 1)] (IV.keys (EV.wantsL (EV.var 0) T.cls T.wants)) (fun s H C cl fp => pg_name (i := 1) sc_rows.nd rfl (Or.inl rfl)) (TgOk.name 1) (fun p _ s H C cl fp => CTs.nil)
      (fun p hp' _ s H C cl fp => EV.tup (ds := [.int p.1, p.2]) (EA.cons (EV.var 1) (EA.one (EV.fget (hu_of hr) (EV.wantsL (EV.var 0) T.cls T.wants) (EV.var 1) (hx p hp'))))) sc_rows.nd) ?_))) ?_))
    · rw [filter_yes, List.map_map]; rfl
    · rw [srtP_rows hl.1 hl.2]
  exact ⟨fd, h, F.binds fun _ _ _ _ _ _ us hl => match us, hl with | [_], _ => rfl⟩
end
end Rk
/-! part Ly4 -/
namespace Rk
open PySem PySem.Spec L2
/-- a tuple by its items' types -/
def tuR (ts : List Ty) (v : V) (H : Hp) : Prop := ∃ a vs, v = .ref a ∧ H a = some (.tup vs) ∧ vs.length ≤ lim ∧ Args H vs ts
def tTu (ts : List Ty) : Ty := ⟨tuR ts, fun e ⟨a, vs, h1, h2, h3, h4⟩ => ⟨a, vs, h1, e _ _ h2, h3, h4.mono e⟩⟩
theorem Args.ofDa {B : Hp} : ∀ {vs : List V} {ds : List PyData}, Da B vs ds → Args B vs (ds.map tD)
  | _, [], h => by cases h; exact .nil
  | _, d :: ds, h => by cases h with | cons h1 h2 => exact .cons h1 (Args.ofDa h2)
section
variable {X : Cx} {Γ Γ1 : Gm} {st : Stmt} {ss : List Stmt} {N N1 C K : Gm → Prop} {t u u1 u2 u3 : Ty} {ts : List Ty} {e e1 e2 e3 c o : Expr} {es : List Expr} {pos p pt pt2 px py pz : Pos} {x y z : Str} {kt k2 : Nat} {ds : List PyData}
theorem EV.tupT {x1} (h : EA X Γ es ts) (hl : ts.length ≤ lim := by exact Nat.le_of_ble_eq_true rfl) : EV X Γ (.Tuple es x1 pos) (tTu ts) :=
  EV.of (pe_tup h) fun σ H B Q sa q => ⟨B, sa, fun vs H1 B1 s1 r1 => by
    have hz : vs.length ≤ lim := by rw [r1.length]; exact hl
    exact ⟨lim_le hz, fun p hp => q _ _ _ (s1.trans (Stp.new s1.s hp)) ⟨p, vs, rfl, upd_same, hz, r1.mono (same_upd (s1.s.free hp))⟩⟩⟩
theorem EV.asTu (h : EV X Γ e (tD (.tuple ds))) : EV X Γ e (tTu (ds.map tD)) := EV.imp h fun v B r => by
  obtain ⟨a, vs, rfl, h1, h2, h3⟩ := tT_R r
  exact ⟨a, vs, rfl, h1, h2, Args.ofDa h3⟩
theorem EV.ofTu (h : EV X Γ e (tTu (ds.map tD))) : EV X Γ e (tD (.tuple ds)) := EV.imp h fun v B ⟨a, vs, h0, h1, h2, h3⟩ => h0 ▸ .tup h1 h2 (Da.ofArgs h3)
theorem G1.to (h : G1 X Γ st N1 C K t) (k : ∀ Γ', N1 Γ' → N Γ') : G1 X Γ st N C K t := PS.imp h fun D σ H ⟨H0, B0, Bl, B, s, n, r⟩ => ⟨H0, B0, Bl, B, s, fun Γ' σ' H' B' e s' => n Γ' σ' H' B' (k Γ' e) s', r⟩
/-! a, b = e -/
theorem G1.unp2 (i j : Nat) (he : EV X Γ e (tTu [u1, u2])) (nd : X.N.Nodup) (hs : swapsWithSole [.Tuple [.Name x px, .Name y py] kt pt] e pos.line X.env = pure false := by rfl) (hw : swappedStores [.Tuple [.Name x px, .Name y py] kt pt] e X.env = pure none := by rfl)
    (hi : X.N[i]? = some x := by rfl) (hj : X.N[j]? = some y := by rfl) (hx : Loc X.env.scope x := by first | exact .inl rfl | exact .inr rfl) (hy : Loc X.env.scope y := by first | exact .inl rfl | exact .inr rfl)
    (hfx : X.fn x = true ∨ X.env.scope.names.lookup x = some .local := by first | exact .inl rfl | exact .inr rfl) (hfy : X.fn y = true ∨ X.env.scope.names.lookup y = some .local := by first | exact .inl rfl | exact .inr rfl) (hc : X.calm = true := by rfl) (h1 : (assignEach [.Tuple [.Name x px, .Name y py] kt pt] X.env).map (·.2) = [assign (.Tuple [.Name x px, .Name y py] kt pt) X.env] := by rfl)
    (h2 : (assignEach [.Name x px, .Name y py] X.env).map (·.2) = assign (.Name x px) X.env :: (assignEach [.Name y py] X.env).map (·.2) := by rfl) (h3 : (assignEach [.Name y py] X.env).map (·.2) = assign (.Name y py) X.env :: (assignEach [] X.env).map (·.2) := by rfl)
    (h4 : (assignEach [.Name x px, .Name y py] X.env).length = 2 := by rfl) (h5 : (assignEach [.Name x px, .Name y py] X.env).findIdx? (·.1) = none := by rfl) : G1 X Γ (.Assign [.Tuple [.Name x px, .Name y py] kt pt] e pos) (· = (Γ.set i (some (.ty u1))).set j (some (.ty u2))) C K t :=
  PS.imp (ps_asg he (pg_tup hc (pgs_cons (pg_name nd hi hx hfx) (pgs_cons (pg_name nd hj hy hfy) pgs_nil h3) h2) h4 h5) hs hw h1) fun D σ H ⟨H0, B0, Bl, B, s, n, _⟩ => ⟨B, s.sa, fun v H' B' k ⟨a, vs, e0, a1, a2, a3⟩ => by
    obtain ⟨v1, v2, rfl, r1, r2⟩ := a3.two
    subst e0
    exact ⟨a, _, rfl, SqT.of (k.s _ _ a1), rfl, _, _, rfl, _, _, rfl, rfl, n _ _ _ B' rfl (((s.step k).set r1).set r2)⟩⟩
/-! a, b = e1, e2, by two names -/
theorem G1.par2 (i j : Nat) (h1 : EV X Γ e1 u1) (h2 : EV X Γ e2 u2) (nd : X.N.Nodup) (hij : i ≠ j := by decide) (hi : X.N[i]? = some x := by rfl) (hj : X.N[j]? = some y := by rfl) (hx : X.env.scope.names.lookup x = some .local := by rfl) (hy : X.env.scope.names.lookup y = some .local := by rfl)
    (hw : swappedStores [.Tuple [.Name x px, .Name y py] kt pt] (.Tuple [e1, e2] k2 pt2) X.env = pure (some [x, y]) := by rfl) (hs : swapsWithSole [.Tuple [.Name x px, .Name y py] kt pt] (.Tuple [e1, e2] k2 pt2) pos.line X.env = pure false := by rfl) (hc : X.calm = true := by rfl)
    (hst : starEach [e1, e2] X.env = (false, eval e1 X.env) :: starEach [e2] X.env := by rfl) (hst2 : starEach [e2] X.env = (false, eval e2 X.env) :: starEach [] X.env := by rfl) :
    G1 X Γ (.Assign [.Tuple [.Name x px, .Name y py] kt pt] (.Tuple [e1, e2] k2 pt2) pos) (· = (Γ.set i (some (.ty u1))).set j (some (.ty u2))) C K t :=
  PS.imp (ps_par hc nd hi hj hij hx hy (EA.cons h1 (EA.one h2 hst2) hst) hw hs) fun D σ H ⟨H0, B0, Bl, B, s, n, _⟩ => ⟨B, s.sa, fun vs H' B' k r => by
    obtain ⟨v1, v2, rfl, r1, r2⟩ := r.two
    exact ⟨v1, v2, rfl, n _ _ _ B' rfl (((s.step k).set r1).set r2)⟩⟩
theorem G1.par3 (i j l : Nat) (h1 : EV X Γ e1 u1) (h2 : EV X Γ e2 u2) (h3 : EV X Γ e3 u3) (nd : X.N.Nodup) (hij : i ≠ j := by decide) (hil : i ≠ l := by decide) (hjl : j ≠ l := by decide) (hi : X.N[i]? = some x := by rfl) (hj : X.N[j]? = some y := by rfl) (hl : X.N[l]? = some z := by rfl)
    (hx : X.env.scope.names.lookup x = some .local := by rfl) (hy : X.env.scope.names.lookup y = some .local := by rfl) (hz : X.env.scope.names.lookup z = some .local := by rfl)
    (hw : swappedStores [.Tuple [.Name x px, .Name y py, .Name z pz] kt pt] (.Tuple [e1, e2, e3] k2 pt2) X.env = pure (some [x, y, z]) := by rfl) (hs : swapsWithSole [.Tuple [.Name x px, .Name y py, .Name z pz] kt pt] (.Tuple [e1, e2, e3] k2 pt2) pos.line X.env = pure false := by rfl) (hc : X.calm = true := by rfl)
    (hst : starEach [e1, e2, e3] X.env = (false, eval e1 X.env) :: starEach [e2, e3] X.env := by rfl) (hst2 : starEach [e2, e3] X.env = (false, eval e2 X.env) :: starEach [e3] X.env := by rfl) (hst3 : starEach [e3] X.env = (false, eval e3 X.env) :: starEach [] X.env := by rfl) :
    G1 X Γ (.Assign [.Tuple [.Name x px, .Name y py, .Name z pz] kt pt] (.Tuple [e1, e2, e3] k2 pt2) pos) (· = ((Γ.set i (some (.ty u1))).set j (some (.ty u2))).set l (some (.ty u3))) C K t :=
  PS.imp (ps_par3 hc nd hi hj hl hij hil hjl hx hy hz (EA.cons h1 (EA.cons h2 (EA.one h3 hst3) hst2) hst) hw hs) fun D σ H ⟨H0, B0, Bl, B, s, n, _⟩ => ⟨B, s.sa, fun vs H' B' k r => by
    obtain ⟨v1, v2, v3, rfl, r1, r2, r3⟩ := r.three
    exact ⟨v1, v2, v3, rfl, n _ _ _ B' rfl ((((s.step k).set r1).set r2).set r3)⟩⟩
/-- a, b = [..], e: the list one's own -/
theorem G1.parNT {ps : Pos} (i j : Nat) (h1 : EA X Γ es (ds.map tD)) (h2 : EV X Γ e2 u2) (nd : X.N.Nodup) (hl : ds.length ≤ lim := by exact Nat.le_of_ble_eq_true rfl) (hlen : i < Γ.length := by exact Nat.le_of_ble_eq_true rfl) (hij : i ≠ j := by decide) (hi : X.N[i]? = some x := by rfl) (hj : X.N[j]? = some y := by rfl) (hx : X.env.scope.names.lookup x = some .local := by rfl) (hy : X.env.scope.names.lookup y = some .local := by rfl)
    (hw : swappedStores [.Tuple [.Name x px, .Name y py] kt pt] (.Tuple [.List es ps, e2] k2 pt2) X.env = pure (some [x, y]) := by rfl) (hs : swapsWithSole [.Tuple [.Name x px, .Name y py] kt pt] (.Tuple [.List es ps, e2] k2 pt2) pos.line X.env = pure false := by rfl) (hc : X.calm = true := by rfl)
    (hst : starEach [.List es ps, e2] X.env = (false, eval (.List es ps) X.env) :: starEach [e2] X.env := by rfl) (hst2 : starEach [e2] X.env = (false, eval e2 X.env) :: starEach [] X.env := by rfl) :
    G1 X Γ (.Assign [.Tuple [.Name x px, .Name y py] kt pt] (.Tuple [.List es ps, e2] k2 pt2) pos) (· = (Γ.set i (some (.own (oL ds)))).set j (some (.ty u2))) C K t := by
  refine PS.imp (ps_par hc nd hi hj hij hx hy (pa_cons (pe_lst h1) (pa_cons h2 pa_nil hst2) hst) hw hs) ?_
  rintro D σ H ⟨H0, B0, Bl, B, s, n, _⟩
  refine ⟨B, s.sa, fun vs H1 B1 s1 r1 => ?_⟩
  have hd := Da.ofArgs r1
  have hz : vs.length ≤ lim := by rw [hd.length]; exact hl
  refine ⟨lim_le hz, fun q hq => ?_⟩
  have s2 := (s.step s1).newOwn (i := i) (o := oL ds) (h := .lst vs) hlen hq ⟨vs, rfl, hz, hd⟩
  refine ⟨B1, (s.sa.mono s1).mono (Stp.grow s1.s (same_upd hq)), fun v H2 B2 s3 r3 => ⟨_, v, rfl, ?_⟩⟩
  exact n _ _ _ B2 rfl ((s2.step s3).set r3)
/-- a, b = e, [..] -/
theorem G1.parTN {ps : Pos} (i j : Nat) (h1 : EV X Γ e1 u1) (nd : X.N.Nodup) (hlen : j < Γ.length := by exact Nat.le_of_ble_eq_true rfl) (hij : i ≠ j := by decide) (hi : X.N[i]? = some x := by rfl) (hj : X.N[j]? = some y := by rfl) (hx : X.env.scope.names.lookup x = some .local := by rfl) (hy : X.env.scope.names.lookup y = some .local := by rfl)
    (hw : swappedStores [.Tuple [.Name x px, .Name y py] kt pt] (.Tuple [e1, .List [] ps] k2 pt2) X.env = pure (some [x, y]) := by rfl) (hs : swapsWithSole [.Tuple [.Name x px, .Name y py] kt pt] (.Tuple [e1, .List [] ps] k2 pt2) pos.line X.env = pure false := by rfl) (hc : X.calm = true := by rfl)
    (hst : starEach [e1, .List [] ps] X.env = (false, eval e1 X.env) :: starEach [.List [] ps] X.env := by rfl) (hst2 : starEach [.List [] ps] X.env = (false, eval (.List [] ps) X.env) :: starEach [] X.env := by rfl) :
    G1 X Γ (.Assign [.Tuple [.Name x px, .Name y py] kt pt] (.Tuple [e1, .List [] ps] k2 pt2) pos) (· = (Γ.set i (some (.ty u1))).set j (some (.own (oL [])))) C K t := by
  refine PS.imp (ps_par hc nd hi hj hij hx hy (pa_cons h1 (pa_cons (pe_lst pa_nil) pa_nil hst2) hst) hw hs) ?_
  rintro D σ H ⟨H0, B0, Bl, B, s, n, _⟩
  refine ⟨B, s.sa, fun v H1 B1 s1 r1 => ⟨Nat.zero_le _, fun q hq => ⟨v, _, rfl, ?_⟩⟩⟩
  exact n _ _ _ B1 rfl (((s.step s1).set r1).newOwn (i := j) (o := oL []) (h := .lst []) (by simpa using hlen) hq ⟨[], rfl, Nat.zero_le _, .nil⟩)
/-- the same by a tuple -/
theorem G1.tupTN {ps : Pos} (i j : Nat) (h1 : EV X Γ e1 u1) (nd : X.N.Nodup) (hlen : j < Γ.length := by exact Nat.le_of_ble_eq_true rfl) (hs : swapsWithSole [.Tuple [.Name x px, .Name y py] kt pt] (.Tuple [e1, .List [] ps] k2 pt2) pos.line X.env = pure false := by rfl) (hw : swappedStores [.Tuple [.Name x px, .Name y py] kt pt] (.Tuple [e1, .List [] ps] k2 pt2) X.env = pure none := by rfl)
    (hi : X.N[i]? = some x := by rfl) (hj : X.N[j]? = some y := by rfl) (hx : Loc X.env.scope x := by first | exact .inl rfl | exact .inr rfl) (hy : Loc X.env.scope y := by first | exact .inl rfl | exact .inr rfl)
    (hfx : X.fn x = true ∨ X.env.scope.names.lookup x = some .local := by first | exact .inl rfl | exact .inr rfl) (hfy : X.fn y = true ∨ X.env.scope.names.lookup y = some .local := by first | exact .inl rfl | exact .inr rfl) (hc : X.calm = true := by rfl) (hh1 : (assignEach [.Tuple [.Name x px, .Name y py] kt pt] X.env).map (·.2) = [assign (.Tuple [.Name x px, .Name y py] kt pt) X.env] := by rfl)
    (h2 : (assignEach [.Name x px, .Name y py] X.env).map (·.2) = assign (.Name x px) X.env :: (assignEach [.Name y py] X.env).map (·.2) := by rfl) (h3 : (assignEach [.Name y py] X.env).map (·.2) = assign (.Name y py) X.env :: (assignEach [] X.env).map (·.2) := by rfl)
    (h4 : (assignEach [.Name x px, .Name y py] X.env).length = 2 := by rfl) (h5 : (assignEach [.Name x px, .Name y py] X.env).findIdx? (·.1) = none := by rfl)
    (hst : starEach [e1, .List [] ps] X.env = (false, eval e1 X.env) :: starEach [.List [] ps] X.env := by rfl) (hst2 : starEach [.List [] ps] X.env = (false, eval (.List [] ps) X.env) :: starEach [] X.env := by rfl) :
    G1 X Γ (.Assign [.Tuple [.Name x px, .Name y py] kt pt] (.Tuple [e1, .List [] ps] k2 pt2) pos) (· = (Γ.set i (some (.ty u1))).set j (some (.own (oL [])))) C K t := by
  refine PS.imp (ps_asg (pe_tup (pa_cons h1 (pa_cons (pe_lst pa_nil) pa_nil hst2) hst)) (pg_tup hc (pgs_cons (pg_name nd hi hx hfx) (pgs_cons (pg_name nd hj hy hfy) pgs_nil h3) h2) h4 h5) hs hw hh1) ?_
  rintro D σ H ⟨H0, B0, Bl, B, s, n, _⟩
  refine ⟨B, s.sa, fun v H1 B1 s1 r1 => ⟨Nat.zero_le _, fun q hq => ⟨by show 2 ≤ sizeLine; decide, fun a ha => ?_⟩⟩⟩
  have s2 := ((s.step s1).set (i := i) r1).newOwn (i := j) (o := oL []) (h := .lst []) (by simpa using hlen) hq ⟨[], rfl, Nat.zero_le _, .nil⟩
  exact ⟨a, _, rfl, SqT.of upd_same, rfl, _, _, rfl, _, _, rfl, rfl, n _ _ _ B1 rfl (s2.look (same_upd ha))⟩
/-- x op= e, numbers -/
theorem G1.augI {op : Operator} {a b : Int} {f : Int → Int → Int} {ti : TIp} (i : Nat) (he : EV X (pk Γ) e (tI b)) (ho : PIp X op ti) (hti : ∀ H (Q : VK), Q (.int (f a b)) H → ti (.int a) (.int b) H Q) (nd : X.N.Nodup) (hg : Γ[i]? = some (some (.ty (tI a))) := by rfl) (hi : X.N[i]? = some x := by rfl) (hx : Loc X.env.scope x := by first | exact .inl rfl | exact .inr rfl)
    (hf : X.fn x = true ∨ X.env.scope.names.lookup x = some .local := by first | exact .inl rfl | exact .inr rfl) : G1 X Γ (.AugAssign (.Name x p) op e pos) (· = Γ.set i (some (.ty (tI (f a b))))) C K t :=
  PS.imp (ps_aug nd hi hx he ho hf) fun D σ H ⟨H0, B0, Bl, B, s, n, _⟩ => by
    obtain ⟨B2, sa2, sp2, _⟩ := s.peek
    obtain ⟨v, h1, h2⟩ := s.sa.ty i _ hg
    cases tI_R h2
    refine ⟨_, h1, B2, sa2, fun w H' B' k r => ?_⟩
    cases tI_R r
    exact hti _ _ (n _ _ _ B rfl ((s.look k.h).set (.int _)))
theorem G1.addI {a b : Int} (i : Nat) (he : EV X (pk Γ) e (tI b)) (nd : X.N.Nodup) (hg : Γ[i]? = some (some (.ty (tI a))) := by rfl) (hi : X.N[i]? = some x := by rfl) (hx : Loc X.env.scope x := by first | exact .inl rfl | exact .inr rfl)
    (hf : X.fn x = true ∨ X.env.scope.names.lookup x = some .local := by first | exact .inl rfl | exact .inr rfl) : G1 X Γ (.AugAssign (.Name x p) .Add e pos) (· = Γ.set i (some (.ty (tI (a + b))))) C K t :=
  G1.augI i he ip_add (f := fun i j => i + j) (fun H Q q => ⟨a, b, rfl, rfl, q⟩) nd hg hi hx hf
/-- x = [..] by a comprehension -/
theorem G1.setLc {α : Type} {tg iter elt : Expr} {ifs : List Expr} {scope : Scope} {g : TG} {ut : α → Ty} {xs : List α} {Γt : α → Gm} {pd : α → Bool} {f : α → PyData} {js : List Nat} (i : Nat) (own : List (Str × Nat)) (hi : IV X Γ tg iter ut xs) (hg : ∀ (s : Shared) (H : Hp) (C : Addr) (cl : List (Str × Addr)) (fp : List Addr), PG (X.blk s H scope (compEnvC scope cl C X.env) fp) tg g)
    (hT : TgOk g js ut (wipeG Γ (own.map (·.2))) Γt)
    (ht : ∀ a ∈ xs, ∀ (s : Shared) (H : Hp) (C : Addr) (cl : List (Str × Addr)) (fp : List Addr), CTs (X.blk s H scope (compEnvC scope cl C X.env) fp) (Γt a) ifs (pd a))
    (he : ∀ a ∈ xs, pd a = true → ∀ (s : Shared) (H : Hp) (C : Addr) (cl : List (Str × Addr)) (fp : List Addr), EV (X.blk s H scope (compEnvC scope cl C X.env) fp) (Γt a) elt (tD (f a)))
    (hN : X.N.Nodup) (hy : X.N[i]? = some y := by rfl) (hyl : X.env.scope.names.lookup y = some .local := by rfl) (hsw : swapsWith (.ListComp elt [⟨tg, iter, ifs, 0⟩] scope pos) (some (.Name y py)) p.line X.env = pure true := by exact sw_true rfl rfl rfl (by decide +kernel))
    (ok : blkC X.N X.env.scope scope own = true := by kernel_rfl) (hc : X.calm = true := by rfl) (hj : ∀ j ∈ js, j ∈ own.map (·.2) := by decide) (hs : ∀ x, foldedSetIterable iter X.env x = pure x := by intro _; rfl) :
    G1 X Γ (.Assign [.Name y py] (.ListComp elt [⟨tg, iter, ifs, 0⟩] scope pos) p) (· = Γ.set i (some (.ty (tD (.list ((xs.filter pd).map f)))))) C K t :=
  PS.imp (ps_setLc (own := own) hc hN hy hyl hsw hi (blkOk_by ok) hg (fun s H C cl fp => ⟨fun pins s' σ H' Q I ⟨a, hm, q⟩ => (ht a hm s H C cl fp).run pins s' σ H' Q I q⟩) (fun s H C cl fp => ⟨fun pins s' σ H' Q I ⟨a, hm, hp, q⟩ => (he a hm hp s H C cl fp).run pins s' σ H' Q I q⟩) hs)
    fun D σ H ⟨H0, B0, Bl, B, s, n, _⟩ => lc_read hT hj s.sa fun v H' B' k r => n _ _ _ B' rfl ((s.step k).set r)
theorem GS.to {N1 : Gm → Prop} (h : GS X Γ ss N1 C K t) (k : ∀ Γ', N1 Γ' → N Γ') : GS X Γ ss N C K t := PSs.imp h fun D σ H ⟨H0, B0, Bl, B, s, n, r⟩ => ⟨H0, B0, Bl, B, s, fun Γ' σ' H' B' e s' => n Γ' σ' H' B' (k Γ' e) s', r⟩
/-- if c: .. return; the rest -/
theorem GS.ifR {b : Bool} {s1 : List Stmt} (hc : CT X (pk Γ) c b) (h1 : b = true → GS X Γ s1 nev C K t) (h2 : b = false → GS X Γ ss N C K t) : GS X Γ (.If c s1 [] pos :: ss) N C K t :=
  GS.cons (N1 := fun Γ' => Γ' = Γ ∧ b = false) (G1.ifS hc (fun h => (h1 h).to fun _ z => z.elim) fun h => GS.nil ⟨rfl, h⟩) fun _ ⟨e, h⟩ => e ▸ h2 h
/-- for x in .. -/
theorem G1.forN {α : Type} {iter : Expr} {body : List Stmt} {ut : α → Ty} {xs : List α} (j : Nat) (Iv : Nat → Gm → Prop) (hi : IV X Γ (.Name x px) iter ut xs) (h0 : Iv 0 Γ) (nd : X.N.Nodup)
    (hb : ∀ i a Γi, xs[i]? = some a → Iv i Γi → GS X (Γi.set j (some (.ty (ut a)))) body (Iv (i + 1)) (Iv (i + 1)) N t) (hN : ∀ Γi, Iv xs.length Γi → N Γi) (hj : X.N[j]? = some x := by rfl) (hx : Loc X.env.scope x := by first | exact .inl rfl | exact .inr rfl)
    (hfx : X.fn x = true ∨ X.env.scope.names.lookup x = some .local := by first | exact .inl rfl | exact .inr rfl)
    (hp : PassesOwn (model X.prog X.w) X.A X.env X.xe := by exact PassesOwn.never) (hc : X.calm = true := by rfl) (hs : ∀ x, foldedSetIterable iter X.env x = pure x := by intro _; rfl) : G1 X Γ (.For (.Name x px) iter body [] pos) N C K t :=
  G1.forS (Γt := fun Γi a => Γi.set j (some (.ty (ut a)))) (js := [j]) Iv hi h0 (pg_name nd hj hx hfx) (fun Γi => TgOk.name j) (fun Γi a m hm => List.getElem?_set_ne fun e => hm (by simp [e])) (fun Γi a m o hm e => by
    have : m = j := by simpa using hm
    subst this
    rcases getset e with ⟨_, z⟩ | ⟨z, _⟩
    · cases z
    · exact z rfl) hb hN hp hc hs
/-- for x, y in .. -/
theorem G1.forP {α : Type} {iter : Expr} {body : List Stmt} {c1 c2 : α → PyData} {xs : List α} (j l : Nat) (Iv : Nat → Gm → Prop) (hi : IV X Γ (.Tuple [.Name x px, .Name y py] kt pt) iter (fun a => tD (.tuple [c1 a, c2 a])) xs) (h0 : Iv 0 Γ) (nd : X.N.Nodup)
    (hb : ∀ i a Γi, xs[i]? = some a → Iv i Γi → GS X ((Γi.set j (some (.ty (tD (c1 a))))).set l (some (.ty (tD (c2 a))))) body (Iv (i + 1)) (Iv (i + 1)) N t) (hN : ∀ Γi, Iv xs.length Γi → N Γi) (hj : X.N[j]? = some x := by rfl) (hl : X.N[l]? = some y := by rfl) (hx : Loc X.env.scope x := by first | exact .inl rfl | exact .inr rfl) (hy : Loc X.env.scope y := by first | exact .inl rfl | exact .inr rfl)
    (hfx : X.fn x = true ∨ X.env.scope.names.lookup x = some .local := by first | exact .inl rfl | exact .inr rfl) (hfy : X.fn y = true ∨ X.env.scope.names.lookup y = some .local := by first | exact .inl rfl | exact .inr rfl)
    (h2 : (assignEach [.Name x px, .Name y py] X.env).map (·.2) = assign (.Name x px) X.env :: (assignEach [.Name y py] X.env).map (·.2) := by rfl) (h3 : (assignEach [.Name y py] X.env).map (·.2) = assign (.Name y py) X.env :: (assignEach [] X.env).map (·.2) := by rfl)
    (h4 : (assignEach [.Name x px, .Name y py] X.env).length = 2 := by rfl) (h5 : (assignEach [.Name x px, .Name y py] X.env).findIdx? (·.1) = none := by rfl)
    (hp : PassesOwn (model X.prog X.w) X.A X.env X.xe := by exact PassesOwn.never) (hc : X.calm = true := by rfl) (hs : ∀ x, foldedSetIterable iter X.env x = pure x := by intro _; rfl) : G1 X Γ (.For (.Tuple [.Name x px, .Name y py] kt pt) iter body [] pos) N C K t :=
  G1.forS (Γt := fun Γi a => (Γi.set j (some (.ty (tD (c1 a))))).set l (some (.ty (tD (c2 a))))) (js := [j, l]) Iv hi h0 (pg_tup hc (pgs_cons (pg_name nd hj hx hfx) (pgs_cons (pg_name nd hl hy hfy) pgs_nil h3) h2) h4 h5) (fun Γi => TgOk.pair j l)
    (fun Γi a m hm => by
      have : j ≠ m ∧ l ≠ m := ⟨fun e => hm (by simp [e]), fun e => hm (by simp [e])⟩
      rw [List.getElem?_set_ne this.2, List.getElem?_set_ne this.1]) (fun Γi a m o hm e => by
    rcases getset e with ⟨_, z⟩ | ⟨z, e⟩
    · cases z
    · rcases getset e with ⟨_, z⟩ | ⟨z2, e⟩
      · cases z
      · rcases List.mem_cons.mp hm with h | h
        · exact z2 h
        · exact z (List.mem_singleton.mp h)) hb hN hp hc hs
end
end Rk
/-! part M3 -/
namespace Rk
/-! ### waiting, paths, rings -/
def waited (R : Rows) (k : Int) : Option Int := if nw R k ≠ k ∧ nw R k ∈ keys R then some (nw R k) else none
theorem waited_some {R : Rows} {k n : Int} (h : waited R k = some n) : n = nw R k ∧ n ≠ k ∧ n ∈ keys R := by
  unfold waited at h
  split at h
  · rename_i c
    cases h
    exact ⟨rfl, c.1, c.2⟩
  · cases h
def pathGo (R : Rows) : Nat → List Int → Option Int → List Int
  | 0, f, _ => f
  | _ + 1, f, none => f
  | n + 1, f, some r => if r ∈ f then f else pathGo R n (f ++ [r]) (waited R r)
def pathOf (R : Rows) (k : Int) : List Int := pathGo R R.length [k] (waited R k)
theorem pathGo_pre (R : Rows) : ∀ (n : Nat) (f : List Int) (o : Option Int), ∃ g, pathGo R n f o = f ++ g
  | 0, f, o => ⟨[], by simp [pathGo]⟩
  | n + 1, f, none => ⟨[], by simp [pathGo]⟩
  | n + 1, f, some r => by
    unfold pathGo
    split
    · exact ⟨[], by simp⟩
    · obtain ⟨g, e⟩ := pathGo_pre R n (f ++ [r]) (waited R r)
      exact ⟨r :: g, by rw [e]; simp⟩
theorem pathGo_keys {R : Rows} : ∀ (n : Nat) (f : List Int) (o : Option Int), (∀ a ∈ f, a ∈ keys R) → (∀ r, o = some r → r ∈ keys R) → ∀ a ∈ pathGo R n f o, a ∈ keys R
  | 0, f, o, h, _ => h
  | n + 1, f, none, h, _ => h
  | n + 1, f, some r, h, h2 => by
    unfold pathGo
    split
    · exact h
    · refine pathGo_keys n _ _ (fun a ha => ?_) fun x e => (waited_some e).2.2
      rcases List.mem_append.mp ha with ha | ha
      · exact h a ha
      · rw [List.mem_singleton.mp ha]; exact h2 r rfl
theorem pathGo_nodup {R : Rows} : ∀ (n : Nat) (f : List Int) (o : Option Int), f.Nodup → (pathGo R n f o).Nodup
  | 0, f, o, h => h
  | n + 1, f, none, h => h
  | n + 1, f, some r, h => by
    unfold pathGo
    split
    · exact h
    · rename_i c
      refine pathGo_nodup n _ _ (List.nodup_append.mpr ⟨h, by simp, fun a ha b hb => ?_⟩)
      rw [List.mem_singleton.mp hb]
      exact fun e => c (e ▸ ha)
theorem path_keys {R : Rows} {k : Int} (h : k ∈ keys R) : ∀ a ∈ pathOf R k, a ∈ keys R := pathGo_keys _ _ _ (by simpa using h) fun r e => (waited_some e).2.2
theorem path_nodup (R : Rows) (k : Int) : (pathOf R k).Nodup := pathGo_nodup _ _ _ (by simp)
theorem path_head (R : Rows) (k : Int) : ∃ g, pathOf R k = k :: g := by
  obtain ⟨g, e⟩ := pathGo_pre R R.length [k] (waited R k)
  exact ⟨g, e⟩
theorem path_ne (R : Rows) (k : Int) : pathOf R k ≠ [] := by
  obtain ⟨g, e⟩ := path_head R k
  rw [e]; exact List.cons_ne_nil _ _
theorem keys_len (R : Rows) : (keys R).length = R.length := by unfold keys; simp
theorem path_len {R : Rows} {k : Int} (h : k ∈ keys R) : (pathOf R k).length ≤ R.length := by
  rw [← keys_len]
  exact (path_nodup R k).length_le_of_subset fun a ha => path_keys h a ha
def lmin (l : List Int) : Int := l.min?.getD 0
theorem lmin_of {l : List Int} {m : Int} (h : m ∈ l) (h2 : ∀ y ∈ l, m ≤ y) : lmin l = m := by
  unfold lmin
  rw [List.min?_eq_some_iff.mpr ⟨h, h2⟩]
  rfl
def lmax (l : List Int) : Int := l.max?.getD 0
theorem lmax_of {l : List Int} {m : Int} (h : m ∈ l) (h2 : ∀ y ∈ l, y ≤ m) : lmax l = m := by
  unfold lmax
  rw [List.max?_eq_some_iff.mpr ⟨h, h2⟩]
  rfl
def lst (l : List Int) : Int := l.getLast?.getD 0
def isHead (R : Rows) (k : Int) : Bool := decide (waited R (lst (pathOf R k)) = some k) && decide (k = lmin (pathOf R k))
def rings (R : Rows) : List (List Int) := ((keys R).filter (isHead R)).map (pathOf R)
def wantsOf (R : Rows) (n : Int) : List Int := (R.filter fun r => decide (r.2 = n)).map (·.1)
def waitingFor (R : Rows) (k : Int) : List Int := (R.filter fun r => decide (r.2 = k) && !decide (r.1 = k)).map (·.1)
def still (R : Rows) (k : Int) : Bool := decide (nw R k = k)
theorem lst_mem {l : List Int} (h : l ≠ []) : lst l ∈ l := by
  unfold lst
  rw [List.getLast?_eq_some_getLast h]
  exact List.getLast_mem h
end Rk
/-! part D6 -/
namespace Rk
open PySem PySem.Spec L2
section
variable {P : Program} {w : World} {K : PySem.W.Frag} {mg : Str → Option Value} {base : Heap} {X : Cx} {Γ : Gm} {e i o : Expr} {C : Addr} {l R : Rows} {k : Int} {pos p : Pos}
/-! ### what is known of the head -/
theorem ex_and {a b : Bool} (h : (a && b) = true) : a = true ∧ b = true := Bool.and_eq_true_iff.mp h
structure ExF (K : PySem.W.Frag) : Prop where
  p1 : propB K "Table" "rows" = true
  p2 : propB K "Outcome" "left" = true
  p3 : propB K "Outcome" "held" = true
  k1 : PySem.W.kitOne K (.type "tuple") (.ref (He.ga K "Table")) = some false
  k2 : PySem.W.kitOne K (.ref (He.ga K "Table")) (.ref (He.ga K "Table")) = some true
  s1 : PySem.W.selfFirst K (He.ga K "Table") = true
  s2 : PySem.W.noSeq K (He.ga K "Table") = true
  m1 : PySem.W.makesIn K (He.ga K "Replace") = true
  i1 : PySem.W.findIn K (.ref (He.ga K "Replace")) "__init__" = some (some (.builtin "object.__init__"))
  f1 : PySem.W.fnIn K (He.ma K (He.ga K "Table") "__getitem__") = true
  f2 : PySem.W.fnIn K (He.ma K (He.ga K "Replace") "__call__") = true
  c1 : PySem.W.findIn K (.ref (He.ga K "Table")) "__class__" = some (some (.builtin "object.__class__"))
  c2 : PySem.W.specialIn K (.builtin "object.__class__") "__get__" = some (some (.builtin "getset_descriptor.__get__"))
  c3 : PySem.W.takesIn K (.builtin "object.__class__") = some true
  c4 : PySem.W.mroIn K (He.ga K "Table") (.type "object") = some true
theorem exF (h : exB K = true) : ExF K := by
  unfold exB at h
  obtain ⟨a1, h⟩ := ex_and h
  obtain ⟨a2, h⟩ := ex_and h
  obtain ⟨a3, h⟩ := ex_and h
  obtain ⟨a4, h⟩ := ex_and h
  obtain ⟨a5, h⟩ := ex_and h
  obtain ⟨a6, h⟩ := ex_and h
  obtain ⟨a7, h⟩ := ex_and h
  obtain ⟨a8, h⟩ := ex_and h
  obtain ⟨a9, h⟩ := ex_and h
  obtain ⟨a10, h⟩ := ex_and h
  obtain ⟨a11, h⟩ := ex_and h
  obtain ⟨a12, h⟩ := ex_and h
  obtain ⟨a13, h⟩ := ex_and h
  obtain ⟨a14, a15⟩ := ex_and h
  exact ⟨a1, a2, a3, of_decide_eq_true a4, of_decide_eq_true a5, a6, a7, a8, He.eqO_ok a9, a10, a11, He.eqO_ok a12, He.eqO_ok a13, of_decide_eq_true a14, of_decide_eq_true a15⟩
theorem propOf {x m : Str} (h : propB K x m = true) : PropOf K (He.ga K x) m (He.ma K (He.ga K x) m) (He5.wf K (He.ga K x) "property" m) := by
  unfold propB at h
  obtain ⟨a1, h⟩ := ex_and h
  obtain ⟨a2, h⟩ := ex_and h
  obtain ⟨a3, a4⟩ := ex_and h
  refine ⟨He.eqO_ok a1, He.eqO_ok a2, of_decide_eq_true a3, ?_⟩
  split at a4
  · rename_i f r e
    exact ⟨r, by rw [e, of_decide_eq_true a4]⟩
  · cases a4
theorem Txt.ex (T : Txt K mg) : ExF K := exF T.s.ex
/-! ### the table's operations -/
theorem tab_ins (v : V) (B : Hp) (h : (tT K R).R v B) : ∃ a dx fs, v = .ref a ∧ B a = some (.ins (He.ga K "Table") dx fs) := let ⟨_, a, dx, d, l, h1, h2, _⟩ := h; ⟨a, dx, _, h1, h2⟩
theorem EV.rows (T : Txt X.K X.mg) (hr : Room 2 X.A) (h : EV X Γ e (tT X.K R)) (wf : WF R) (hab : attributeBase e "rows" X.env (eval e X.env) = eval e X.env := by rfl) : EV X Γ (.Attribute e "rows" pos) (tD (.tuple (R.map dP))) := by
  obtain ⟨fd, F, hb⟩ := ok_rows (P := X.prog) (w := X.w) (base := X.base) T
  exact EV.prop h (fun v B => tab_ins v B) T.cls (propOf T.ex.p1) F hb hr R wf rfl hab
theorem EV.sub (T : Txt X.K X.mg) (hr : Room 5 X.A) (ho : EV X Γ o (tT X.K R)) (hi : EV X Γ i (tI k)) (wf : WF R) (hk : k ∈ keys R) (hsl : ∀ x v, subscripted i true (.ref x) v = runValue (.builtin "lifetime.subscript" ⟨[.ref x, v], []⟩) := by intro _ _; with_unfolding_all rfl) : EV X Γ (.Subscript o i pos) (tI (nw R k)) :=
  EV.subTab ho hi T.mGet T.ex.f1 (ok_getitem (P := X.prog) (w := X.w) (base := X.base) T) hr (R, k) ⟨wf, hk⟩ rfl rfl hsl
theorem o_inT' (T : Txt X.K X.mg) (hr : Room 3 X.A) (wf : WF R) : Opt X (compareOp .In) (tI k) (tT X.K R) (tB (decide (k ∈ keys R))) := Opt.impR (o_inTab T.mIn (ok_contains (P := X.prog) (w := X.w) (base := X.base) T) hr (R, k) wf rfl rfl) tab_r
theorem o_niTR (T : Txt X.K X.mg) (hr : Room 3 X.A) (wf : WF R) : Opt X (compareOp .NotIn) (tI k) (tTR X.K R) (tB (!decide (k ∈ keys R))) := o_niTab T.mIn (ok_contains (P := X.prog) (w := X.w) (base := X.base) T) hr (R, k) wf rfl rfl
theorem o_niT' (T : Txt X.K X.mg) (hr : Room 3 X.A) (wf : WF R) : Opt X (compareOp .NotIn) (tI k) (tT X.K R) (tB (!decide (k ∈ keys R))) := Opt.impR (o_niTR T hr wf) tab_r
theorem c_isTab (T : Txt X.K X.mg) : Clt X (.builtin "isinstance") [tT X.K R, tV (.ref (He.ga X.K "Table"))] (tB true) :=
  Clt.of call_isi fun vs H B Q sm ar q => by
    obtain ⟨v, w, rfl, h1, h2⟩ := ar.two
    obtain rfl : w = .ref _ := h2
    obtain ⟨_, a, dx, d, l, rfl, k1, _⟩ := h1
    exact ⟨_, _, _, _, true, rfl, .own _, .base (.ins (sm _ _ k1) T.cls T.ex.c1 T.ex.c2 T.ex.c3 T.ex.c4), T.ex.k2, q _ _ _ (Stp.refl sm) (.bl true)⟩
theorem c_isTabT {ds : List PyData} (T : Txt X.K X.mg) : Clt X (.builtin "isinstance") [tD (.tuple ds), tV (.ref (He.ga X.K "Table"))] (tB false) :=
  Clt.of call_isi fun vs H B Q sm ar q => by
    obtain ⟨v, w, rfl, h1, h2⟩ := ar.two
    obtain rfl : w = .ref _ := h2
    obtain ⟨a, xs, rfl, k1, k2, k3⟩ := tT_R h1
    exact ⟨_, _, _, _, false, rfl, .own _, .base (.tup (sm _ _ k1)), T.ex.k1, q _ _ _ (Stp.refl sm) (.bl false)⟩
theorem EV.clsName {x : Str} {a : Addr} (hm : X.mg x = some (.ref a)) (hg : Gl X x := by rfl) (hd : (x == ("__debug__" : Str)) = false := by decide) : EV X Γ (.Name x pos) (tV (.ref a)) := EV.const (pe_glob (v := .ref a) hg hm rfl hd) fun _ => rfl
theorem c_minL {ns : List Int} (h : ns ≠ []) (hc : X.calm = true := by rfl) : Clt X (.builtin "min") [tD (dI ns)] (tI (lmin ns)) :=
  Clt.of (cr_min hc) fun vs H B Q sm ar q => by
    obtain ⟨v, rfl, h'⟩ := ar.one
    obtain ⟨a, xs, rfl, h1, h2, h3⟩ := tL_R h'
    exact ⟨a, ns, rfl, h3.ints ▸ SqL.of (sm _ _ h1), List.length_pos_iff.mpr h, fun m hm hle => by rw [← lmin_of hm hle] at *; exact q _ _ _ (Stp.refl sm) (.int _)⟩
theorem atI_last {ns : List Int} (h : ns ≠ []) : atI (ns.map PyData.int) (-1) = some (.int (lst ns)) := by
  have hl : 0 < ns.length := List.length_pos_iff.mpr h
  unfold atI ixN lst
  simp only [List.length_map]
  rw [if_neg (by omega), if_pos (by omega)]
  have e : ((-1 : Int) + (ns.length : Int)).toNat = ns.length - 1 := by omega
  simp only [Option.bind_some]
  rw [List.getElem?_map, e]
  rw [List.getLast?_eq_getElem?]
  cases q : ns[ns.length - 1]? with
  | none => rw [List.getElem?_eq_none_iff] at q; omega
  | some v => rfl
/-! ### keys_of, need_table, need_row -/
theorem sc_keys_of : FnScope ["table", "key", "new"] ["table"] (defScope s_keys_of) := ⟨rfl, rfl, rfl, by decide +kernel, rfl, by decide +kernel, by decide +kernel⟩
theorem ok_keys_of (T : Txt K mg) : DefT P w K mg base "keys_of" 3 (A := Rows) (fun a => [tT K a]) (fun a => WF a) (fun a => tD (dI (keys a))) := by
  refine DefT.top T 6 22 sc_keys_of (fun _ _ _ _ _ _ us hl => match us, hl with | [_], _ => rfl) (fun _ => rfl) fun f cdv Ar outer s H E a hp hr => ?_
  refine GS.one (G1.ret ?_)
  refine EV.cast (EV.lc (pd := fun _ => true) (f := fun r : Int × Int => .int r.1) [("key", 1), ("new", 2)] (IV.tup (EV.rows T hr (EV.var 0) hp)) (fun s H C cl fp => pg_tup rfl (pgs_cons (pg_name (i := 1) sc_keys_of.nd rfl (Or.inl rfl)) (pgs_cons (pg_name (i := 2) sc_keys_of.nd rfl (Or.inl rfl)) pgs_nil))) (TgOk.pair 1 2) (fun p _ s H C cl fp => CTs.nil) (fun r _ _ s H C cl fp => EV.var 1) sc_keys_of.nd) ?_
  rw [filter_yes]
  show _ = tD (.list ((a.map (·.1)).map .int))
  rw [List.map_map]; rfl
theorem sc_need_table : FnScope ["table"] ["table"] (defScope s_need_table) := ⟨rfl, rfl, rfl, by decide +kernel, rfl, by decide +kernel, by decide +kernel⟩
theorem ok_need_table (T : Txt K mg) : DefT P w K mg base "need_table" 1 (A := Rows) (fun a => [tT K a]) (fun a => WF a) (fun a => tN) := by
  refine DefT.top T 7 23 sc_need_table (fun _ _ _ _ _ _ us hl => match us, hl with | [_], _ => rfl) (fun _ => rfl) fun f cdv Ar outer s H E a hp hr => ?_
  exact GS.one (G1.ifF (CT.not (CT.val (EV.callB (T.free 0) (c_isTab T) (EA.cons (EV.var 0) (EA.one (EV.clsName (T.glo 71))))))) (GS.nil rfl))
theorem sc_need_row : FnScope ["table", "key"] ["table", "key"] (defScope s_need_row) := ⟨rfl, rfl, rfl, by decide +kernel, rfl, by decide +kernel, by decide +kernel⟩
theorem ok_need_row (T : Txt K mg) : DefT P w K mg base "need_row" 4 (A := Rows × Int) (fun a => [tT K a.1, tI a.2]) (fun a => WF a.1 ∧ a.2 ∈ keys a.1) (fun a => tN) := by
  refine DefT.top T 8 24 sc_need_row (fun _ _ _ _ _ _ us hl => match us, hl with | [_, _], _ => rfl) (fun _ => rfl) fun f cdv Ar outer s H E a hp hr => ?_
  refine GS.seq (G1.expr (EV.call (ok_need_table T) a.1 hp.1 (hr.mono (by decide)) (EA.one (EV.var 0)))) ?_
  exact GS.one (G1.ifF (CT.cast (CT.cmp (EV.var 1) (EV.var 0) (o_niT' T hr hp.1)) (by rw [decide_eq_true hp.2]; rfl)) (GS.nil rfl))
/-! ### is_still, waited, path_of -/
theorem sc_is_still : FnScope ["table", "key"] ["table", "key"] (defScope s_is_still) := ⟨rfl, rfl, rfl, by decide +kernel, rfl, by decide +kernel, by decide +kernel⟩
theorem ok_is_still (T : Txt K mg) : DefT P w K mg base "is_still" 6 (A := Rows × Int) (fun a => [tT K a.1, tI a.2]) (fun a => WF a.1 ∧ a.2 ∈ keys a.1) (fun a => tB (still a.1 a.2)) := by
  refine DefT.top T 20 36 sc_is_still (fun _ _ _ _ _ _ us hl => match us, hl with | [_, _], _ => rfl) (fun _ => rfl) fun f cdv Ar outer s H E a hp hr => ?_
  exact GS.one (G1.ret (EV.cmp (EV.sub T hr (EV.var 0) (EV.var 1) hp.1 hp.2) (EV.var 1) o_eqI))
theorem sc_waited : FnScope ["table", "key", "new"] ["table", "key"] (defScope s_waited) := ⟨rfl, rfl, rfl, by decide +kernel, rfl, by decide +kernel, by decide +kernel⟩
theorem ok_waited (T : Txt K mg) : DefT P w K mg base "waited" 6 (A := Rows × Int) (fun a => [tT K a.1, tI a.2]) (fun a => WF a.1 ∧ a.2 ∈ keys a.1) (fun a => tD (optD (waited a.1 a.2))) := by
  refine DefT.top T 13 29 sc_waited (fun _ _ _ _ _ _ us hl => match us, hl with | [_, _], _ => rfl) (fun _ => rfl) fun f cdv Ar outer s H E a hp hr => ?_
  refine GS.seq (G1.set 2 (EV.sub T hr (EV.var 0) (EV.var 1) hp.1 hp.2) sc_waited.nd) ?_
  refine GS.one (G1.ret (EV.ifE (CW.ct (CW.and (CT.cmp (EV.var 2) (EV.var 1) o_neI) fun _ => CW.and1 (CT.cmp (EV.var 2) (EV.var 0) (o_inT' T (hr.mono (by decide)) hp.1)))) (fun h => EV.cast (EV.var 2) ?_) fun h => EV.cast EV.non ?_))
  · have h := Bool.and_eq_true_iff.mp h
    unfold waited
    rw [if_pos ⟨by simpa using h.1, by simpa using h.2⟩]; rfl
  · unfold waited
    rw [if_neg fun z => by simp [z.1, z.2] at h]; rfl
theorem sc_path_of : FnScope ["table", "key", "found", "row"] ["table", "key"] (defScope s_path_of) := ⟨rfl, rfl, rfl, by decide +kernel, rfl, by decide +kernel, by decide +kernel⟩
theorem ok_path_of (T : Txt K mg) : DefT P w K mg base "path_of" 7 (A := Rows × Int) (fun a => [tT K a.1, tI a.2]) (fun a => WF a.1 ∧ a.2 ∈ keys a.1) (fun a => tD (dI (pathOf a.1 a.2))) := by
  refine DefT.top T 14 30 sc_path_of (fun _ _ _ _ _ _ us hl => match us, hl with | [_, _], _ => rfl) (fun _ => rfl) fun f cdv Ar outer s H E a hp hr => ?_
  obtain ⟨R, k⟩ := a
  obtain ⟨wf, hk⟩ : WF R ∧ k ∈ keys R := hp
  let Iv : Nat → Gm → Prop := fun m Γ => ∃ (fo : List Int) (ro : Option Int), Γ = [some (.ty (tT K R)), some (.ty (tI k)), some (.own (oL (fo.map .int))), some (.ty (tD (optD ro)))] ∧ fo.Nodup ∧ (∀ x ∈ fo, x ∈ keys R) ∧ (∀ r, ro = some r → r ∈ keys R) ∧ m + fo.length = R.length + 1 ∧ pathGo R m fo ro = pathOf R k
  refine GS.seq (G1.parNT (ds := [.int k]) 2 3 (EA.one (EV.var 1)) (EV.call (ok_waited T) (R, k) ⟨wf, hk⟩ hr (EA.cons (EV.var 0) (EA.one (EV.var 1)))) sc_path_of.nd) ?_
  refine GS.cons (N1 := fun Γ => Γ = [some (.ty (tT K R)), some (.ty (tI k)), some (.own (oL ((pathOf R k).map .int))), Γ[3]?.join]) (G1.whileS Iv R.length ⟨[k], waited R k, rfl, by simp, by simpa using hk, fun r e => (waited_some e).2.2, by simp, rfl⟩ ?_) ?_
  · rintro m Γi ⟨fo, ro, rfl, h1, h2, h3, h4, h5⟩
    cases ro with
    | none =>
      refine ⟨false, CT.cast (CW.ct (CW.and (CT.cmp (EV.var 3) EV.non o_notN) (k' := false) fun h => by simp at h)) (by rfl), fun h => (nomatch h), fun _ => ?_⟩
      have : fo = pathOf R k := by rw [← h5]; cases m <;> rfl
      rw [this]; rfl
    | some r =>
      refine ⟨_, CW.ct (CW.and (CT.cmp (EV.var 3) EV.non o_notN) fun _ => CW.and1 (CT.cmp (EV.var 3 (t := tI r)) (EV.var 2) (o_niL (ns := fo)))), fun hb => ?_, fun hb => ?_⟩
      · have hr' : r ∉ fo := by simpa using hb
        have hm : m ≠ 0 := fun e => by
          have := h1.length_le_of_subset (fun x hx => h2 x hx : fo ⊆ keys R)
          rw [keys_len] at this
          omega
        obtain ⟨m, rfl⟩ := Nat.exists_eq_succ_of_ne_zero hm
        refine GS.seq (G1.append 2 (EV.var 3 (t := tI r)) ?_) ?_
        · rw [List.length_map]
          have := wf.len
          show fo.length < 100000
          omega
        · refine GS.one (G1.to (G1.set 3 (EV.call (ok_waited T) (R, r) ⟨wf, h3 r rfl⟩ hr (EA.cons (EV.var 0) (EA.one (EV.var 3 (t := tI r))))) sc_path_of.nd) fun Γ' e => ⟨m, Nat.lt_succ_self _, fo ++ [r], waited R r, ?_, ?_, ?_, fun x e => (waited_some e).2.2, ?_, ?_⟩)
          · rw [e, List.map_append]; rfl
          · refine List.nodup_append.mpr ⟨h1, by simp, fun x hx y hy => ?_⟩
            rw [List.mem_singleton.mp hy]
            exact fun e => hr' (e ▸ hx)
          · intro x hx
            rcases List.mem_append.mp hx with hx | hx
            · exact h2 x hx
            · rw [List.mem_singleton.mp hx]; exact h3 r rfl
          · rw [List.length_append, List.length_singleton]; omega
          · rw [← h5]
            show _ = (if r ∈ fo then fo else _)
            rw [if_neg hr']
      · have hr' : r ∈ fo := by simpa using hb
        have : fo = pathOf R k := by
          rw [← h5]
          cases m with
          | zero => rfl
          | succ m => show _ = (if r ∈ fo then fo else _); rw [if_pos hr']
        rw [this]; rfl
  · intro Γ1 e1
    rw [e1]
    exact GS.one (G1.ret (EV.var 2))
end
end Rk
/-! part D7 -/
namespace Rk
open PySem PySem.Spec L2
def endS (R : Rows) (rows : List Int) : Str := if waited R (lst rows) ≠ none then "ring" else if nw R (lst rows) = lst rows then "still" else "free"
def pathD (R : Rows) (k : Int) : PyData := .tuple [dT (pathOf R k), .str (endS R (pathOf R k))]
section
variable {P : Program} {w : World} {K : PySem.W.Frag} {mg : Str → Option Value} {base : Heap} {X : Cx} {Γ : Gm} {e i o : Expr} {C : Addr} {l R : Rows} {k : Int} {pos p : Pos}
theorem take_succ' {α : Type} {l : List α} {i : Nat} {a : α} (h : l[i]? = some a) : l.take (i + 1) = l.take i ++ [a] := by rw [List.take_add_one, h]; rfl
theorem sc_end_of : FnScope ["table", "rows", "last"] ["table", "rows"] (defScope s_end_of) := ⟨rfl, rfl, rfl, by decide +kernel, rfl, by decide +kernel, by decide +kernel⟩
theorem ok_end_of (T : Txt K mg) : DefT P w K mg base "end_of" 7 (A := Rows × List Int) (fun a => [tT K a.1, tD (dI a.2)]) (fun a => WF a.1 ∧ a.2 ≠ [] ∧ lst a.2 ∈ keys a.1) (fun a => tS (endS a.1 a.2)) := by
  refine DefT.top T 15 31 sc_end_of (fun _ _ _ _ _ _ us hl => match us, hl with | [_, _], _ => rfl) (fun _ => rfl) fun f cdv Ar outer s H E a hp hr => ?_
  obtain ⟨R, rows⟩ := a
  obtain ⟨wf, hne, hk⟩ : WF R ∧ rows ≠ [] ∧ lst rows ∈ keys R := hp
  refine GS.seq (G1.set 2 (EV.ixL (EV.var 1 (t := tD (dI rows))) (EV.neg EV.int) (atI_last hne)) sc_end_of.nd) ?_
  refine GS.ifR (CT.cmp (EV.call (ok_waited T) (R, lst rows) ⟨wf, hk⟩ hr (EA.cons (EV.var 0) (EA.one (EV.var 2)))) EV.non o_notN) (fun hb => GS.one (G1.ret (EV.cast EV.str ?_))) fun hw => ?_
  · unfold endS
    rw [if_pos (by simpa using hb)]
  · refine GS.one (G1.ret (EV.ifE (CT.cmp (EV.sub T (hr.mono (by decide)) (EV.var 0) (EV.var 2) wf hk) (EV.var 2) o_eqI) (fun h => EV.cast EV.str ?_) fun h => EV.cast EV.str ?_))
    · unfold endS
      rw [if_neg (by simpa using hw), if_pos (by simpa using h)]
    · unfold endS
      rw [if_neg (by simpa using hw), if_neg (by simpa using h)]
theorem sc_rings_of : FnScope ["table", "found", "key", "rows"] ["table"] (defScope s_rings_of) := ⟨rfl, rfl, rfl, by decide +kernel, rfl, by decide +kernel, by decide +kernel⟩
abbrev dLT (l : List (List Int)) : PyData := .list (l.map fun r => dT r)
theorem ok_rings_of (T : Txt K mg) : DefT P w K mg base "rings_of" 8 (A := Rows) (fun a => [tT K a]) (fun a => WF a) (fun a => tD (dLT (rings a))) := by
  refine DefT.top T 17 33 sc_rings_of (fun _ _ _ _ _ _ us hl => match us, hl with | [_], _ => rfl) (fun _ => rfl) fun f cdv Ar outer s H E R wf hr => ?_
  let fo : Nat → List (List Int) := fun i => (((keys R).take i).filter (isHead R)).map (pathOf R)
  let Iv : Nat → Gm → Prop := fun i Γ => ∃ a b, Γ = [some (.ty (tT K R)), some (.own (oL ((fo i).map fun r => dT r))), a, b]
  refine GS.seq (G1.newL 1 sc_rings_of.nd) ?_
  refine GS.cons (N1 := Iv (keys R).length) (G1.forN 2 Iv (IV.list (EV.call (ok_keys_of T) R wf (hr.mono (by decide)) (EA.one (EV.var 0)))) ⟨none, none, rfl⟩ sc_rings_of.nd ?_ fun Γi h => h) ?_
  · rintro i k Γi hk ⟨a, b, rfl⟩
    have hm : k ∈ keys R := List.mem_of_getElem? hk
    have hlm : lst (pathOf R k) ∈ keys R := path_keys hm _ (lst_mem (path_ne R k))
    have hfo : ∀ i, (fo i).length ≤ 40 := fun i => by
      refine Nat.le_trans ?_ wf.len
      show ((((keys R).take i).filter (isHead R)).map (pathOf R)).length ≤ _
      rw [List.length_map, ← keys_len R]
      exact Nat.le_trans (List.length_filter_le _ _) (by rw [List.length_take]; omega)
    refine GS.seq (G1.set 3 (EV.call (ok_path_of T) (R, k) ⟨wf, hm⟩ hr (EA.cons (EV.var 0) (EA.one (EV.var 2 (t := tI k))))) sc_rings_of.nd) ?_
    refine GS.one (G1.ifS (CW.ct (CW.and (CT.cmp (EV.call (ok_waited T) (R, lst (pathOf R k)) ⟨wf, hlm⟩ (hr.mono (by decide)) (EA.cons (EV.var 0) (EA.one (EV.ixL (EV.var 3 (t := tD (dI (pathOf R k)))) (EV.neg EV.int) (atI_last (path_ne R k)))))) (EV.var 2 (t := tI k)) o_eqO)
      fun _ => CW.and1 (CT.cmp (EV.var 2 (t := tI k)) (EV.callB (T.free 13) (c_minL (path_ne R k)) (EA.one (EV.var 3))) o_eqI))) (fun hb => ?_) fun hb => ?_)
    · refine GS.one (G1.to (G1.append 1 (EV.callT (T.free 3) c_tupL (EA.one (EV.var 3 (t := tD (dI (pathOf R k)))))) (ds := (fo i).map fun r => dT r) ?_) ?_)
      · rw [List.length_map]; exact Nat.lt_of_le_of_lt (hfo i) (by decide)
      · rintro Γ' rfl
        refine ⟨_, _, congrArg (fun z => [some (Sl.ty (tT K R)), some (.own (oL z)), some (.ty (tI k)), some (.ty (tD (dI (pathOf R k))))]) ?_⟩
        show _ = (fo (i + 1)).map fun r => dT r
        show _ = ((((keys R).take (i + 1)).filter (isHead R)).map (pathOf R)).map fun r => dT r
        rw [take_succ' hk, List.filter_append, List.map_append, List.map_append, List.filter_cons, if_pos (show isHead R k = true from hb)]
        rfl
    · refine GS.nil ⟨_, _, congrArg (fun z => [some (Sl.ty (tT K R)), some (.own (oL z)), some (.ty (tI k)), some (.ty (tD (dI (pathOf R k))))]) ?_⟩
      show _ = ((((keys R).take (i + 1)).filter (isHead R)).map (pathOf R)).map fun r => dT r
      rw [take_succ' hk, List.filter_append, List.map_append, List.map_append, List.filter_cons, if_neg (by rw [show isHead R k = false from hb]; decide)]
      show _ = _ ++ []
      rw [List.append_nil]
  · rintro Γ1 ⟨a, b, rfl⟩
    refine GS.one (G1.ret (EV.cast (EV.var 1 (t := tD (.list ((fo (keys R).length).map fun r => dT r)))) ?_))
    show tD (.list (((((keys R).take (keys R).length).filter (isHead R)).map (pathOf R)).map fun r => dT r)) = _
    rw [List.take_length]; rfl
theorem sc_path : FnScope ["table", "key", "rows"] ["table", "key"] (defScope s_path) := ⟨rfl, rfl, rfl, by decide +kernel, rfl, by decide +kernel, by decide +kernel⟩
theorem ok_path (T : Txt K mg) : DefT P w K mg base "path" 8 (A := Rows × Int) (fun a => [tT K a.1, tI a.2]) (fun a => WF a.1 ∧ a.2 ∈ keys a.1) (fun a => tD (pathD a.1 a.2)) := by
  refine DefT.top T 16 32 sc_path (fun _ _ _ _ _ _ us hl => match us, hl with | [_, _], _ => rfl) (fun _ => rfl) fun f cdv Ar outer s H E a hp hr => ?_
  obtain ⟨R, k⟩ := a
  obtain ⟨wf, hk⟩ : WF R ∧ k ∈ keys R := hp
  refine GS.seq (G1.expr (EV.call (ok_need_row T) (R, k) ⟨wf, hk⟩ (hr.mono (by decide)) (EA.cons (EV.var 0) (EA.one (EV.var 1))))) ?_
  refine GS.seq (G1.set 2 (EV.call (ok_path_of T) (R, k) ⟨wf, hk⟩ hr (EA.cons (EV.var 0) (EA.one (EV.var 1)))) sc_path.nd) ?_
  exact GS.one (G1.ret (EV.tup (ds := [dT (pathOf R k), .str (endS R (pathOf R k))]) (EA.cons (EV.callT (T.free 3) c_tupL (EA.one (EV.var 2))) (EA.one (EV.call (ok_end_of T) (R, pathOf R k) ⟨wf, path_ne R k, path_keys hk _ (lst_mem (path_ne R k))⟩ hr (EA.cons (EV.var 0) (EA.one (EV.var 2))))))))
theorem sc_waiting_for : FnScope ["table", "key", "one", "new"] ["table", "key"] (defScope s_waiting_for) := ⟨rfl, rfl, rfl, by decide +kernel, rfl, by decide +kernel, by decide +kernel⟩
theorem ok_waiting_for (T : Txt K mg) : DefT P w K mg base "waiting_for" 3 (A := Rows × Int) (fun a => [tT K a.1, tI a.2]) (fun a => WF a.1) (fun a => tD (dI (waitingFor a.1 a.2))) := by
  refine DefT.top T 19 35 sc_waiting_for (fun _ _ _ _ _ _ us hl => match us, hl with | [_, _], _ => rfl) (fun _ => rfl) fun f cdv Ar outer s H E a hp hr => ?_
  refine GS.one (G1.ret ?_)
  refine EV.cast (EV.lc (pd := fun r : Int × Int => decide (r.2 = a.2) && !decide (r.1 = a.2)) (f := fun r : Int × Int => .int r.1) [("one", 2), ("new", 3)] (IV.tup (EV.rows T hr (EV.var 0) hp)) (fun s H C cl fp => pg_tup rfl (pgs_cons (pg_name (i := 2) sc_waiting_for.nd rfl (Or.inl rfl)) (pgs_cons (pg_name (i := 3) sc_waiting_for.nd rfl (Or.inl rfl)) pgs_nil))) (TgOk.pair 2 3)
    (fun p _ s H C cl fp => CTs.one (CW.ct (CW.and (CT.cmp (EV.var 3) (EV.var 1) o_eqI) fun _ => CW.and1 (CT.cmp (EV.var 2) (EV.var 1) o_neI)))) (fun r _ _ s H C cl fp => EV.var 2) sc_waiting_for.nd) ?_
  show _ = tD (.list ((waitingFor a.1 a.2).map .int))
  unfold waitingFor
  rw [List.map_map]; rfl
end
end Rk
/-! part M4 -/
namespace Rk
/-! ### who wants a key -/
def insN : List (Int × List Int) → Int → Int → List (Int × List Int)
  | [], n, k => [(n, [k])]
  | r :: l, n, k => if r.1 = n then (r.1, r.2 ++ [k]) :: l else r :: insN l n k
def byNew (R : Rows) : List (Int × List Int) := R.foldl (fun l r => insN l r.2 r.1) []
theorem byNew_snoc (R : Rows) (r : Int × Int) : byNew (R ++ [r]) = insN (byNew R) r.2 r.1 := by
  unfold byNew; rw [List.foldl_append]; rfl
theorem lookup_insN (n k m : Int) : ∀ l : List (Int × List Int), (insN l n k).lookup m = if m = n then some ((l.lookup m).getD [] ++ [k]) else l.lookup m
  | [] => by
    unfold insN
    rw [List.lookup_cons]
    by_cases h : m = n
    · subst h; simp
    · have : (m == n) = false := by simpa using h
      rw [this, if_neg h]
  | r :: l => by
    unfold insN
    split
    · rename_i e
      subst e
      rw [List.lookup_cons, List.lookup_cons]
      by_cases h : m = r.1
      · subst h; simp
      · have : (m == r.1) = false := by simpa using h
        rw [this, if_neg h]
    · rename_i e
      rw [List.lookup_cons, List.lookup_cons, lookup_insN n k m l]
      by_cases h : m = r.1
      · subst h
        simp [e]
      · have : (m == r.1) = false := by simpa using h
        rw [this]
theorem insN_keys (n k : Int) : ∀ l : List (Int × List Int), (insN l n k).map (·.1) = if n ∈ l.map (·.1) then l.map (·.1) else l.map (·.1) ++ [n]
  | [] => rfl
  | r :: l => by
    unfold insN
    split
    · rename_i e
      rw [if_pos (by rw [e.symm]; simp)]; rfl
    · rename_i e
      rw [List.map_cons, insN_keys n k l, List.map_cons]
      by_cases h : n ∈ l.map (·.1)
      · rw [if_pos h, if_pos (List.mem_cons_of_mem _ h)]
      · rw [if_neg h, if_neg (by simp only [List.mem_cons, not_or]; exact ⟨fun z => e z.symm, h⟩)]; rfl
theorem insN_len (n k : Int) (l : List (Int × List Int)) : (insN l n k).length ≤ l.length + 1 := by
  have := congrArg List.length (insN_keys n k l)
  rw [List.length_map] at this
  rw [this]
  split <;> simp
theorem wantsOf_snoc (R : Rows) (r : Int × Int) (n : Int) : wantsOf (R ++ [r]) n = if n = r.2 then wantsOf R n ++ [r.1] else wantsOf R n := by
  unfold wantsOf
  rw [List.filter_append, List.map_append, List.filter_cons]
  by_cases h : n = r.2
  · subst h; simp
  · have : ¬ r.2 = n := fun z => h z.symm
    simp [this, h]
theorem snoc_ind {α : Type} {P : List α → Prop} (h0 : P []) (h1 : ∀ l a, P l → P (l ++ [a])) (l : List α) : P l := by
  have : ∀ r : List α, P r.reverse := fun r => by
    induction r with
    | nil => exact h0
    | cons a r ih => rw [List.reverse_cons]; exact h1 _ _ ih
  rw [← List.reverse_reverse l]; exact this _
theorem byNew_lookup (R : Rows) (n : Int) : (byNew R).lookup n = if wantsOf R n = [] then none else some (wantsOf R n) := by
  induction R using snoc_ind with
  | h0 => rfl
  | h1 R r ih =>
    rw [byNew_snoc, lookup_insN, wantsOf_snoc, ih]
    by_cases h : n = r.2
    · rw [if_pos h, if_pos h]
      by_cases h2 : wantsOf R n = []
      · simp [h2]
      · simp [h2]
    · rw [if_neg h, if_neg h]
theorem byNew_nodup (R : Rows) : ((byNew R).map (·.1)).Nodup := by
  induction R using snoc_ind with
  | h0 => exact List.nodup_nil
  | h1 R r ih =>
    rw [byNew_snoc, insN_keys]
    split
    · exact ih
    · rename_i h
      refine List.nodup_append.mpr ⟨ih, by simp, fun a ha b hb e => ?_⟩
      rw [List.mem_singleton.mp hb] at e
      exact h (e ▸ ha)
theorem byNew_len (R : Rows) : (byNew R).length ≤ R.length := by
  induction R using snoc_ind with
  | h0 => exact Nat.le_refl _
  | h1 R r ih =>
    rw [byNew_snoc, List.length_append]
    exact Nat.le_trans (insN_len _ _ _) (Nat.succ_le_succ ih)
theorem insN_len2 (n k : Int) (m : Nat) : ∀ l : List (Int × List Int), (∀ r ∈ l, r.2.length ≤ m) → ∀ r ∈ insN l n k, r.2.length ≤ m + 1
  | [], _, r, h => by
    have : r = (n, [k]) := by simpa [insN] using h
    subst this
    show 1 ≤ m + 1
    omega
  | a :: l, h0, r, h => by
    unfold insN at h
    split at h
    · rcases List.mem_cons.mp h with rfl | h
      · have := h0 a List.mem_cons_self
        show (a.2 ++ [k]).length ≤ _
        rw [List.length_append, List.length_singleton]; omega
      · exact Nat.le_succ_of_le (h0 r (List.mem_cons_of_mem _ h))
    · rcases List.mem_cons.mp h with rfl | h
      · exact Nat.le_succ_of_le (h0 _ List.mem_cons_self)
      · exact insN_len2 n k m l (fun r hr => h0 r (List.mem_cons_of_mem _ hr)) r h
theorem byNew_len2 (R : Rows) : ∀ r ∈ byNew R, r.2.length ≤ R.length := by
  induction R using snoc_ind with
  | h0 => intro r h; cases h
  | h1 R r ih =>
    rw [byNew_snoc, List.length_append]
    exact insN_len2 _ _ _ _ ih
theorem mem_byNew {R : Rows} {n : Int} : n ∈ (byNew R).map (·.1) ↔ n ∈ R.map (·.2) := by
  induction R using snoc_ind with
  | h0 => exact Iff.rfl
  | h1 R r ih =>
    rw [byNew_snoc, insN_keys, List.map_append, List.mem_append]
    split
    · rename_i h
      rw [ih]
      refine ⟨Or.inl, fun z => z.elim id fun z => ?_⟩
      have : n = r.2 := by simpa using z
      exact ih.mp (by rw [this]; exact h)
    · rw [List.mem_append, ih]
      simp
end Rk
/-! part D8 -/
namespace Rk
open PySem PySem.Spec L2
/-! ### by_new: a dict of lists, both one's own -/
def doR (l : List (Int × PyData)) (v : V) (H : Hp) : Prop := ∃ (d : Addr) (kv : List (Key × V)), v = .ref d ∧ H d = some (.dK kv) ∧ kv.length ≤ lim ∧ kv.map (·.1) = l.map (fun p => (Sum.inl p.1 : Key)) ∧ Da H (kv.map (·.2)) (l.map (·.2))
/-- a dict of numbers' data, in its order -/
def tDo (l : List (Int × PyData)) : Ty := ⟨doR l, fun e ⟨d, kv, h1, h2, h3, h4, h5⟩ => ⟨d, kv, h1, e _ _ h2, h3, h4, h5.mono e⟩⟩
theorem tDo_dk {l : List (Int × PyData)} {v : V} {H : Hp} (h : (tDo l).R v H) : (tDK fun k => l.lookup k).R v H := by
  obtain ⟨d, kv, h1, h2, h3, h4, h5⟩ := h
  exact ⟨d, kv, h1, .inl h2, fun k => valV_of h4 h5 k⟩
inductive Gk (H B H0 : Hp) (d : Addr) : List (Key × V) → List (Int × List Int) → Prop
  | nil : Gk H B H0 d [] []
  | cons {q : Addr} {n : Int} {ks : List Int} {kv : List (Key × V)} {l : List (Int × List Int)} : H q = some (.lst (ks.map V.int)) → B q = none → H0 q = none → q ≠ d → (∀ r ∈ kv, r.2 ≠ .ref q) → Gk H B H0 d kv l → Gk H B H0 d ((Sum.inl n, .ref q) :: kv) ((n, ks) :: l)
section
variable {H H' B B' H0 : Hp} {d : Addr} {kv : List (Key × V)} {l : List (Int × List Int)} {n k : Int}
theorem Gk.keys (g : Gk H B H0 d kv l) : kv.map (·.1) = l.map (fun p => (Sum.inl p.1 : Key)) := by
  induction g with
  | nil => rfl
  | cons _ _ _ _ _ _ ih => rw [List.map_cons, List.map_cons, ih]
theorem Gk.len (g : Gk H B H0 d kv l) : kv.length = l.length := by simpa using congrArg List.length g.keys
theorem Gk.poke (g : Gk H B H0 d kv l) (h : ∀ r ∈ kv, ∀ q, r.2 = .ref q → H q ≠ none → H' q = H q) : Gk H' B H0 d kv l := by
  induction g with
  | nil => exact .nil
  | cons a1 a2 a3 a4 a5 _ ih =>
    exact .cons (by rw [h _ List.mem_cons_self _ rfl (by rw [a1]; exact fun z => nomatch z)]; exact a1) a2 a3 a4 a5 (ih fun r hr => h r (List.mem_cons_of_mem _ hr))
theorem Gk.at_ (g : Gk H B H0 d kv l) : ∀ r ∈ kv, ∃ q, r.2 = .ref q ∧ H q ≠ none ∧ B q = none ∧ H0 q = none ∧ q ≠ d := by
  induction g with
  | nil => intro r h; cases h
  | cons a1 a2 a3 a4 a5 _ ih =>
    intro r h
    rcases List.mem_cons.mp h with rfl | h
    · exact ⟨_, rfl, (by rw [a1]; exact fun z => nomatch z), a2, a3, a4⟩
    · exact ih r h
theorem Gk.none_ (g : Gk H B H0 d kv l) (h : valV kv (Sum.inl n : Key) = none) : l.lookup n = none := by
  induction g with
  | nil => rfl
  | @cons q m ks kv l a1 a2 a3 a4 a5 _ ih =>
    rw [List.lookup_cons]
    by_cases e : n = m
    · subst e; rw [valV_pos rfl] at h; cases h
    · rw [valV_neg fun z => e (Sum.inl.inj z).symm] at h
      have : (n == m) = false := by simpa using e
      rw [this]; exact ih h
theorem insN_new (h : l.lookup n = none) : insN l n k = l ++ [(n, [k])] := by
  induction l with
  | nil => rfl
  | cons r l ih =>
    rw [List.lookup_cons] at h
    unfold insN
    by_cases e : r.1 = n
    · subst e; simp at h
    · have : (n == r.1) = false := by simpa using fun z : n = r.1 => e z.symm
      rw [this] at h
      rw [if_neg e, ih h]; rfl
theorem Gk.snoc {p : Addr} (g : Gk H B H0 d kv l) (h1 : H p = some (.lst [.int k])) (h2 : B p = none) (h3 : H0 p = none) (h4 : p ≠ d) (h5 : ∀ r ∈ kv, r.2 ≠ .ref p) : Gk H B H0 d (kv ++ [(Sum.inl n, .ref p)]) (l ++ [(n, [k])]) := by
  induction g with
  | nil => exact .cons h1 h2 h3 h4 (fun r h => nomatch h) .nil
  | @cons q m ks kv l a1 a2 a3 a4 a5 _ ih =>
    refine .cons a1 a2 a3 a4 (fun r hr => ?_) (ih fun r hr => h5 r (List.mem_cons_of_mem _ hr))
    rcases List.mem_append.mp hr with hr | hr
    · exact a5 r hr
    · rw [List.mem_singleton.mp hr]
      exact fun z => h5 _ List.mem_cons_self z.symm
theorem Gk.hit {v : V} (g : Gk H B H0 d kv l) (h : valV kv (Sum.inl n : Key) = some v) : ∃ q ks, v = .ref q ∧ H q = some (.lst (ks.map V.int)) ∧ (∃ r ∈ l, r.2 = ks) ∧ B q = none ∧ H0 q = none ∧ q ≠ d ∧ ∀ k, Gk (upd H q (.lst ((ks ++ [k]).map V.int))) B H0 d kv (insN l n k) := by
  induction g with
  | nil => cases h
  | @cons q m ks kv l a1 a2 a3 a4 a5 g ih =>
    by_cases e : m = n
    · subst e
      rw [valV_pos rfl] at h
      cases h
      refine ⟨q, ks, rfl, a1, ⟨_, List.mem_cons_self, rfl⟩, a2, a3, a4, fun k => ?_⟩
      unfold insN
      rw [if_pos rfl]
      exact .cons upd_same a2 a3 a4 a5 (g.poke fun r hr q' hq' _ => upd_ne fun z => a5 r hr (z ▸ hq'))
    · rw [valV_neg fun z => e (Sum.inl.inj z)] at h
      obtain ⟨q', ks', rfl, b1, ⟨r', b2, b3⟩, b4, b5, b6, b7⟩ := ih h
      refine ⟨q', ks', rfl, b1, ⟨r', List.mem_cons_of_mem _ b2, b3⟩, b4, b5, b6, fun k => ?_⟩
      unfold insN
      rw [if_neg e]
      have hne : q ≠ q' := fun z => by
        subst z
        obtain ⟨r, hr, hv⟩ : ∃ r ∈ kv, r.2 = .ref q := by
          unfold valV at h
          cases hf : kv.find? (fun kv => decide (kv.1 = (Sum.inl n : Key))) with
          | none => rw [hf] at h; cases h
          | some r => rw [hf] at h; exact ⟨r, List.mem_of_find?_eq_some hf, Option.some.inj h⟩
        exact a5 r hr hv
      exact .cons (by rw [upd_ne hne]; exact a1) a2 a3 a4 a5 (b7 k)
/-- all of it into the base -/
theorem Gk.data {B2 : Hp} (g : Gk H B H0 d kv l) (hb : ∀ r ∈ kv, ∀ q, r.2 = .ref q → B2 q = H q) (hl : ∀ r ∈ l, r.2.length ≤ lim) : Da B2 (kv.map (·.2)) ((l.map fun p => (p.1, dI p.2)).map (·.2)) := by
  induction g with
  | nil => exact .nil
  | @cons q m ks kv l a1 a2 a3 a4 a5 g ih =>
    refine .cons (.lst (xs := ks.map V.int) (by rw [hb _ List.mem_cons_self _ rfl]; exact a1) (by rw [List.length_map]; exact hl _ List.mem_cons_self) (Da.ofInts ks)) (ih (fun r hr => hb r (List.mem_cons_of_mem _ hr)) fun r hr => hl r (List.mem_cons_of_mem _ hr))
end
structure Bn (H0 B0 Bl : Hp) (Γ : Gm) (l : List (Int × List Int)) (σ : St) (H B : Hp) : Prop where
  ste : Ste H0 B0 Bl Γ σ H B
  d : ∃ d kv, σ[1]? = some (some (.ref d)) ∧ H d = some (.dK kv) ∧ B d = none ∧ H0 d = none ∧ Gk H B H0 d kv l
section
variable {P : Program} {w : World} {K : PySem.W.Frag} {mg : Str → Option Value} {base : Heap} {X : Cx} {Γ : Gm}
theorem Ste.poke {H0 B0 Bl H B : Hp} {σ : St} {a : Addr} {o : HO} (s : Ste H0 B0 Bl Γ σ H B) (hB : B a = none) (h0 : H0 a = none) (no : ∀ (i : Nat) (o : Osp), Γ[i]? ≠ some (some (.own o))) : Ste H0 B0 Bl Γ σ (upd H a o) B := by
  have sm : Same B (upd H a o) := fun b u e => by rw [upd_ne (ne_of_none e hB)]; exact s.sa.sm b u e
  exact ⟨⟨s.sa.ln, sm, s.sa.ty⟩, ⟨fun b u e => by rw [upd_ne (ne_of_none e h0)]; exact s.sp.h b u e, s.sp.b, sm, s.sp.f⟩, s.lb, fun i o e => (no i o e).elim, fun i j oi _ _ e => (no i oi e).elim⟩
theorem Bn.step {H0 B0 Bl H B H' B' : Hp} {σ : St} {l : List (Int × List Int)} (s : Bn H0 B0 Bl Γ l σ H B) (k : Stp H B H' B') : Bn H0 B0 Bl Γ l σ H' B' := by
  obtain ⟨d, kv, h1, h2, h3, h4, g⟩ := s.d
  refine ⟨s.ste.step k, d, kv, h1, k.h _ _ h2, k.f _ h3 (by rw [h2]; exact fun z => nomatch z), h4, ?_⟩
  clear h1 h2 s
  induction g with
  | nil => exact .nil
  | cons a1 a2 a3 a4 a5 _ ih => exact .cons (k.h _ _ a1) (k.f _ a2 (by rw [a1]; exact fun z => nomatch z)) a3 a4 a5 ih
/-- the turn of the loop -/
def BnT (l : List (Int × List Int)) (n k : Int) (Γ : Gm) : TS := fun D σ H => ∃ H0 B0 Bl B, Bn H0 B0 Bl Γ l σ H B ∧ l.length < 1000 ∧ (∀ r ∈ l, r.2.length < 1000) ∧ σ[2]? = some (some (.int k)) ∧ σ[3]? = some (some (.int n)) ∧ (∀ (i : Nat) (o : Osp), Γ[i]? ≠ some (some (.own o))) ∧ ∀ H', Bn H0 B0 Bl Γ (insN l n k) σ H' B → D.nx σ H'
theorem ps_group {l : List (Int × List Int)} {n k : Int} {x y z : Str} {px py pz pl ap1 ap2 c1 c2 pos : Pos} (h1 : X.N[1]? = some x := by rfl) (h2 : X.N[2]? = some y := by rfl) (h3 : X.N[3]? = some z := by rfl)
    (v1 : Vis X.env.scope x := by first | exact Or.inl rfl | exact Or.inr (Or.inl rfl) | exact Or.inr (Or.inr rfl)) (v2 : Vis X.env.scope y := by first | exact Or.inl rfl | exact Or.inr (Or.inl rfl) | exact Or.inr (Or.inr rfl)) (v3 : Vis X.env.scope z := by first | exact Or.inl rfl | exact Or.inr (Or.inl rfl) | exact Or.inr (Or.inr rfl))
    (d1 : (x == ("__debug__" : Str)) = false := by decide) (d2 : (y == ("__debug__" : Str)) = false := by decide) (d3 : (z == ("__debug__" : Str)) = false := by decide) (e1 : (x == ("__classdict__" : Str)) = false := by decide) (e2 : (y == ("__classdict__" : Str)) = false := by decide) (e3 : (z == ("__classdict__" : Str)) = false := by decide)
    (m2 : M2 X (.Name x px) "setdefault" ap1 (.Name z pz) (.List [] pl) c1 := by exact ⟨rfl, rfl, rfl, rfl⟩)
    (hb : attributeBase (.Call (.Attribute (.Name x px) "setdefault" ap1) [.Name z pz, .List [] pl] [] c1) "append" X.env (eval (.Call (.Attribute (.Name x px) "setdefault" ap1) [.Name z pz, .List [] pl] [] c1) X.env) = eval (.Call (.Attribute (.Name x px) "setdefault" ap1) [.Name z pz, .List [] pl] [] c1) X.env := by rfl)
    (hfew : ((backTo c2 (starEach [.Name y py] X.env)).all (fun x => !x.1) && (backToKw c2 (keywordEach [] X.env)).all (fun x => x.1.isSome) && decide (([.Name y py] : List Expr).length + ([] : List Keyword).length + (if ([] : List Keyword).isEmpty then 0 else 1) < 30)) = true := by rfl)
    (hline : (ap2.endLine == c2.line) = true := by rfl) (hse : starEach [.Name y py] X.env = (false, eval (.Name y py) X.env) :: starEach [] X.env := by rfl) (hpl : (backTo c2 (starEach [] X.env)).any (·.1) = false := by rfl)
    (hs : swapsWith (.Call (.Attribute (.Call (.Attribute (.Name x px) "setdefault" ap1) [.Name z pz, .List [] pl] [] c1) "append" ap2) [.Name y py] [] c2) none pos.line X.env = pure false := by rfl) :
    PS X (.Expr (.Call (.Attribute (.Call (.Attribute (.Name x px) "setdefault" ap1) [.Name z pz, .List [] pl] [] c1) "append" ap2) [.Name y py] [] c2) pos) (BnT l n k Γ) := by
  refine PS.imp (ps_expr (pe_bm PySem.F.plainAttrs_list PySem.F.slot_list_append PySem.F.type_list_append mt_append (pe_dsetd (pe_var h1 v1 d1 e1) (pe_var h3 v3 d3 e3) (pe_lst pa_nil) m2) (pa_cons (pe_var h2 v2 d2 e2) pa_nil hse) (hbase := hb) (hfew := hfew) (hline := hline) (hs := hse) (hplain := hpl)) hs) ?_
  rintro D σ H ⟨H0, B0, Bl, B, s, hl1, hl2, hk, hn, no, q⟩
  obtain ⟨d, kv, a1, a2, a3, a4, g⟩ := s.d
  refine ⟨_, a1, d, rfl, .inl ⟨kv, .inl a2⟩, _, hn, Nat.zero_le _, fun p hp => ?_⟩
  have hpd : p ≠ d := fun z => by rw [z, a2] at hp; cases hp
  have hBp : B p = none := s.ste.sa.sm.free hp
  have h0p : H0 p = none := s.ste.sp.h.free hp
  have hkp : ∀ r ∈ kv, r.2 ≠ .ref p := fun r hr e => by
    obtain ⟨q, b1, b2, _⟩ := g.at_ r hr
    rw [e] at b1; cases b1; exact b2 hp
  have d3 : upd H p (.lst []) d = some (.dK kv) := by rw [upd_ne (Ne.symm hpd)]; exact a2
  have s3 := s.ste.look (same_upd hp (o := .lst []))
  have g3 : Gk (upd H p (.lst [])) B H0 d kv l := g.poke fun r hr q e _ => upd_ne fun z => hkp r hr (z ▸ e)
  refine ⟨kv, Sum.inl n, d3, rfl, by rw [g.len]; exact Nat.lt_trans hl1 (by decide), fun v hv => ?_, fun hv => ?_⟩
  · obtain ⟨q', ks, rfl, b1, ⟨r, b2, b3⟩, b4, b5, b6, b7⟩ := g3.hit hv
    refine ⟨Or.inl ⟨rfl, _, SqL.of b1⟩, _, hk, q', _, _, rfl, rfl, b1, ?_, ?_⟩
    · rw [List.length_map, ← b3]; exact Nat.lt_trans (hl2 r b2) (by decide)
    · refine q _ ⟨s3.poke b4 b5 no, d, kv, a1, by rw [upd_ne (Ne.symm b6)]; exact d3, a3, a4, ?_⟩
      have := b7 k
      rw [List.map_append] at this
      exact this
  · have hz : upd (upd H p (.lst [])) d (.dK (putK kv (Sum.inl n) (.ref p))) p = some (.lst []) := by rw [upd_ne hpd]; exact upd_same
    refine ⟨Or.inl ⟨rfl, _, SqL.of hz⟩, _, hk, p, [], _, rfl, rfl, hz, by decide, ?_⟩
    refine q _ ⟨(s3.poke a3 a4 no).poke hBp h0p no, d, _, a1, by rw [upd_ne (Ne.symm hpd)]; exact upd_same, a3, a4, ?_⟩
    rw [putK_new _ hv, insN_new (g.none_ hv)]
    refine Gk.snoc (g.poke fun r hr q e _ => ?_) upd_same hBp h0p hpd hkp
    obtain ⟨q', b1, b2, b3, b4, b5⟩ := g.at_ r hr
    rw [e] at b1; cases b1
    have hqp : q ≠ p := fun z => hkp r hr (z ▸ e)
    rw [upd_ne hqp, upd_ne b5, upd_ne hqp]
end
section
variable {P : Program} {w : World} {K : PySem.W.Frag} {mg : Str → Option Value} {base : Heap} {X : Cx} {Γ : Gm}
abbrev dBy (R : Rows) : List (Int × PyData) := (byNew R).map fun p => (p.1, dI p.2)
theorem sc_by_new : FnScope ["table", "found", "key", "new"] ["table"] (defScope s_by_new) := ⟨rfl, rfl, rfl, by decide +kernel, rfl, by decide +kernel, by decide +kernel⟩
theorem take_succ'' {α : Type} {l : List α} {i : Nat} {a : α} (h : l[i]? = some a) : l.take (i + 1) = l.take i ++ [a] := by rw [List.take_add_one, h]; rfl
def noOwn (Γ : Gm) : Bool := Γ.all fun x => match x with
  | some (.own _) => false
  | _ => true
theorem no_own {Γ : Gm} (h : noOwn Γ = true) (i : Nat) (o : Osp) : Γ[i]? ≠ some (some (.own o)) := fun e => by
  have := List.all_eq_true.mp h _ (List.mem_of_getElem? e)
  cases this
theorem pss_one {st : Stmt} {t : TS} (h : PS X st t) : PSs X [st] t := PSs.imp (pss_cons h pss_nil) fun D σ H q => q
theorem ok_by_new (T : Txt K mg) : DefT P w K mg base "by_new" 3 (A := Rows) (fun a => [tT K a]) (fun a => WF a) (fun a => tDo (dBy a)) := by
  refine DefT.top T 18 34 sc_by_new (fun _ _ _ _ _ _ us hl => match us, hl with | [_], _ => rfl) (fun _ => rfl) fun f cdv Ar outer s H E R wf hr => ?_
  let Γi : Gm → Prop := fun Γ => ∃ a b, Γ = [some (.ty (tT K R)), none, a, b] ∧ (∀ o, a ≠ some (.own o)) ∧ ∀ o, b ≠ some (.own o)
  refine PSs.imp (pss_cons (ps_set (i := 1) sc_by_new.nd rfl (Or.inl rfl) pe_dnewK rfl (Or.inl rfl)) (pss_cons (ps_for PassesOwn.never rfl (IV.tup (X := (cxOf CX0 P w K mg base ["table", "found", "key", "new"] "by_new" (defScope s_by_new) f cdv Ar outer s H E).nox) (Γ := [some (.ty (tT K R)), none, none, none]) (EV.rows T hr (EV.var 0) wf))
    (pg_tup rfl (pgs_cons (pg_name (i := 2) sc_by_new.nd rfl (Or.inl rfl)) (pgs_cons (pg_name (i := 3) sc_by_new.nd rfl (Or.inl rfl)) pgs_nil)))
    (pss_one (t := fun D σ H => ∃ l n k Γ, BnT l n k Γ D σ H) ⟨fun pins s σ H D I ⟨l, n, k, Γ, q⟩ => (ps_group (l := l) (n := n) (k := k) (Γ := Γ)).run pins s σ H D I q⟩) (fun x => rfl)) (pss_cons (ps_ret (pe_var (i := 1) rfl (Or.inl rfl))) pss_nil))) ?_
  rintro D σ H1 ⟨H0, B0, Bl, B, st, n, ct, bk, rt⟩ d hd
  have hBd : B d = none := st.sa.sm.free hd
  have h0d : H0 d = none := st.sp.h.free hd
  have hσ : 1 < σ.length := by rw [st.sa.ln]; exact Nat.le_of_ble_eq_true rfl
  have s0 := st.look (same_upd hd (o := .dK []))
  have s1 : Ste H0 B0 Bl [some (.ty (tT K R)), none, none, none] (σ.set 1 (some (.ref d))) (upd H1 d (.dK [])) B :=
    ⟨s0.sa.none (j := 1), s0.sp, s0.lb, fun i o e => (no_own rfl i o e).elim, fun i j oi _ _ e => (no_own rfl i oi e).elim⟩
  have b1 : Bn H0 B0 Bl [some (.ty (tT K R)), none, none, none] [] (σ.set 1 (some (.ref d))) (upd H1 d (.dK [])) B := ⟨s1, d, [], List.getElem?_set_self hσ, upd_same, hBd, h0d, .nil⟩
  refine ⟨B, s1.sa, fun J H2 B2 Gd Y t1 wk hG hY hl => for_it (g := gTup K 2 (gCons (gName 2) (gCons (gName 3) gNil))) (tb := fun D σ H => ∃ l n k Γ, BnT l n k Γ D σ H) wk
    (fun i σ' H' => ∃ Γ B', Γi Γ ∧ Bn H0 B0 B2 Γ (byNew (R.take i)) σ' H' B') ⟨_, B2, ⟨none, none, rfl, fun o => by simp, fun o => by simp⟩, ?_⟩ ?_ ?_ ?_⟩
  · have b2 := b1.step t1
    exact ⟨b2.ste.rebase (.refl _), b2.d⟩
  · rintro i σ' H' _ ⟨Γ, B', _, b'⟩
    exact hG H' B' b'.ste.lb b'.ste.sa.sm
  · rintro i x σ' H' H'' hi' ⟨Γ, B', ⟨a, b, rfl, ha, hb⟩, b'⟩ hy
    obtain ⟨r, B3, hx, s3, rx⟩ := hY i x H' H'' B' b'.ste.lb b'.ste.sa.sm hy
    have b3 := b'.step s3
    refine TgOk.pair (K := K) (c1 := fun r : Int × Int => .int r.1) (c2 := fun r : Int × Int => .int r.2) 2 3 r x _ _ B3 _ b3.ste.sa rx fun σ2 sa2 hl2 hs2 => ?_
    refine ⟨byNew (R.take i), r.2, r.1, [some (.ty (tT K R)), none, some (.ty (tI r.1)), some (.ty (tI r.2))], H0, B0, B2, B3, ⟨⟨sa2, b3.ste.sp, b3.ste.lb, fun i o e => (no_own rfl i o e).elim, fun i j oi _ _ e => (no_own rfl i oi e).elim⟩, ?_⟩, ?_, ?_, ?_, ?_, no_own rfl, ?_⟩
    · obtain ⟨d, kv, h1, h2⟩ := b3.d
      exact ⟨d, kv, by rw [hs2 1 (by decide)]; exact h1, h2⟩
    · refine Nat.lt_of_le_of_lt (byNew_len _) ?_
      have := wf.len
      rw [List.length_take]; omega
    · intro q hq
      have h1 := byNew_len2 _ q hq
      have := wf.len
      rw [List.length_take] at h1
      omega
    · obtain ⟨v, h1, h2⟩ := sa2.ty 2 (tI r.1) rfl
      rw [tI_R h2] at h1; exact h1
    · obtain ⟨v, h1, h2⟩ := sa2.ty 3 (tI r.2) rfl
      rw [tI_R h2] at h1; exact h1
    · intro H4 b4
      rw [← byNew_snoc, ← take_succ'' hx] at b4
      have : ∃ Γ B', Γi Γ ∧ Bn H0 B0 B2 Γ (byNew (R.take (i + 1))) σ2 H4 B' := ⟨_, B3, ⟨_, _, rfl, fun o => by simp, fun o => by simp⟩, b4⟩
      exact this
  · rintro σ' H' ⟨Γ, B', _, b'⟩
    rw [List.take_length] at b'
    obtain ⟨d, kv, h1, h2, h3, h4, g⟩ := b'.d
    refine ⟨_, h1, ?_⟩
    classical
    let own : Addr → Prop := fun a => a = d ∨ ∃ r ∈ kv, r.2 = .ref a
    have hB : ∀ a, own a → H0 a = none ∧ B' a = none := fun a ha => by
      rcases ha with rfl | ⟨r, hr, e⟩
      · exact ⟨h4, h3⟩
      · obtain ⟨q, e1, _, e3, e4, _⟩ := g.at_ r hr
        rw [e] at e1; cases e1; exact ⟨e4, e3⟩
    have sBB : Same B' fun a => if own a then H' a else B' a := fun a o e => by
      have : ¬ own a := fun z => by rw [(hB a z).2] at e; cases e
      show (if own a then H' a else B' a) = some o
      rw [if_neg this]; exact e
    refine rt (.ref d) H' (fun a => if own a then H' a else B' a) ⟨b'.ste.sp.h, b'.ste.sp.b.trans sBB, fun a o e => ?_, fun a e1 e2 => ?_⟩ ⟨d, kv, rfl, ?_, ?_, ?_, ?_⟩
    · have e : (if own a then H' a else B' a) = some o := e
      by_cases ha : own a
      · rw [if_pos ha] at e; exact e
      · rw [if_neg ha] at e; exact b'.ste.sa.sm a o e
    · show (if own a then H' a else B' a) = none
      rw [if_neg fun z => e2 (hB a z).1]; exact b'.ste.sp.f a e1 e2
    · show (if own d then H' d else B' d) = _
      rw [if_pos (Or.inl rfl)]; exact h2
    · rw [g.len]
      refine Nat.le_trans (byNew_len R) (Nat.le_trans wf.len (by decide))
    · rw [g.keys, List.map_map]; rfl
    · refine g.data (fun r hr q e => ?_) fun r hr => Nat.le_trans (byNew_len2 R r hr) (Nat.le_trans wf.len (by decide))
      show (if own q then H' q else B' q) = _
      rw [if_pos (Or.inr ⟨r, hr, e⟩)]
end
end Rk
/-! part L5 -/
/-! ### what the kit lacks: sorted of a tuple, of a set of tuples of any length; set of a list of ints, of a tuple of tuples -/
namespace R5
open PySem PySem.Calls PyProof.Rows PySem.W
section
variable {prog : Program} {w : World} {A : Around} {E : Value → Shared → Prop} {s : Shared}
theorem gather_tup {l : Addr} {vs : List Value} {Q : List Value → Shared → Prop} (hl : s.heap.IsTuple l vs.toArray) (hz : vs.length ≤ sizeLine)
    (h : Q vs { s with heap := (s.heap.push (seqObj "list" #[] 0)).update s.heap.objs.size (Obj.mapSeq (· ++ vs.toArray)) }) : wpAny (model prog w) A (collect (.ref l)) Q E s := by
  obtain ⟨o, ho, hc, n, hd⟩ := hl
  have hne : s.heap.objs.size ≠ l := Nat.ne_of_gt (Heap.lt_size ho)
  have ho' : (s.heap.push (seqObj "list" #[] 0)).get? l = some o := Heap.get?_push_of_some _ ho
  have hn : (s.heap.push (seqObj "list" #[] 0)).get? s.heap.objs.size = some (seqObj "list" #[] 0) := Heap.get?_push_size _ rfl
  have hsz : (#[] ++ vs.toArray : Array Value).size ≤ sizeLine + 1 := by
    rw [Array.size_append, List.size_toArray]
    exact Nat.le_trans (Nat.le_of_eq (Nat.zero_add _)) (Nat.le_succ_of_le hz)
  unfold collect
  apply wpAny_bind
  apply wpAny_runValue
  apply codeAny_builtin entry_proto_collect'
  show wpAny _ _ (do again (.builtin "list.__iadd__" ⟨[← newList [], .ref l], []⟩)) _ _ s
  apply wpAny_bind
  refine wpAny_newList ?_ (Nat.zero_le _)
  apply wpAny_pure
  refine ⟨Code.quiet_builtin _ (by decide +kernel), codeAny_builtin entry_list_iadd' ?_⟩
  show wpAny _ _ (Builtin.List.listExtendWith (.ref s.heap.objs.size) (.ref l) (.ref s.heap.objs.size)) _ _ { s with heap := s.heap.push (seqObj "list" #[] 0) }
  unfold Builtin.List.listExtendWith
  apply wpAny_bind
  refine wpAny_typeOf (T := "tuple") ⟨o, ho', hc⟩ ?_
  rw [if_pos (by rw [show (Value.type "tuple" == Value.type "tuple") = true from rfl]; simp)]
  apply wpAny_bind
  refine listItems_at ho' hd ?_
  apply wpAny_bind
  refine listItems_at hn rfl ?_
  rw [if_neg (by simp)]
  apply wpAny_bind
  refine listUpdate_at hn rfl ?_ (Nat.zero_le _) hsz
  apply wpAny_pure
  show wpAny (model prog w) A (load s.heap.objs.size >>= _) Q E _
  apply wpAny_bind
  refine wpAny_load (get?_update_seq hn _) ?_
  apply wpAny_pure
  rw [show ((#[] : Array Value) ++ vs.toArray).toList = vs by simp]
  exact h
/-- sorted(x), by whatever gathers x's items -/
theorem sorted_gen {v : Value} {Q : Value → Shared → Prop} {β : Type} {enc : β → PyData} {R : Value → β → Prop} (Col : Shared → List Value → List β → Prop)
    (hcol : ∀ (Q' : List Value → Shared → Prop), (∀ s1 vs bs, Col s1 vs bs → Q' vs s1) → wpAny (model prog w) A.in1 (collect v) Q' (fun _ _ => False) s)
    (hR : ∀ s1 vs bs, Col s1 vs bs → EachIs R vs bs ∧ EachIs (fun v b => Reads s1.heap v (enc b) []) vs bs ∧ AllAlike (bs.map enc) ∧ Sortable (bs.map enc) ∧ bs.length ≤ sizeLine ∧ ∀ b, b ∈ bs → A.units + 3 + (enc b).depth < cLine)
    (h : ∀ s1 vs bs out c h', Col s1 vs bs → out.length = bs.length → EachIs R out (bs.mergeSort (dataLe false enc)) → h'.get? s1.heap.objs.size = some (seqObj "list" (List.toArray out) c) → (∀ b o, s1.heap.get? b = some o → h'.get? b = some o) → Q (.ref s1.heap.objs.size) { s1 with heap := h' }) :
    wpAny (model prog w) A (call (.builtin "sorted") [v]) Q E s := by
  refine call_function_entry kind_sorted plain_sorted entry_sorted (args_sorted1 _) ?_
  unfold Builtin.«sorted»
  refine wpAny_bind (m := checkCount "sorted" 1 1 _) (wpAny_pure ?_)
  apply wpAny_bind
  refine wpAny_mono (hcol (fun vs s1 => ∃ bs, Col s1 vs bs) fun s1 vs bs hc => ⟨bs, hc⟩) (fun vs s1 ⟨bs, hc⟩ => ?_) fun _ _ z => z.elim
  obtain ⟨e, er, hal, hk, hL, hu⟩ := hR s1 vs bs hc
  have hvl : vs.length ≤ sizeLine := by rw [e.length]; exact hL
  apply wpAny_bind
  refine wpAny_newList ?_ hvl
  have hoL : (s1.heap.push (seqObj "list" vs.toArray 0)).get? s1.heap.objs.size = some (seqObj "list" vs.toArray 0) := Heap.get?_push_size _ rfl
  have er' : EachIs (fun v b => ∃ as, Reads (s1.heap.push (seqObj "list" vs.toArray 0)) v (enc b) as ∧ s1.heap.objs.size ∉ as) vs bs := er.mono fun _ _ r => ⟨[], PyProof.Rows.Reads.keeps (fun _ _ q => Heap.get?_push_of_some _ q) r, by simp⟩
  apply wpAny_bind
  apply wpAny_holding
  refine list_sort_data (s := { s1 with heap := s1.heap.push (seqObj "list" vs.toArray 0) }) hoL e er' hal hk hL (fun b hb => by have := hu b hb; show A.units + 1 + 1 + (enc b).depth < cLine; omega) fun out ho eo => ?_
  apply wpAny_pure
  obtain ⟨c, hc'⟩ := sortedHeap_at (vs := vs) (out := out.toArray) hoL
  refine ⟨_, rfl, h s1 vs bs out c _ hc ho eo hc' fun b u q => ?_⟩
  have hlt := Heap.lt_size q
  rw [sortedHeap_old (Nat.ne_of_lt hlt) (by rw [size_push']; exact Nat.lt_succ_of_lt hlt)]
  exact Heap.get?_push_of_some _ q
end
abbrev eSet (w : World) : Obj := { cls := .type "set", dict := none, data := .set #[] 0 (.fresh 0 0 (!w.params.followText "set-order")) }
/-! set(x), x a list -/
section
open PySem.Spec L2
variable {P : Program} {w : World} {A : Around} {E : Value → Shared → Prop} {s : Shared}
theorem set_of_list {l : Addr} {items : Array Value} {Q : Value → Shared → Prop} (Good : Shared → Prop) (hl : s.heap.IsList l items)
    (loop : codeAny (model P w) A.in1.in1 (.builtin "set.update.loop" ⟨[.ref s.heap.objs.size, .ref (s.heap.push (eSet w)).objs.size], []⟩) (fun r s' => r = .ok (.ret .none) ∧ Good s') { s with heap := (s.heap.push (eSet w)).push { cls := .type "list_iterator", data := .fields #[.ref l, .int 0 0] } })
    (h : ∀ s', Good s' → Q (.ref s.heap.objs.size) s') : wpAny (model P w) A (call (.type "set") [.ref l]) Q E s := by
  have hS : (s.heap.push (eSet w)).get? s.heap.objs.size = some (eSet w) := Heap.get?_push_size _ rfl
  have hT : Shared.TypeIs { s with heap := s.heap.push (eSet w) } (.ref s.heap.objs.size) "set" := ⟨_, hS, rfl⟩
  obtain ⟨c, tl, hmro⟩ := F.called_set.mro
  have hmade := F.called_set.made
  have hsub := F.called_set.sub
  have h1 := F.called_set.notType
  have h2 := F.called_set.canCreate
  have hct := F.typeCall_set_1 (.ref l)
  apply wpAny_call
  apply codeAny_of_tree
  show wpAny _ _ (callAny (.type "set") _) _ _ _
  apply wpAny_pure
  refine ⟨Code.quiet_builtin _ (by decide +kernel), codeAny_builtin F.entry_type_call ?_⟩
  rw [Around.under_plain (weight_type_call_type "set" [.ref l] []) rfl]
  repeat (any_goals (first | assumption | wp_step))
  apply codeAny_mono (code_set_led1 (.ref l) (E := E) (Q₁ := fun v s1 => v = .ref s.heap.objs.size ∧ s1 = { s with heap := s.heap.push (eSet w) }) ⟨rfl, rfl⟩)
  intro r s1 hr
  cases r with
  | error e => exact hr
  | ok fl =>
    cases fl with
    | next => exact hr.elim
    | brk => exact hr.elim
    | cont => exact hr.elim
    | ret obj =>
      obtain ⟨rfl, rfl⟩ := hr
      have hli := F.called_set.init.lookup
      have hbi := F.called_set.init.bind (.ref s.heap.objs.size)
      repeat (any_goals (first | assumption | wp_step))
      apply codeAny_mono (codeAny_call_builtin (R := wants (fun r s2 => r = .none ∧ Good s2) E) F.called_set.init.plain F.entry_set_init (check_set_init_1 hT ?_))
      · intro r2 s2 hr2
        cases r2 with
        | error e => exact hr2
        | ok fl2 =>
          cases fl2 with
          | next => exact hr2.elim
          | brk => exact hr2.elim
          | cont => exact hr2.elim
          | ret r =>
            obtain ⟨rfl, g⟩ := hr2
            repeat (any_goals (first | assumption | wp_step))
            exact h _ g
      · obtain ⟨⟨ocls, odict, odata, oslots⟩, hol, hcl, nl, hdl⟩ := hl
        cases hcl
        cases hdl
        have hol' : (s.heap.push (eSet w)).get? l = some { cls := .type "list", dict := odict, data := .seq items nl, slots := oslots } := Heap.get?_push_of_some _ hol
        have hl1 : (s.heap.push (eSet w)).IsList l items := ⟨_, hol', rfl, nl, rfl⟩
        have hsls := F.sub_list_set
        have hslf := F.sub_list_frozenset
        have hne : (Value.type "list" == Value.type "dict") = false := by decide
        unfold Builtin.«set.__init__» noKeywords Builtin.Frozenset.updateFrom
        generalize hPI : pyIter = PI
        wp_walk
        subst hPI
        refine wpAny_pyIter_list hl1 ?_
        apply wpAny_bind
        apply wpAny_runValue
        apply codeAny_mono loop
        rintro r s' ⟨rfl, g⟩
        show wpAny _ _ _ _ _ _
        apply wpAny_pure
        show wpAny _ _ (ret Value.none) _ _ _
        exact wpAny_pure ⟨rfl, g⟩
end

/-! set(x), x a tuple -/
section
open PySem.Spec L2
variable {P : Program} {w : World} {A : Around} {E : Value → Shared → Prop} {s : Shared}
theorem set_of_tuple {l : Addr} {items : Array Value} {Q : Value → Shared → Prop} (Good : Shared → Prop) (hl : s.heap.IsTuple l items)
    (loop : codeAny (model P w) A.in1.in1 (.builtin "set.update.loop" ⟨[.ref s.heap.objs.size, .ref (s.heap.push (eSet w)).objs.size], []⟩) (fun r s' => r = .ok (.ret .none) ∧ Good s') { s with heap := (s.heap.push (eSet w)).push { cls := .type "tuple_iterator", data := .fields #[.ref l, .int 0 0] } })
    (h : ∀ s', Good s' → Q (.ref s.heap.objs.size) s') : wpAny (model P w) A (call (.type "set") [.ref l]) Q E s := by
  have hS : (s.heap.push (eSet w)).get? s.heap.objs.size = some (eSet w) := Heap.get?_push_size _ rfl
  have hT : Shared.TypeIs { s with heap := s.heap.push (eSet w) } (.ref s.heap.objs.size) "set" := ⟨_, hS, rfl⟩
  obtain ⟨c, tl, hmro⟩ := F.called_set.mro
  have hmade := F.called_set.made
  have hsub := F.called_set.sub
  have h1 := F.called_set.notType
  have h2 := F.called_set.canCreate
  have hct := F.typeCall_set_1 (.ref l)
  apply wpAny_call
  apply codeAny_of_tree
  show wpAny _ _ (callAny (.type "set") _) _ _ _
  apply wpAny_pure
  refine ⟨Code.quiet_builtin _ (by decide +kernel), codeAny_builtin F.entry_type_call ?_⟩
  rw [Around.under_plain (weight_type_call_type "set" [.ref l] []) rfl]
  repeat (any_goals (first | assumption | wp_step))
  apply codeAny_mono (code_set_led1 (.ref l) (E := E) (Q₁ := fun v s1 => v = .ref s.heap.objs.size ∧ s1 = { s with heap := s.heap.push (eSet w) }) ⟨rfl, rfl⟩)
  intro r s1 hr
  cases r with
  | error e => exact hr
  | ok fl =>
    cases fl with
    | next => exact hr.elim
    | brk => exact hr.elim
    | cont => exact hr.elim
    | ret obj =>
      obtain ⟨rfl, rfl⟩ := hr
      have hli := F.called_set.init.lookup
      have hbi := F.called_set.init.bind (.ref s.heap.objs.size)
      repeat (any_goals (first | assumption | wp_step))
      apply codeAny_mono (codeAny_call_builtin (R := wants (fun r s2 => r = .none ∧ Good s2) E) F.called_set.init.plain F.entry_set_init (check_set_init_1 hT ?_))
      · intro r2 s2 hr2
        cases r2 with
        | error e => exact hr2
        | ok fl2 =>
          cases fl2 with
          | next => exact hr2.elim
          | brk => exact hr2.elim
          | cont => exact hr2.elim
          | ret r =>
            obtain ⟨rfl, g⟩ := hr2
            repeat (any_goals (first | assumption | wp_step))
            exact h _ g
      · obtain ⟨⟨ocls, odict, odata, oslots⟩, hol, hcl, nl, hdl⟩ := hl
        cases hcl
        cases hdl
        have hol' : (s.heap.push (eSet w)).get? l = some { cls := .type "tuple", dict := odict, data := .seq items nl, slots := oslots } := Heap.get?_push_of_some _ hol
        have hl1 : (s.heap.push (eSet w)).IsTuple l items := ⟨_, hol', rfl, nl, rfl⟩
        have hsls := F.sub_tuple_set
        have hslf := F.sub_tuple_frozenset
        have hne : (Value.type "tuple" == Value.type "dict") = false := by decide
        unfold Builtin.«set.__init__» noKeywords Builtin.Frozenset.updateFrom
        generalize hPI : pyIter = PI
        wp_walk
        subst hPI
        refine wpAny_pyIter_tuple hl1 ?_
        apply wpAny_bind
        apply wpAny_runValue
        apply codeAny_mono loop
        rintro r s' ⟨rfl, g⟩
        show wpAny _ _ _ _ _ _
        apply wpAny_pure
        show wpAny _ _ (ret Value.none) _ _ _
        exact wpAny_pure ⟨rfl, g⟩
end
end R5
/-! part L6 -/
namespace Rk
open PySem PySem.Spec L2
open PyProof.Rows (seqObj)
open PySem.W (EachIs AllAlike Sortable alike alikeAll dataLe)
/-- items that sorted can order, of one kind, with no list within -/
structure Enc {β : Type} (enc : β → PyData) : Prop where
  no : ∀ h v b as, Reads h v (enc b) as → as = []
  al : ∀ b b', alike (enc b) (enc b') = true
  dp : ∀ b, (enc b).depth ≤ 8
theorem reads_ints {h : Heap} : ∀ {l : List Int} {vs : List Value} {as : List Addr}, ReadsAll h vs (l.map .int) as → as = []
  | [], _, _, r => by cases r; rfl
  | n :: l, _, _, r => by
    cases r with
    | cons h1 h2 => cases h1; rw [reads_ints h2]; rfl
theorem alike_ints : ∀ l m : List Int, alikeAll (l.map .int) (m.map .int) = true
  | [], _ => by rw [List.map_nil, alikeAll]
  | _ :: _, [] => by rw [List.map_cons, List.map_nil, alikeAll]
  | a :: l, b :: m => by rw [List.map_cons, List.map_cons, alikeAll, alike, alike_ints l m]; rfl
theorem enc_int : Enc PyData.int := ⟨fun h v b as r => by cases r; rfl, fun _ _ => rfl, fun _ => by simp [PyData.depth]⟩
theorem depth_ints : ∀ l : List Int, PyData.depthAll (l.map .int) ≤ 1
  | [] => by simp [PyData.depthAll]
  | a :: l => by
    have := depth_ints l
    simp only [List.map_cons, PyData.depthAll, PyData.depth]
    omega
theorem enc_tup : Enc (fun l : List Int => PyData.tuple (l.map .int)) := ⟨fun h v b as r => by
  cases r with
  | tuple _ _ _ h4 => exact reads_ints h4, fun b b' => by rw [alike]; exact alike_ints b b', fun b => by
  have := depth_ints b
  simp only [PyData.depth]
  omega⟩
section
variable {X : Cx} {β : Type} {enc : β → PyData} {pins : List (Addr × Obj)} {σ : St} {H B : Hp} {s s' : Shared}
def RV (B : Hp) (enc : β → PyData) (v : Value) (b : β) : Prop := ∃ x, RelV x v ∧ Dv B x (enc b)
theorem each_of : ∀ {xs : List V} {its : List Value} {bs : List β}, Vals xs its → Da B xs (bs.map enc) → EachIs (RV B enc) its bs
  | _, _, [], .nil, _ => .nil
  | _, _, [], .cons _ _, h => by cases h
  | _, _, _ :: _, .nil, h => by cases h
  | _, _, b :: bs, .cons r t, h => by cases h with | cons h1 h2 => exact .cons ⟨_, r, h1⟩ (each_of t h2)
theorem each_to : ∀ {out : List Value} {bs : List β}, EachIs (RV B enc) out bs → ∃ ys, Vals ys out ∧ Da B ys (bs.map enc)
  | _, _, .nil => ⟨[], .nil, .nil⟩
  | _, _, .cons ⟨x, r, h⟩ t => by
    obtain ⟨ys, h1, h2⟩ := each_to t
    exact ⟨x :: ys, .cons r h1, .cons h h2⟩
theorem each_reads (I : Inv X pins σ H s) (sm : Same B H) (en : Enc enc) : ∀ {its : List Value} {bs : List β}, EachIs (RV B enc) its bs → EachIs (fun v b => Reads s.heap v (enc b) []) its bs
  | _, _, .nil => .nil
  | _, _, .cons ⟨x, r, h⟩ t => by
    obtain ⟨as, q⟩ := Dp.reads I _ _ _ (Dv.dp (h.mono sm)) r
    rw [en.no _ _ _ _ q] at q
    exact .cons q (each_reads I sm en t)
theorem inv_list {p : Addr} {out : List Value} {c : Nat} {ys : List V} (I : Inv X pins σ H s) (k : ∀ b o, s.heap.get? b = some o → s'.heap.get? b = some o) (g : s'.gens = s.gens) (o : s'.os = s.os) (hp : s.heap.objs.size ≤ p) (hg : s'.heap.get? p = some (seqObj "list" out.toArray c))
    (hv : Vals ys out) (hl : ys.length ≤ sizeLine) : Inv X pins σ (upd H p (.lst ys)) s' :=
  I.call' (ch := []) o (Un.laid k hp (I.hok.fresh hp)) (I.hok.laid k hp ⟨hl, out, c, hv, hg⟩) (by rw [g]; exact I.bare) (fun _ z => nomatch z)
/-- sorted(x), x's items gathered -/
theorem sort_go {v : Value} {bs0 : List β} {R : Result → Prop} {Q : VK} (I : Inv X pins σ H s) (sm : Same B H) (en : Enc enc) (hu : X.A.units + 16 < cLine) (ok : List β → Prop) (hs : ∀ bs, ok bs → Sortable (bs.map enc)) (hl : ∀ bs, ok bs → bs.length ≤ lim)
    (hcol : ∀ (Q' : List Value → Shared → Prop), (∀ s1 vs bs, ok bs → (∀ b o, s.heap.get? b = some o → s1.heap.get? b = some o) → s.heap.objs.size ≤ s1.heap.objs.size → s1.gens = s.gens → s1.os = s.os → EachIs (RV B enc) vs bs → Q' vs s1) → wpAny (model X.prog X.w) X.A.in1 (collect v) Q' (fun _ _ => False) s)
    (q : ∀ bs v H' B', ok bs → Stp H B H' B' → (tD (.list ((bs.mergeSort (dataLe false enc)).map enc))).R v B' → Q v H') : wpAny (model X.prog X.w) X.A (call (.builtin "sorted") [v]) (EP X pins σ Q) X.xe s := by
  refine R5.sorted_gen (enc := enc) (R := RV B enc) (fun s1 vs bs => ok bs ∧ (∀ b o, s.heap.get? b = some o → s1.heap.get? b = some o) ∧ s.heap.objs.size ≤ s1.heap.objs.size ∧ s1.gens = s.gens ∧ s1.os = s.os ∧ EachIs (RV B enc) vs bs)
    (fun Q' h => hcol Q' fun s1 vs bs a0 a1 a2 a3 a4 a5 => h s1 vs bs ⟨a0, a1, a2, a3, a4, a5⟩) ?_ ?_
  · rintro s1 vs bs ⟨a0, a1, a2, a3, a4, a5⟩
    refine ⟨a5, (each_reads I sm en a5).mono fun _ _ r => PyProof.Rows.Reads.keeps a1 r, ?_, hs bs a0, Nat.le_trans (hl bs a0) (by decide), fun b _ => ?_⟩
    · intro d hd d' hd'
      obtain ⟨b, _, rfl⟩ := List.mem_map.mp hd
      obtain ⟨b', _, rfl⟩ := List.mem_map.mp hd'
      exact en.al b b'
    · have := en.dp b
      omega
  · rintro s1 vs bs out c h' ⟨a0, a1, a2, a3, a4, a5⟩ ho eo hc k
    obtain ⟨ys, v1, d1⟩ := each_to eo
    have hyl : ys.length = bs.length := by rw [v1.length, ho]
    have hle : ys.length ≤ lim := by rw [hyl]; exact hl bs a0
    have J := inv_list (s' := { s1 with heap := h' }) I (fun b o e => k b o (a1 b o e)) a3 a4 a2 hc v1 (Nat.le_trans hle (by decide))
    have hn : H s1.heap.objs.size = none := I.hok.fresh a2
    exact ⟨.ref _, _, J, rfl, q bs _ _ _ a0 (Stp.new sm hn) (.lst upd_same hle (d1.mono (same_upd (sm.free hn))))⟩
/-- sorted of a list, of a tuple -/
theorem c_sortL {bs : List β} (en : Enc enc) (hs : Sortable (bs.map enc)) (hu : X.A.units + 16 < cLine) : Clt X (.builtin "sorted") [tD (.list (bs.map enc))] (tD (.list ((bs.mergeSort (dataLe false enc)).map enc))) := by
  rintro pins s σ H xs us Q I r ⟨B, sm, ar, q⟩
  obtain ⟨v, rfl, h⟩ := ar.one
  obtain ⟨a, xs, rfl, h1, h2, h3⟩ := tL_R h
  obtain ⟨its, rv, pl, hz⟩ := I.list (SqL.of (sm _ _ h1))
  have hb : bs.length ≤ lim := by rw [← List.length_map (f := enc), ← h3.length]; exact h2
  rw [Vals.ref1 r]
  refine sort_go (bs0 := bs) (R := fun _ => True) I sm en hu (· = bs) (fun _ e => e ▸ hs) (fun _ e => e ▸ hb) (fun Q' hQ => ?_) fun bs' v H' B' e st rr => q v H' B' st (e ▸ rr)
  refine PyProof.Rows.collect_list pl.isList (hQ _ its bs rfl (fun b o e => ?_) ?_ rfl rfl (each_of rv h3)) (by rw [← rv.length]; exact hz)
  · have hlt := Heap.lt_size e
    show (Heap.update _ _ _).get? b = some o
    rw [Heap.get?_update_ne _ _ _ _ (Nat.ne_of_lt hlt)]
    exact Heap.get?_push_of_some _ e
  · show _ ≤ (Heap.update _ _ _).objs.size
    rw [Heap.size_update, PyProof.Rows.size_push']; exact Nat.le_succ _
theorem c_sortT {bs : List β} (en : Enc enc) (hs : Sortable (bs.map enc)) (hu : X.A.units + 16 < cLine) : Clt X (.builtin "sorted") [tD (.tuple (bs.map enc))] (tD (.list ((bs.mergeSort (dataLe false enc)).map enc))) := by
  rintro pins s σ H xs us Q I r ⟨B, sm, ar, q⟩
  obtain ⟨v, rfl, h⟩ := ar.one
  obtain ⟨a, xs, rfl, h1, h2, h3⟩ := tT_R h
  obtain ⟨its, rv, pl, hz⟩ := I.tuple (SqT.of (sm _ _ h1))
  have hb : bs.length ≤ lim := by rw [← List.length_map (f := enc), ← h3.length]; exact h2
  rw [Vals.ref1 r]
  refine sort_go (bs0 := bs) (R := fun _ => True) I sm en hu (· = bs) (fun _ e => e ▸ hs) (fun _ e => e ▸ hb) (fun Q' hQ => ?_) fun bs' v H' B' e st rr => q v H' B' st (e ▸ rr)
  refine R5.gather_tup pl (by rw [← rv.length]; exact hz) (hQ _ its bs rfl (fun b o e => ?_) ?_ rfl rfl (each_of rv h3))
  · have hlt := Heap.lt_size e
    show (Heap.update _ _ _).get? b = some o
    rw [Heap.get?_update_ne _ _ _ _ (Nat.ne_of_lt hlt)]
    exact Heap.get?_push_of_some _ e
  · show _ ≤ (Heap.update _ _ _).objs.size
    rw [Heap.size_update, PyProof.Rows.size_push']; exact Nat.le_succ _
end
end Rk
/-! part M5 -/
namespace Rk
/-! ### sorted tuples -/
def leL (a b : List Int) : Bool := decide (a ≤ b)
def srtT (l : List (List Int)) : List (List Int) := l.mergeSort leL
theorem leL_trans (a b c : List Int) (h1 : leL a b = true) (h2 : leL b c = true) : leL a c = true := by
  simp only [leL, decide_eq_true_eq] at *
  exact List.le_trans h1 h2
theorem leL_total (a b : List Int) : (leL a b || leL b a) = true := by
  simp only [leL, Bool.or_eq_true, decide_eq_true_eq]
  exact List.le_total a b
theorem leL_anti (a b : List Int) (h1 : leL a b = true) (h2 : leL b a = true) : a = b := by
  simp only [leL, decide_eq_true_eq] at *
  exact List.le_antisymm h1 h2
theorem srtT_perm (l : List (List Int)) : (srtT l).Perm l := List.mergeSort_perm l leL
theorem srtT_le (l : List (List Int)) : (srtT l).Pairwise fun a b => leL a b = true := List.pairwise_mergeSort leL_trans leL_total l
theorem srtT_uniq {l m : List (List Int)} (hp : m.Perm l) (hs : m.Pairwise fun a b => leL a b = true) : m = srtT l :=
  List.Perm.eq_of_pairwise (fun a b _ _ h1 h2 => leL_anti a b h1 h2) hs (srtT_le l) (hp.trans (srtT_perm l).symm)
theorem srtT_congr {l m : List (List Int)} (h : l.Perm m) : srtT l = srtT m := srtT_uniq ((srtT_perm l).trans h) (srtT_le l)
theorem srtT_srtT (l : List (List Int)) : srtT (srtT l) = srtT l := srtT_congr (srtT_perm l)
theorem mem_srtT {l : List (List Int)} {a : List Int} : a ∈ srtT l ↔ a ∈ l := (srtT_perm l).mem_iff
theorem sset_len_of {l m : List Int} (hm : m.Nodup) (h : ∀ a, a ∈ m ↔ a ∈ l) : m.length = (sset l).length :=
  (perm_of_mem hm (sset_nodup l) fun a => (h a).trans mem_sset.symm).length_eq
theorem sset_of_nodup {l : List Int} (h : l.Nodup) : sset l = srt l := by unfold sset; rw [ded_id h]
theorem sset_len_lt {l : List Int} : (sset l).length < l.length ↔ ¬ l.Nodup := by
  constructor
  · intro h n
    rw [sset_of_nodup n, srt_len] at h
    omega
  · intro h
    have h1 := sset_len l
    rcases Nat.lt_or_ge (sset l).length l.length with h2 | h2
    · exact h2
    · refine absurd ?_ h
      have key : ∀ l : List Int, l.length ≤ (ded l).length → l.Nodup := fun l => by
        induction l with
        | nil => intro _; exact List.nodup_nil
        | cons a l ih =>
          intro hl
          unfold ded at hl
          split at hl
          · have := ded_len l
            rw [List.length_cons] at hl
            omega
          · rename_i ha
            exact List.nodup_cons.mpr ⟨ha, ih (Nat.le_of_succ_le_succ hl)⟩
      exact key l (by unfold sset at h2; rw [srt_len] at h2; exact h2)
end Rk
/-! part L7 -/
namespace Rk
open PySem PySem.Spec L2
open PyProof.Rows (seqObj)
open PySem.W (EachIs AllAlike Sortable alike alikeAll dataLe)
theorem le_ints : dataLe false PyData.int = leI := by
  have := PySem.W.dataLe_int (fun n : Int => n)
  exact this
theorem le_tups : dataLe false (fun l : List Int => PyData.tuple (l.map .int)) = leL := by
  funext p q
  show (!PySem.W.dataLt (.tuple (q.map .int)) (.tuple (p.map .int))) = _
  rw [PySem.W.dataLt_tuple]
  show (!PySem.W.rowLt (q.map .int) (p.map .int)) = _
  rw [PySem.W.dataLt_ints]
  unfold leL
  by_cases h : q < p
  · have h' : ¬ p ≤ q := fun r => List.not_lt.mpr r h
    simp [h, h']
  · have h' : p ≤ q := List.not_lt.mp h
    simp [h, h']
section
variable {X : Cx} {ns : List Int} {l : List (List Int)}
theorem sortable_ints (ns : List Int) : Sortable (ns.map PyData.int) := .inr fun d hd => by
  obtain ⟨n, _, rfl⟩ := List.mem_map.mp hd
  exact ⟨fun z => (nomatch z), fun _ z => nomatch z⟩
theorem sortable_tups {l : List (List Int)} (h : ∀ r ∈ l, r ≠ []) : Sortable (l.map fun l : List Int => PyData.tuple (l.map .int)) := .inl fun d hd => by
  obtain ⟨r, hr, rfl⟩ := List.mem_map.mp hd
  cases r with
  | nil => exact absurd rfl (h _ hr)
  | cons a r => exact ⟨_, _, rfl⟩
theorem c_sortIT (hu : X.A.units + 16 < cLine) : Clt X (.builtin "sorted") [tD (dT ns)] (tD (dI (srt ns))) := by
  have := c_sortT (X := X) enc_int (sortable_ints ns) hu
  rw [le_ints] at this
  exact this
theorem c_sortTL (h : ∀ r ∈ l, r ≠ []) (hu : X.A.units + 16 < cLine) : Clt X (.builtin "sorted") [tD (.list (l.map fun r => dT r))] (tD (.list ((srtT l).map fun r => dT r))) := by
  have := c_sortL (X := X) enc_tup (sortable_tups h) hu
  rw [le_tups] at this
  exact this
theorem c_sortTT (h : ∀ r ∈ l, r ≠ []) (hu : X.A.units + 16 < cLine) : Clt X (.builtin "sorted") [tD (.tuple (l.map fun r => dT r))] (tD (.list ((srtT l).map fun r => dT r))) := by
  have := c_sortT (X := X) enc_tup (sortable_tups h) hu
  rw [le_tups] at this
  exact this
/-! ### sets of ints -/
def tSetI (w : World) (ns : List Int) : Ty := ⟨fun v H => ∃ a, v = .ref a ∧ H a = some (SetO w a (fun j => decide (j ∈ ns)) (sset ns).length), fun e ⟨a, h1, h2⟩ => ⟨a, h1, e _ _ h2⟩⟩
theorem setR_num {w : World} {h : Heap} {a : Addr} {c : Nat} (R : SetR w h a (fun j => decide (j ∈ ns)) c) : c = (sset ns).length := by
  obtain ⟨o, es, ep, t, ho, hex, hd, g, nd, hm, hb, hf, hn, _⟩ := R
  rw [← hn, ← Array.length_toList, ← List.length_map (f := keyOf)]
  refine sset_len_of nd fun k => ?_
  rw [← hm k]; simp
theorem c_setL (hl : ns.length ≤ 4000) (hc : X.calm = true := by rfl) : Clt X (.type "set") [tD (dI ns)] (tSetI X.w ns) := by
  rintro pins s σ H xs us Q I r ⟨B, sm, ar, q⟩
  obtain ⟨v, rfl, h⟩ := ar.one
  obtain ⟨a, xs, rfl, h1, h2, h3⟩ := tL_R h
  cases h3.ints
  obtain ⟨its, rv, pl, hz⟩ := I.list (SqL.of (sm _ _ h1))
  have hh := I.ok.hd hc
  have hi : PyProof.Rows.IntsAre its.toArray.toList ns := ints_of_vals rv
  rw [Vals.ref1 r]
  have hne : a ≠ (s.heap.push (R5.eSet X.w)).objs.size := by
    obtain ⟨o, ho, _⟩ := pl.isList
    rw [Heap.size_push]; exact Nat.ne_of_lt (Nat.lt_succ_of_lt (Heap.lt_size ho))
  have hlt : a < s.heap.objs.size := let ⟨o, ho, _⟩ := pl.isList; Heap.lt_size ho
  have hin : its.length = ns.length := by rw [← rv.length, List.length_map]
  refine R5.set_of_list (fun s' => ∃ h' tk, s' = { s with heap := h', toks := tk } ∧ SetR X.w h' s.heap.objs.size (fun j => decide (j ∈ ns)) (sset ns).length ∧ ∀ b o, s.heap.get? b = some o → h'.get? b = some o) pl.isList ?_ ?_
  · have hS : (s.heap.push (R5.eSet X.w)).get? s.heap.objs.size = some (R5.eSet X.w) := Heap.get?_push_size _ rfl
    have hSf : s.heap.objs.size ∉ [(s.heap.push (R5.eSet X.w)).objs.size, a] := by
      rw [Heap.size_push]
      simp only [List.mem_cons, List.not_mem_nil, or_false, not_or]
      exact ⟨Nat.ne_of_lt (Nat.lt_succ_self _), Nat.ne_of_gt hlt⟩
    have hl1 : (s.heap.push (R5.eSet X.w)).IsList a its.toArray := pl.isList.push _
    refine set_update_ints (A := X.A.in1.in1) ((Walks.list (A := X.A.in1.in1.in1) (by simp [hh]) _ a hne its.toArray).toS) s.heap.objs.size hSf ns (by simpa using hin) (by unfold scanBound; omega) (fun i v hv => ?_) (its.toArray.size - 0) 0 _ (by omega) (Nat.zero_le _)
      ⟨⟨_, Heap.get?_push_size _ rfl, rfl, rfl⟩, hl1.push _⟩ ⟨0, Nat.le_refl 0, setR_new_at (Heap.get?_push_of_some _ hS)⟩ fun s' c hm hcn hS' => ?_
    · have hi' : i < ns.length := by rw [← hin]; simpa using (Array.getElem?_eq_some_iff.mp hv).1
      obtain ⟨t, e⟩ := PyProof.Rows.IntsAre.int_at hi i v (by rw [Array.getElem?_toList]; exact hv)
      refine ⟨ns[i], t, List.getElem?_eq_getElem hi', ?_⟩
      rw [e, List.getD_eq_getElem?_getD, List.getElem?_eq_getElem hi']; rfl
    · refine ⟨rfl, s'.heap, s'.toks, ?_, setR_num hS' ▸ hS', fun b o e => ?_⟩
      · obtain ⟨h', g2, d', tk', os'⟩ := s'
        cases (show g2 = s.gens from hm.gens)
        cases (show d' = s.drawn from hm.drawn)
        cases (show os' = s.os from hm.os)
        rfl
      · have hb0 : b < s.heap.objs.size := Heap.lt_size e
        refine hm.heap b o (fun z => ?_) (Heap.get?_push_of_some _ (Heap.get?_push_of_some _ e))
        simp only [List.mem_cons, List.not_mem_nil, or_false] at z
        rcases z with z | z
        · rw [z] at hb0; exact Nat.lt_irrefl _ hb0
        · rw [z, Heap.size_push] at hb0; exact absurd hb0 (Nat.not_lt_of_le (Nat.le_succ _))
  · rintro s' ⟨h', tk, rfl, R, k⟩
    have hn : H s.heap.objs.size = none := I.hok.fresh (Nat.le_refl _)
    exact ⟨.ref _, upd H s.heap.objs.size (SetO X.w s.heap.objs.size (fun j => decide (j ∈ ns)) (sset ns).length), I.laid (t' := tk) k (Nat.le_refl _) (setO_new R), rfl, q _ _ _ (Stp.new sm hn) ⟨_, rfl, upd_same⟩⟩
theorem c_sortS (h64 : (sset ns).length < 64) (hc : X.calm = true := by rfl) : Clt X (.builtin "sorted") [tSetI X.w ns] (tD (dI (sset ns))) :=
  Clt.of (cr_sortedSet hc) fun vs H B Q sm ar q => by
    obtain ⟨v, rfl, a, rfl, h1⟩ := ar.one
    refine ⟨a, _, _, rfl, sm _ _ h1, h64, fun ns' p h2 h3 h4 hn => ?_⟩
    have : ns' = sset ns := sset_uniq h2 fun k => (h3 k).trans (by simp)
    subst this
    exact q _ _ _ (Stp.new sm hn) (.lst upd_same (by rw [List.length_map]; exact Nat.le_trans (Nat.le_of_lt h64) (by decide)) (Da.ofInts _))
theorem c_lenS (hl : (sset ns).length < 4000) : Clt X (.builtin "len") [tSetI X.w ns] (tI (sset ns).length) := by
  rintro pins s σ H xs us Q I r ⟨B, sm, ar, q⟩
  obtain ⟨v, rfl, a, rfl, h1⟩ := ar.one
  rw [Vals.ref1 r]
  obtain ⟨o, es, ep, t, ho, hex, hd, _, _, _, _, hf, hn, _⟩ := setO_get I (sm _ _ h1)
  exact call_len_set ho hex hd hf (by rw [hn]; omega) ⟨.int (sset ns).length, H, I.tok _, ⟨_, by rw [hn]⟩, q _ _ _ (Stp.refl sm) (.int _)⟩
end
end Rk
/-! part L8 -/
namespace Rk
open PySem PySem.Spec L2
open PyProof.Rows (seqObj)
open PySem.W (EachIs AllAlike Sortable alike alikeAll dataLe)
/-! ### sets of tuples of ints -/
def tSetT (P : Program) (w : World) (l : List (List Int)) : Ty := ⟨fun v H => ∃ (a : Addr) (L : List (Addr × List Int)), v = .ref a ∧ H a = some (SetTO P w a L) ∧ (∀ p ∈ L, p.2 ∈ l ∧ Dv H (.ref p.1) (dT p.2)) ∧ ∀ x ∈ l, x ∈ L.map (fun p : Addr × List Int => p.2),
  fun e ⟨a, L, h1, h2, h3, h4⟩ => ⟨a, L, h1, e _ _ h2, fun p hp => ⟨(h3 p hp).1, (h3 p hp).2.mono e⟩, h4⟩⟩
theorem perm_map_inv {α β : Type} {f : α → β} {l m : List β} (h : l.Perm m) : ∀ L : List α, m = L.map f → ∃ L' : List α, L'.Perm L ∧ l = L'.map f := by
  induction h with
  | nil =>
    intro L e
    cases L with
    | nil => exact ⟨[], .refl _, rfl⟩
    | cons => cases e
  | cons x _ ih =>
    intro L e
    cases L with
    | nil => cases e
    | cons a L =>
      obtain ⟨e1, e2⟩ := List.cons.inj e
      obtain ⟨L', p, e3⟩ := ih L e2
      exact ⟨a :: L', p.cons a, by rw [e1, e3]; rfl⟩
  | swap x y l =>
    intro L e
    cases L with
    | nil => cases e
    | cons a L =>
      cases L with
      | nil => cases e
      | cons b L =>
        obtain ⟨e1, e2⟩ := List.cons.inj e
        obtain ⟨e2, e3⟩ := List.cons.inj e2
        exact ⟨b :: a :: L, List.Perm.swap _ _ _, by rw [e1, e2, e3]; rfl⟩
  | trans _ _ ih1 ih2 =>
    intro L e
    obtain ⟨L2, p2, e2⟩ := ih2 L e
    obtain ⟨L1, p1, e1⟩ := ih1 L2 e2
    exact ⟨L1, p1.trans p2, e1⟩
section
variable {X : Cx} {l : List (List Int)}
theorem Da.tups {H : Hp} : ∀ {l : List (List Int)} {xs : List V}, Da H xs (l.map fun r => dT r) → ∃ ks : List (Addr × List Int), xs = ks.map (fun p => V.ref p.1) ∧ ks.map (·.2) = l ∧ ∀ p ∈ ks, Dv H (.ref p.1) (dT p.2)
  | [], _, h => by cases h; exact ⟨[], rfl, rfl, fun p h => nomatch h⟩
  | r :: l, _, h => by
    cases h with
    | cons h1 h2 =>
      obtain ⟨ks, e1, e2, h3⟩ := Da.tups h2
      obtain ⟨a, xs, rfl, k1, k2, k3⟩ := tT_R (show (tD (dT r)).R _ H from h1)
      refine ⟨(a, r) :: ks, by rw [e1]; rfl, by rw [List.map_cons, e2], fun p hp => ?_⟩
      rcases List.mem_cons.mp hp with rfl | hp
      · exact .tup k1 k2 k3
      · exact h3 p hp
theorem sq_of_dT {K : PySem.W.Frag} {H : Hp} {a : Addr} {r : List Int} (h : Dv H (.ref a) (dT r)) : SqT K H a (r.map V.int) := by
  obtain ⟨b, xs, e, k1, k2, k3⟩ := tT_R (show (tD (dT r)).R _ H from h)
  cases e
  cases k3.ints
  exact SqT.of k1
theorem c_setTT (hl : l.length < 64) (hu : X.A.units + 16 < cLine) (hc : X.calm = true := by rfl) : Clt X (.type "set") [tD (.tuple (l.map fun r => dT r))] (tSetT X.prog X.w l) := by
  rintro pins s σ H xs us Q I r ⟨B, sm, ar, q⟩
  obtain ⟨v, rfl, h⟩ := ar.one
  obtain ⟨a, xs, rfl, h1, h2, h3⟩ := tT_R h
  obtain ⟨ks, rfl, e2, hk⟩ := h3.tups
  obtain ⟨its, rv, pl, hz⟩ := I.tuple (SqT.of (sm _ _ h1))
  have hh := I.ok.hd hc
  have hit : its = ks.map fun p => Value.ref p.1 := refs_of_vals rv
  have hkl : ks.length = l.length := by rw [← e2, List.length_map]
  have hT : ∀ p ∈ ks, IsT X.prog X.w s.heap p.2 p.1 := fun p hp => I.isT (sq_of_dT ((hk p hp).mono sm))
  rw [Vals.ref1 r]
  have hlt : a < s.heap.objs.size := let ⟨o, ho, _⟩ := pl; Heap.lt_size ho
  have hne : a ≠ (s.heap.push (R5.eSet X.w)).objs.size := by
    rw [Heap.size_push]; exact Nat.ne_of_lt (Nat.lt_succ_of_lt hlt)
  have none_of : ∀ b, s.heap.objs.size ≤ b → s.heap.get? b = none := fun b hb => by
    cases q : s.heap.get? b with
    | none => rfl
    | some o => exact absurd (Nat.lt_of_lt_of_le (Heap.lt_size q) hb) (Nat.lt_irrefl _)
  refine R5.set_of_tuple (fun s' => ∃ h' tk L es ep t, s' = { s with heap := h', toks := tk } ∧ SetTR X.prog X.w h' s.heap.objs.size L es ep t ∧ Got ks ks.length L ∧ ∀ b o, s.heap.get? b = some o → h'.get? b = some o) pl ?_ ?_
  · have hS : (s.heap.push (R5.eSet X.w)).get? s.heap.objs.size = some (R5.eSet X.w) := Heap.get?_push_size _ rfl
    have hSf : s.heap.objs.size ∉ [(s.heap.push (R5.eSet X.w)).objs.size, a] := by
      rw [Heap.size_push]
      simp only [List.mem_cons, List.not_mem_nil, or_false, not_or]
      exact ⟨Nat.ne_of_lt (Nat.lt_succ_self _), Nat.ne_of_gt hlt⟩
    have hl1 : (s.heap.push (R5.eSet X.w)).IsTuple a its.toArray := pl.push _
    have hin : its.length = ks.length := by rw [hit, List.length_map]
    refine set_update_tups (A := X.A.in1.in1) ((Walks.tuple (A := X.A.in1.in1.in1) (by simp [hh]) _ a hne its.toArray).toS) s.heap.objs.size hSf ks (by simpa using hin) (by omega) (fun i v hv => ?_) s.heap hT (none_of _ (Nat.le_refl _))
      (fun b hb => none_of b (by rw [List.mem_singleton.mp hb, Heap.size_push]; exact Nat.le_succ _)) (by show X.A.units + 1 + 1 + 1 < cLine; omega) (its.toArray.size - 0) 0 _ (by omega) (Nat.zero_le _)
      ⟨⟨_, Heap.get?_push_size _ rfl, rfl, rfl⟩, hl1.push _⟩ (fun b o e => Heap.get?_push_of_some _ (Heap.get?_push_of_some _ e)) ⟨[], #[], 0, _, setTR_fresh (Heap.get?_push_of_some _ hS), Got.zero ks⟩ fun s' L es ep t hm hS' g' hkp => ?_
    · have q : its[i]? = some v := by simpa using hv
      rw [hit, List.getElem?_map] at q
      cases hq : ks[i]? with
      | none => rw [hq] at q; cases q
      | some p => rw [hq] at q; exact ⟨p, rfl, (Option.some.inj q).symm⟩
    · refine ⟨rfl, s'.heap, s'.toks, L, es, ep, t, ?_, hS', ?_, hkp⟩
      · obtain ⟨h', g2, d', tk', os'⟩ := s'
        cases (show g2 = s.gens from hm.gens)
        cases (show d' = s.drawn from hm.drawn)
        cases (show os' = s.os from hm.os)
        rfl
      · have : its.toArray.size = ks.length := by simpa using hin
        rw [this] at g'; exact g'
  · rintro s' ⟨h', tk, L, es, ep, t, rfl, R, g, k⟩
    have hn : H s.heap.objs.size = none := I.hok.fresh (Nat.le_refl _)
    have sub : ∀ p ∈ L, p ∈ ks := fun p hp => List.mem_of_mem_take (g.sub p hp)
    refine ⟨.ref _, upd H s.heap.objs.size (SetTO X.prog X.w s.heap.objs.size L), I.laid (t' := tk) k (Nat.le_refl _) (setTO_new R.t0), rfl, q _ _ _ (Stp.new sm hn) ⟨_, L, rfl, upd_same, fun p hp => ⟨?_, (hk p (sub p hp)).mono (same_upd (sm.free hn))⟩, fun x hx => ?_⟩⟩
    · rw [← e2]; exact List.mem_map.mpr ⟨p, sub p hp, rfl⟩
    · rw [← e2] at hx
      obtain ⟨p, hp, rfl⟩ := List.mem_map.mp hx
      exact g.all p (by rw [List.take_length]; exact hp)
theorem c_sortST (hn : l.Nodup) (h0 : ∀ r ∈ l, r ≠ []) (hll : l.length < 64) (hu : X.A.units + 16 < cLine) (hc : X.calm = true := by rfl) : Clt X (.builtin "sorted") [tSetT X.prog X.w l] (tD (.list ((srtT l).map fun r => dT r))) := by
  rintro pins s σ H xs us Q I r ⟨B, sm, ar, q⟩
  obtain ⟨v, rfl, a, L, rfl, h1, h2, h3⟩ := ar.one
  have hh := I.ok.hd hc
  have R0 : SetT0 X.prog X.w s.heap a L := (I.hok a _ (sm _ _ h1)).1
  obtain ⟨es, ep, t, R⟩ := R0.full fun p hp => I.isT (sq_of_dT ((h2 p hp).2.mono sm))
  obtain ⟨o, ho, hex, hd⟩ := R.ob
  have hpl : (L.map (·.2)).Perm l := (List.perm_ext_iff_of_nodup R.nd hn).mpr fun x => ⟨fun hx => by
    obtain ⟨p, hp, rfl⟩ := List.mem_map.mp hx
    exact (h2 p hp).1, h3 x⟩
  rw [Vals.ref1 r]
  refine sort_go (bs0 := l) (R := fun _ => True) I sm enc_tup hu (fun bs => bs.Perm l) (fun bs e => sortable_tups fun r hr => h0 r (e.mem_iff.mp hr)) (fun bs e => by rw [e.length_eq]; exact Nat.le_trans (Nat.le_of_lt hll) (by decide)) (fun Q' hQ => ?_) fun bs' v H' B' e st rr => ?_
  · refine collect_set (A := X.A.in1) (by simp [hh]) ⟨o, ho, hex.1, hd⟩ R.fits (by rw [R.size]; have := R.few; unfold scanBound; omega) R.tab.ris R.led fun s1 out k1 hz g1 o1 pm => ?_
    have hes : es.toList.map (·.2) = L.map fun q => Value.ref q.1 := by
      rw [R.rows]
      unfold rowsOf
      rw [List.map_map]; rfl
    rw [hes] at pm
    obtain ⟨L', pL, rfl⟩ := perm_map_inv pm L rfl
    refine hQ s1 _ (L'.map (·.2)) ((pL.map _).trans hpl) k1 hz g1 o1 ?_
    have : ∀ p ∈ L', Dv B (.ref p.1) (dT p.2) := fun p hp => (h2 p (pL.mem_iff.mp hp)).2
    clear pm pL hpl
    induction L' with
    | nil => exact .nil
    | cons p L' ih => exact .cons ⟨.ref p.1, (show Value.ref p.1 = Value.ref p.1 from rfl), this p List.mem_cons_self⟩ (ih fun p hp => this p (List.mem_cons_of_mem _ hp))
  · refine q v H' B' st ?_
    rw [le_tups] at rr
    rw [srtT_congr e.symm]
    exact rr
end
end Rk
/-! part M6 -/
namespace Rk
/-! ### paths by what they are; rings -/
theorem lst_app {l m : List Int} (h : m ≠ []) : lst (l ++ m) = lst m := by
  unfold lst
  rw [List.getLast?_append, List.getLast?_eq_some_getLast h]; rfl
theorem lst_snoc (l : List Int) (a : Int) : lst (l ++ [a]) = a := by rw [lst_app (by simp)]; rfl
theorem lst_one (a : Int) : lst [a] = a := rfl
theorem lst_cons {a : Int} {l : List Int} (h : l ≠ []) : lst (a :: l) = lst l := lst_app (l := [a]) h
def Ch (R : Rows) : List Int → Prop
  | a :: b :: l => waited R a = some b ∧ Ch R (b :: l)
  | _ => True
theorem Ch.one (R : Rows) (a : Int) : Ch R [a] := trivial
theorem Ch.app {R : Rows} : ∀ {l : List Int} {b : Int} {m : List Int}, Ch R l → Ch R (b :: m) → (l ≠ [] → waited R (lst l) = some b) → Ch R (l ++ b :: m)
  | [], b, m, _, h, _ => h
  | [a], b, m, _, h, k => ⟨k (by simp), h⟩
  | a :: c :: l, b, m, h1, h, k => ⟨h1.1, Ch.app (l := c :: l) h1.2 h fun _ => by
    have := k (by simp)
    rwa [lst_cons (by simp)] at this⟩
theorem Ch.left {R : Rows} : ∀ {l m : List Int}, Ch R (l ++ m) → Ch R l
  | [], _, _ => trivial
  | [a], _, _ => trivial
  | a :: b :: l, m, h => ⟨h.1, Ch.left (l := b :: l) h.2⟩
theorem Ch.right {R : Rows} : ∀ {l m : List Int}, Ch R (l ++ m) → Ch R m
  | [], _, h => h
  | [a], [], _ => trivial
  | [a], b :: m, h => h.2
  | a :: b :: l, m, h => Ch.right (l := b :: l) h.2
theorem Ch.link {R : Rows} : ∀ {l : List Int} {b : Int} {m : List Int}, Ch R (l ++ b :: m) → l ≠ [] → waited R (lst l) = some b
  | [], _, _, _, h => absurd rfl h
  | [a], b, m, h, _ => h.1
  | a :: c :: l, b, m, h, _ => by rw [lst_cons (by simp)]; exact Ch.link (l := c :: l) h.2 (by simp)
theorem pathGo_ch {R : Rows} : ∀ (n : Nat) (f : List Int), f ≠ [] → Ch R f → Ch R (pathGo R n f (waited R (lst f)))
  | 0, f, _, h => h
  | n + 1, f, hne, h => by
    cases e : waited R (lst f) with
    | none => exact h
    | some r =>
      unfold pathGo
      split
      · exact h
      · have h2 : Ch R (f ++ [r]) := Ch.app h trivial fun _ => e
        have := pathGo_ch n (f ++ [r]) (by simp) h2
        rw [lst_snoc] at this
        exact this
theorem path_ch (R : Rows) (k : Int) : Ch R (pathOf R k) := pathGo_ch R.length [k] (by simp) trivial
/-- where a path ends -/
def Cl (R : Rows) (l : List Int) : Prop := ∀ j, waited R (lst l) = some j → j ∈ l
theorem pathGo_cl {R : Rows} : ∀ (n : Nat) (f : List Int), f ≠ [] → f.Nodup → (∀ a ∈ f, a ∈ keys R) → n + f.length = R.length + 1 → Cl R (pathGo R n f (waited R (lst f)))
  | 0, f, hne, hn, hk, hl => by
    have := hn.length_le_of_subset (fun x hx => hk x hx : f ⊆ keys R)
    rw [keys_len] at this
    omega
  | n + 1, f, hne, hn, hk, hl => by
    cases e : waited R (lst f) with
    | none => intro j hj; rw [show pathGo R (n + 1) f none = f from rfl, e] at hj; cases hj
    | some r =>
      unfold pathGo
      split
      · rename_i hr
        intro j hj
        rw [e] at hj; cases hj; exact hr
      · rename_i hr
        have := pathGo_cl n (f ++ [r]) (by simp) (List.nodup_append.mpr ⟨hn, by simp, fun a ha b hb => by rw [List.mem_singleton.mp hb]; exact fun z => hr (z ▸ ha)⟩) (fun a ha => by
          rcases List.mem_append.mp ha with ha | ha
          · exact hk a ha
          · rw [List.mem_singleton.mp ha]; exact (waited_some e).2.2) (by rw [List.length_append, List.length_singleton]; omega)
        rw [lst_snoc] at this
        exact this
theorem path_cl {R : Rows} {k : Int} (h : k ∈ keys R) : Cl R (pathOf R k) := pathGo_cl R.length [k] (by simp) (by simp) (by simpa using h) (by simp)
theorem pathGo_char {R : Rows} {l : List Int} (hn : l.Nodup) (hk : ∀ a ∈ l, a ∈ keys R) (hc : Ch R l) (he : Cl R l) : ∀ (n : Nat) (f g : List Int), f ≠ [] → l = f ++ g → n + f.length = R.length + 1 → pathGo R n f (waited R (lst f)) = l
  | n, f, [], hne, e, hl => by
    rw [List.append_nil] at e
    subst e
    cases n with
    | zero => rfl
    | succ n =>
      cases q : waited R (lst l) with
      | none => rfl
      | some r => unfold pathGo; rw [if_pos (he r q)]
  | n, f, x :: g, hne, e, hl => by
    have hw : waited R (lst f) = some x := Ch.link (e ▸ hc) hne
    have hx : x ∉ f := fun z => by
      rw [e] at hn
      exact (List.nodup_append.mp hn).2.2 x z x List.mem_cons_self rfl
    have hlen := hn.length_le_of_subset (fun x hx => hk x hx : l ⊆ keys R)
    rw [keys_len, e, List.length_append, List.length_cons] at hlen
    cases n with
    | zero => omega
    | succ n =>
      rw [hw]
      unfold pathGo
      rw [if_neg hx]
      have := pathGo_char hn hk hc he n (f ++ [x]) g (by simp) (by rw [e]; simp) (by rw [List.length_append, List.length_singleton]; omega)
      rw [lst_snoc] at this
      exact this
theorem path_char {R : Rows} {k : Int} {g : List Int} (hn : (k :: g).Nodup) (hk : ∀ a ∈ k :: g, a ∈ keys R) (hc : Ch R (k :: g)) (he : Cl R (k :: g)) : pathOf R k = k :: g :=
  pathGo_char hn hk hc he R.length [k] g (by simp) rfl (by simp)
/-- a path closed at its head, turned -/
theorem path_turn {R : Rows} {k j : Int} {a b : List Int} (hk : k ∈ keys R) (hc : waited R (lst (pathOf R k)) = some k) (e : pathOf R k = a ++ j :: b) : pathOf R j = j :: b ++ a ∧ waited R (lst (j :: b ++ a)) = some j := by
  obtain ⟨g, eg⟩ := path_head R k
  have hch := path_ch R k
  have hnd := path_nodup R k
  have hks := path_keys hk
  rw [e] at hch hnd hks hc
  have hp : (a ++ j :: b).Perm (j :: b ++ a) := List.perm_append_comm
  cases a with
  | nil =>
    rw [List.nil_append] at *
    have : j = k := by rw [e] at eg; exact (List.cons.inj eg).1
    subst this
    rw [List.append_nil]
    exact ⟨e, hc⟩
  | cons x a =>
    have hx : x = k := by rw [e] at eg; exact (List.cons.inj eg).1
    subst hx
    have hlast : waited R (lst (j :: b)) = some x := by rwa [lst_app (by simp)] at hc
    have hl2 : waited R (lst (j :: b ++ x :: a)) = some j := by
      rw [lst_app (by simp)]
      exact Ch.link hch (by simp)
    refine ⟨path_char (hp.nodup_iff.mp hnd) (fun y hy => hks y (hp.mem_iff.mpr hy)) (Ch.app (l := j :: b) hch.right hch.left fun _ => hlast) fun i hi => ?_, hl2⟩
    have hi : some j = some i := hl2.symm.trans hi
    cases hi; exact List.mem_cons_self
theorem lmin_mem {l : List Int} (h : l ≠ []) : lmin l ∈ l ∧ ∀ y ∈ l, lmin l ≤ y := by
  cases e : l.min? with
  | none => exact absurd (List.min?_eq_none_iff.mp e) h
  | some m =>
    obtain ⟨h1, h2⟩ := List.min?_eq_some_iff.mp e
    rw [lmin_of h1 h2]; exact ⟨h1, h2⟩
theorem lmax_mem {l : List Int} (h : l ≠ []) : lmax l ∈ l ∧ ∀ y ∈ l, y ≤ lmax l := by
  cases e : l.max? with
  | none => exact absurd (List.max?_eq_none_iff.mp e) h
  | some m =>
    obtain ⟨h1, h2⟩ := List.max?_eq_some_iff.mp e
    rw [lmax_of h1 h2]; exact ⟨h1, h2⟩
theorem lmin_congr {l m : List Int} (h : ∀ a, a ∈ l ↔ a ∈ m) (hl : l ≠ []) : lmin l = lmin m := by
  have hm : m ≠ [] := fun z => by
    cases l with
    | nil => exact hl rfl
    | cons a l => rw [z] at h; exact absurd ((h a).mp List.mem_cons_self) (by simp)
  obtain ⟨a1, a2⟩ := lmin_mem hl
  obtain ⟨b1, b2⟩ := lmin_mem hm
  have := a2 _ ((h _).mpr b1)
  have := b2 _ ((h _).mp a1)
  omega
/-- a ring -/
structure Rg (R : Rows) (r : List Int) : Prop where
  head : ∃ h, h ∈ keys R ∧ r = pathOf R h ∧ waited R (lst r) = some h ∧ h = lmin r
theorem mem_rings {R : Rows} {r : List Int} : r ∈ rings R ↔ Rg R r := by
  unfold rings
  rw [List.mem_map]
  constructor
  · rintro ⟨h, hh, rfl⟩
    obtain ⟨h1, h2⟩ := List.mem_filter.mp hh
    unfold isHead at h2
    simp only [Bool.and_eq_true, decide_eq_true_eq] at h2
    exact ⟨h, h1, rfl, h2.1, h2.2⟩
  · rintro ⟨h, h1, rfl, h2, h3⟩
    refine ⟨h, List.mem_filter.mpr ⟨h1, ?_⟩, rfl⟩
    unfold isHead
    simp only [Bool.and_eq_true, decide_eq_true_eq]
    exact ⟨h2, h3⟩
section
variable {R : Rows} {r r1 r2 : List Int} {k : Int}
theorem Rg.ne (g : Rg R r) : r ≠ [] := by obtain ⟨h, _, rfl, _⟩ := g.head; exact path_ne R h
theorem Rg.nodup (g : Rg R r) : r.Nodup := by obtain ⟨h, _, rfl, _⟩ := g.head; exact path_nodup R h
theorem Rg.keys (g : Rg R r) : ∀ k ∈ r, k ∈ keys R := by obtain ⟨h, hk, rfl, _⟩ := g.head; exact path_keys hk
/-- from each of its keys the path runs through it all -/
theorem Rg.turn (g : Rg R r) (hk : k ∈ r) : (pathOf R k).Perm r ∧ waited R (lst (pathOf R k)) = some k := by
  obtain ⟨h, hh, rfl, h2, _⟩ := g.head
  obtain ⟨a, b, e⟩ := List.append_of_mem hk
  obtain ⟨e1, e2⟩ := path_turn hh h2 e
  rw [e1, e]
  exact ⟨List.perm_append_comm, e2⟩
theorem Rg.succ (g : Rg R r) (hk : k ∈ r) : ∃ j ∈ r, waited R k = some j := by
  obtain ⟨p, c⟩ := g.turn hk
  obtain ⟨t, e⟩ := path_head R k
  have hch := path_ch R k
  rw [e] at hch c p
  cases t with
  | nil => rw [lst_one] at c; exact ⟨k, hk, c⟩
  | cons x t => exact ⟨x, p.mem_iff.mp (by simp), hch.1⟩
theorem Rg.pred (g : Rg R r) (hk : k ∈ r) : ∃ j ∈ r, waited R j = some k := by
  obtain ⟨p, c⟩ := g.turn hk
  exact ⟨_, p.mem_iff.mp (lst_mem (path_ne R k)), c⟩
theorem Rg.same (g1 : Rg R r1) (g2 : Rg R r2) (h1 : k ∈ r1) (h2 : k ∈ r2) : r1 = r2 := by
  have p : r1.Perm r2 := (g1.turn h1).1.symm.trans (g2.turn h2).1
  obtain ⟨a, _, e1, _, m1⟩ := g1.head
  obtain ⟨b, _, e2, _, m2⟩ := g2.head
  have : a = b := by rw [m1, m2]; exact lmin_congr (fun x => p.mem_iff) g1.ne
  rw [e1, e2, this]
theorem Rg.two (g : Rg R r) : 2 ≤ r.length := by
  obtain ⟨h, hh, e, h2, _⟩ := g.head
  match r, g with
  | [], g => exact absurd rfl g.ne
  | [a], g =>
    obtain ⟨j, hj, hw⟩ := g.succ (k := a) (by simp)
    rw [List.mem_singleton.mp hj] at hw
    exact absurd rfl (waited_some hw).2.1
  | _ :: _ :: l, _ => simp
/-- a path closed at its head is a ring, turned -/
theorem ring_of (hk : k ∈ keys R) (hc : waited R (lst (pathOf R k)) = some k) : ∃ r, Rg R r ∧ r.Perm (pathOf R k) := by
  obtain ⟨m1, m2⟩ := lmin_mem (path_ne R k)
  obtain ⟨a, b, e⟩ := List.append_of_mem m1
  obtain ⟨e1, e2⟩ := path_turn hk hc e
  have p : (pathOf R (lmin (pathOf R k))).Perm (pathOf R k) := by
    rw [e1]
    conv => rhs; rw [e]
    exact List.perm_append_comm
  refine ⟨pathOf R (lmin (pathOf R k)), ⟨_, path_keys hk _ m1, rfl, ?_, ?_⟩, p⟩
  · conv => lhs; rw [e1]
    exact e2
  · exact (lmin_congr (fun x => p.mem_iff) (path_ne _ _)).symm
/-- a path that comes back to one of its keys holds a ring -/
theorem ring_in (hk : k ∈ keys R) {j : Int} (hc : waited R (lst (pathOf R k)) = some j) : ∃ r, Rg R r ∧ j ∈ r ∧ lst (pathOf R k) ∈ r ∧ ∀ x ∈ r, x ∈ pathOf R k := by
  have hj := path_cl hk j hc
  obtain ⟨a, b, e⟩ := List.append_of_mem hj
  have hch := path_ch R k
  have hnd := path_nodup R k
  have hks := path_keys hk
  rw [e] at hch hnd hks hc
  have hl : lst (a ++ j :: b) = lst (j :: b) := lst_app (by simp)
  rw [hl] at hc
  have ep : pathOf R j = j :: b := path_char (List.nodup_append.mp hnd).2.1 (fun x hx => hks x (List.mem_append_right _ hx)) hch.right fun i hi => by rw [hc] at hi; cases hi; exact List.mem_cons_self
  obtain ⟨r, g, p⟩ := ring_of (hks j (by simp)) (by rw [ep]; exact hc)
  rw [ep] at p
  refine ⟨r, g, p.mem_iff.mpr List.mem_cons_self, ?_, fun x hx => ?_⟩
  · rw [e, hl]; exact p.mem_iff.mpr (lst_mem (by simp))
  · rw [e]; exact List.mem_append_right _ (p.mem_iff.mp hx)
/-- off the rings a path is longer by one than the path behind it -/
theorem path_step {one : Int} (ho : one ∈ keys R) (hw : waited R one = some k) (hr : ∀ r, Rg R r → one ∉ r) : pathOf R one = one :: pathOf R k := by
  have hk : k ∈ keys R := (waited_some hw).2.2
  obtain ⟨g, eg⟩ := path_head R k
  have hno : one ∉ pathOf R k := fun z => by
    obtain ⟨a, b, e⟩ := List.append_of_mem z
    have hch := path_ch R k
    have hnd := path_nodup R k
    have hks := path_keys hk
    have e2 : pathOf R k = (a ++ [one]) ++ b := by rw [e]; simp
    rw [e2] at hch hnd hks
    have hh : ∃ t, a ++ [one] = k :: t := by
      cases a with
      | nil => rw [e] at eg; exact ⟨[], by rw [(List.cons.inj eg).1]; rfl⟩
      | cons x a => rw [e] at eg; exact ⟨a ++ [one], by rw [(List.cons.inj eg).1]; rfl⟩
    obtain ⟨t, et⟩ := hh
    have hl : waited R (lst (k :: t)) = some k := by rw [← et, lst_snoc]; exact hw
    have ep : pathOf R k = k :: t := path_char (et ▸ (List.nodup_append.mp hnd).1) (fun x hx => hks x (List.mem_append_left _ (et ▸ hx))) (et ▸ hch.left) fun i hi => by rw [hl] at hi; cases hi; exact List.mem_cons_self
    obtain ⟨r, gr, p⟩ := ring_of hk (by rw [ep]; exact hl)
    exact hr r gr (p.mem_iff.mpr z)
  rw [eg] at hno ⊢
  have hch := path_ch R k
  have hcl := path_cl hk
  rw [eg] at hch hcl
  refine path_char (List.nodup_cons.mpr ⟨hno, eg ▸ path_nodup R k⟩) (fun a ha => ?_) ⟨hw, hch⟩ fun j hj => ?_
  · rcases List.mem_cons.mp ha with rfl | ha
    · exact ho
    · exact path_keys hk a (eg ▸ ha)
  · rw [lst_cons (by simp)] at hj
    exact List.mem_cons_of_mem _ (hcl j hj)
end
end Rk
/-! part M7 -/
namespace Rk
def wanted (R : Rows) : List Int := sset (R.map (·.2))
def isPure (R : Rows) (r : List Int) : Bool := r.all fun k => decide ((wantsOf R k).length = 1)
def pures (R : Rows) : List (List Int) := (rings R).filter (isPure R)
def allIn (r ks : List Int) : Bool := r.all fun k => decide (k ∈ ks)
def isCover (R : Rows) (ks : List Int) : Bool := allIn ks (wanted R) && ((R.all fun r => decide (r.1 ∈ ks) || decide (r.2 ∈ ks)) && (pures R).all fun r => !allIn r ks)
theorem wanted_len (R : Rows) : (wanted R).length ≤ R.length := by
  have := sset_len (R.map (·.2))
  rw [List.length_map] at this
  exact this
theorem mem_wanted {R : Rows} {n : Int} : n ∈ wanted R ↔ n ∈ R.map (·.2) := mem_sset
theorem ring_wants {R : Rows} (w : WF R) {r : List Int} (g : Rg R r) {k : Int} (hk : k ∈ r) : wantsOf R k ≠ [] := by
  obtain ⟨j, hj, hw⟩ := g.pred hk
  have h1 := mem_nw (g.keys j hj)
  rw [← (waited_some hw).1] at h1
  unfold wantsOf
  intro z
  have : j ∈ (R.filter fun r => decide (r.2 = k)).map (·.1) := List.mem_map.mpr ⟨(j, k), List.mem_filter.mpr ⟨h1, by simp⟩, rfl⟩
  rw [z] at this; cases this
theorem rings_len (R : Rows) : (rings R).length ≤ R.length := by
  unfold rings
  rw [List.length_map, ← keys_len R]
  exact List.length_filter_le _ _
end Rk
/-! part D9 -/
namespace Rk
open PySem PySem.Spec L2
section
variable {P : Program} {w : World} {K : PySem.W.Frag} {mg : Str → Option Value} {base : Heap} {X : Cx} {Γ : Gm} {e i o : Expr}
theorem hu16 {A : Around} {k : Nat} (hr : Room k A) : A.units + 16 < cLine := Nat.lt_of_le_of_lt (Nat.add_le_add_left (by decide : 16 ≤ 64) _) hr.units
theorem all_map {α : Type} {f : α → Bool} {l : List α} : (l.map f).all id = l.all f := by rw [List.all_map]; rfl
theorem map_map_b {α : Type} (f : α → Bool) (l : List α) : l.map (fun a => PyData.bool (f a)) = (l.map f).map .bool := by rw [List.map_map]; rfl
/-- all([t for x in xs]) -/
theorem c_allM {α : Type} {f : α → Bool} {l : List α} (hc : X.calm = true := by rfl) : Clt X (.builtin "all") [tD (.list (l.map fun a => .bool (f a)))] (tB (l.all f)) := by
  have := c_all (X := X) (bs := l.map f) hc
  rw [all_map, ← map_map_b] at this
  exact this
theorem c_anyM {α : Type} {f : α → Bool} {l : List α} (hc : X.calm = true := by rfl) : Clt X (.builtin "any") [tD (.list (l.map fun a => .bool (f a)))] (tB (l.any f)) := by
  have := c_any (X := X) (bs := l.map f) hc
  rw [show (l.map f).any id = l.any f by rw [List.any_map]; rfl, ← map_map_b] at this
  exact this
theorem sc_wanted_keys : FnScope ["table", "key", "new"] ["table"] (defScope s_wanted_keys) := ⟨rfl, rfl, rfl, by decide +kernel, rfl, by decide +kernel, by decide +kernel⟩
theorem ok_wanted_keys (T : Txt K mg) : DefT P w K mg base "wanted_keys" 3 (A := Rows) (fun a => [tT K a]) (fun a => WF a) (fun a => tD (dI (wanted a))) := by
  refine DefT.top T 21 37 sc_wanted_keys (fun _ _ _ _ _ _ us hl => match us, hl with | [_], _ => rfl) (fun _ => rfl) fun f cdv Ar outer s H E R wf hr => ?_
  have hl : (R.map (·.2)).length ≤ 40 := by rw [List.length_map]; exact wf.len
  refine GS.one (G1.ret (EV.callB (T.free 9) (c_sortS (ns := R.map (·.2)) (Nat.lt_of_le_of_lt (sset_len _) (Nat.lt_of_le_of_lt hl (by decide)))) (EA.one (EV.callT (T.free 10) (c_setL (Nat.le_trans hl (by decide))) (EA.one ?_)))))
  refine EV.cast (EV.lc (pd := fun _ => true) (f := fun r : Int × Int => .int r.2) [("key", 1), ("new", 2)] (IV.tup (EV.rows T hr (EV.var 0) wf)) (fun s H C cl fp => pg_tup rfl (pgs_cons (pg_name (i := 1) sc_wanted_keys.nd rfl (Or.inl rfl)) (pgs_cons (pg_name (i := 2) sc_wanted_keys.nd rfl (Or.inl rfl)) pgs_nil))) (TgOk.pair 1 2) (fun p _ s H C cl fp => CTs.nil) (fun r _ _ s H C cl fp => EV.var 2) sc_wanted_keys.nd) ?_
  rw [filter_yes]
  show _ = tD (.list ((R.map (·.2)).map .int))
  rw [List.map_map]; rfl
theorem sc_pure_rings : FnScope ["table", "wants", "ring", "key"] ["table"] (defScope s_pure_rings) := ⟨rfl, rfl, rfl, by decide +kernel, rfl, by decide +kernel, by decide +kernel⟩
theorem dBy_look {R : Rows} {k : Int} (h : wantsOf R k ≠ []) : (dBy R).lookup k = some (dI (wantsOf R k)) := by
  have h1 : (byNew R).lookup k = some (wantsOf R k) := by rw [byNew_lookup, if_neg h]
  have : ∀ l : List (Int × List Int), (l.map fun p => (p.1, dI p.2)).lookup k = (l.lookup k).map fun x => dI x := fun l => by
    induction l with
    | nil => rfl
    | cons p l ih =>
      rw [List.map_cons, List.lookup_cons, List.lookup_cons, ih]
      cases k == p.1 <;> rfl
  rw [this, h1]; rfl
theorem map_id_dT (l : List (List Int)) : l.map (fun r => dT r) = l.map fun r => dT r := rfl
theorem ok_pure_rings (T : Txt K mg) : DefT P w K mg base "pure_rings" 9 (A := Rows) (fun a => [tT K a]) (fun a => WF a) (fun a => tD (dLT (pures a))) := by
  refine DefT.top T 22 38 sc_pure_rings (fun _ _ _ _ _ _ us hl => match us, hl with | [_], _ => rfl) (fun _ => rfl) fun f cdv Ar outer s H E R wf hr => ?_
  refine GS.seq (G1.set 1 (EV.call (ok_by_new T) R wf (hr.mono (by decide)) (EA.one (EV.var 0))) sc_pure_rings.nd) ?_
  refine GS.one (G1.ret (EV.lc (pd := isPure R) (f := fun r : List Int => dT r) [("ring", 2)] (IV.list (xs := rings R) (EV.call (ok_rings_of T) R wf hr (EA.one (EV.var 0)))) (fun s H C cl fp => pg_name (i := 2) sc_pure_rings.nd rfl (Or.inl rfl)) (TgOk.name 2) (fun r hm s H C cl fp => CTs.one (CT.val (EV.callB (T.free 6) c_allM (EA.one ?_)))) (fun r _ _ s H C cl fp => EV.var 2 (t := tD (dT r))) sc_pure_rings.nd))
  have g := mem_rings.mp hm
  refine EV.cast (EV.lc (pd := fun _ => true) (f := fun k : Int => .bool (decide ((wantsOf R k).length = 1))) [("key", 3)] (IV.tup (EV.var 2 (t := tD (dT r)))) (fun s H C cl fp => pg_name (i := 3) sc_pure_rings.nd rfl (Or.inl rfl)) (TgOk.name 3) (fun p _ s H C cl fp => CTs.nil)
    (fun k hk _ s H C cl fp => EV.cast (EV.cmp (EV.callB (T.free 5) c_lenL (EA.one (EV.dget (hu_of hr) (EV.imp (EV.var 1) (tb := tDK fun k => (dBy R).lookup k) fun v B h => tDo_dk h) (EV.var 3 (t := tI k)) (dBy_look (ring_wants wf g hk))))) EV.int o_eqI) ?_) sc_pure_rings.nd) ?_
  · rw [List.length_map]
    congr 1
    simp only [decide_eq_decide]
    omega
  · rw [filter_yes]
theorem sc_is_cover : FnScope ["table", "keys", "wanted", "key", "new", "ring"] ["table", "keys"] (defScope s_is_cover) := ⟨rfl, rfl, rfl, by decide +kernel, rfl, by decide +kernel, by decide +kernel⟩
theorem ok_is_cover (T : Txt K mg) : DefT P w K mg base "is_cover" 10 (A := Rows × List Int) (fun a => [tT K a.1, tD (dT a.2)]) (fun a => WF a.1) (fun a => tB (isCover a.1 a.2)) := by
  refine DefT.top T 23 39 sc_is_cover (fun _ _ _ _ _ _ us hl => match us, hl with | [_, _], _ => rfl) (fun _ => rfl) fun f cdv Ar outer s H E a wf hr => ?_
  obtain ⟨R, ks⟩ := a
  refine GS.seq (G1.set 2 (EV.call (ok_wanted_keys T) R wf (hr.mono (by decide)) (EA.one (EV.var 0))) sc_is_cover.nd) ?_
  refine GS.ifR (b := !allIn ks (wanted R)) (CT.not (CT.val (EV.callB (T.free 6) c_allM (EA.one (EV.cast (EV.lc (pd := fun _ => true) (f := fun k : Int => .bool (decide (k ∈ wanted R))) [("key", 3)] (IV.tup (EV.var 1 (t := tD (dT ks)))) (fun s H C cl fp => pg_name (i := 3) sc_is_cover.nd rfl (Or.inl rfl)) (TgOk.name 3) (fun p _ s H C cl fp => CTs.nil)
    (fun k _ _ s H C cl fp => EV.cmp (EV.var 3 (t := tI k)) (EV.var 2 (t := tD (dI (wanted R)))) o_inL) sc_is_cover.nd) (by rw [filter_yes])))))) (fun h => GS.one (G1.ret (EV.cast EV.bl ?_))) fun h1 => ?_
  · unfold isCover
    rw [show allIn ks (wanted R) = false by simpa using h]; rfl
  have h1 : allIn ks (wanted R) = true := by simpa using h1
  refine GS.ifR (b := !R.all fun r => decide (r.1 ∈ ks) || decide (r.2 ∈ ks)) (CT.not (CT.val (EV.callB (T.free 6) c_allM (EA.one (EV.cast (EV.lc (pd := fun _ => true) (f := fun r : Int × Int => .bool (decide (r.1 ∈ ks) || decide (r.2 ∈ ks))) [("key", 3), ("new", 4)] (IV.tup (EV.rows T (hr.mono (by decide)) (EV.var 0) wf)) (fun s H C cl fp => pg_tup rfl (pgs_cons (pg_name (i := 3) sc_is_cover.nd rfl (Or.inl rfl)) (pgs_cons (pg_name (i := 4) sc_is_cover.nd rfl (Or.inl rfl)) pgs_nil))) (TgOk.pair 3 4) (fun p _ s H C cl fp => CTs.nil)
    (fun r _ _ s H C cl fp => EV.or (EV.cmp (EV.var 3 (t := tI r.1)) (EV.var 1 (t := tD (dT ks))) o_inT) fun _ => EV.one (EV.cmp (EV.var 4 (t := tI r.2)) (EV.var 1 (t := tD (dT ks))) o_inT)) sc_is_cover.nd) (by rw [filter_yes])))))) (fun h => GS.one (G1.ret (EV.cast EV.bl ?_))) fun h2 => ?_
  · unfold isCover
    rw [h1, show (R.all fun r => decide (r.1 ∈ ks) || decide (r.2 ∈ ks)) = false by simpa using h]; rfl
  refine GS.one (G1.ret (EV.cast (EV.callB (T.free 6) c_allM (EA.one (EV.cast (EV.lc (pd := fun _ => true) (f := fun r : List Int => .bool (!allIn r ks)) [("ring", 5)] (IV.list (xs := pures R) (EV.call (ok_pure_rings T) R wf hr (EA.one (EV.var 0)))) (fun s H C cl fp => pg_name (i := 5) sc_is_cover.nd rfl (Or.inl rfl)) (TgOk.name 5) (fun p _ s H C cl fp => CTs.nil)
    (fun r _ _ s H C cl fp => EV.not (EV.callB (T.free 6) c_allM (EA.one (EV.cast (EV.lc (pd := fun _ => true) (f := fun k : Int => .bool (decide (k ∈ ks))) [("key", 3)] (IV.tup (EV.var 5 (t := tD (dT r)))) (fun s H C cl fp => pg_name (i := 3) sc_is_cover.nd rfl (Or.inl rfl)) (TgOk.name 3) (fun p _ s H C cl fp => CTs.nil)
      (fun k _ _ s H C cl fp => EV.cmp (EV.var 3 (t := tI k)) (EV.var 1 (t := tD (dT ks))) o_inT) sc_is_cover.nd) (by rw [filter_yes]))))) sc_is_cover.nd) (by rw [filter_yes])))) ?_))
  unfold isCover
  rw [h1, show (R.all fun r => decide (r.1 ∈ ks) || decide (r.2 ∈ ks)) = true by simpa using h2]; rfl
end
end Rk
/-! part Ly5 -/
namespace Rk
open PySem PySem.Spec L2
/-! ### a dict of one's own -/
def oD (l : List (Int × PyData)) : Osp where
  ok := fun _ o B => ∃ kv : List (Key × V), o = .dK kv ∧ kv.length ≤ lim ∧ kv.map (fun p : Key × V => p.1) = l.map (fun p => (Sum.inl p.1 : Key)) ∧ Da B (kv.map (fun p : Key × V => p.2)) (l.map (fun p : Int × PyData => p.2))
  st := fun e ⟨kv, h1, h2, h3, h4⟩ => ⟨kv, h1, h2, h3, h4.mono e⟩
  ty := tDo l
  as := fun ⟨kv, h1, h2, h3, h4⟩ hp => ⟨_, kv, rfl, h1 ▸ hp, h2, h3, h4⟩
def putA (l : List (Int × PyData)) (k : Int) (d : PyData) : List (Int × PyData) := if (l.any fun p => decide (p.1 = k)) = true then l.map (fun p => if p.1 = k then (p.1, d) else p) else l ++ [(k, d)]
theorem putA_da {B : Hp} {v : V} {k : Int} {d : PyData} (hv : Dv B v d) : ∀ {kv : List (Key × V)} {l : List (Int × PyData)}, kv.map (·.1) = l.map (fun p => (Sum.inl p.1 : Key)) → Da B (kv.map (·.2)) (l.map (·.2)) →
    (kv.any fun p => decide (p.1 = (Sum.inl k : Key))) = (l.any fun p => decide (p.1 = k)) ∧ (kv.map fun p => if p.1 = (Sum.inl k : Key) then (p.1, v) else p).map (·.1) = (l.map fun p => if p.1 = k then (p.1, d) else p).map (fun p => (Sum.inl p.1 : Key)) ∧
      Da B ((kv.map fun p => if p.1 = (Sum.inl k : Key) then (p.1, v) else p).map (·.2)) ((l.map fun p => if p.1 = k then (p.1, d) else p).map (·.2))
  | [], [], _, _ => ⟨rfl, rfl, .nil⟩
  | [], _ :: _, e, _ => by cases e
  | _ :: _, [], e, _ => by cases e
  | q :: kv, r :: l, e, h => by
    rw [List.map_cons, List.map_cons] at e
    obtain ⟨e1, e2⟩ := List.cons.inj e
    rw [List.map_cons, List.map_cons] at h
    cases h with
    | cons h1 h2 =>
      obtain ⟨i1, i2, i3⟩ := putA_da hv e2 h2
      by_cases hk : r.1 = k
      · have a1 : q.1 = (Sum.inl k : Key) := by rw [e1, hk]
        refine ⟨?_, ?_, ?_⟩
        · simp [a1, hk]
        · simp only [List.map_cons, a1, hk, if_true] at i2 ⊢
          rw [i2]
        · simp only [List.map_cons, a1, hk, if_true] at i3 ⊢
          exact .cons hv i3
      · have a1 : ¬ q.1 = (Sum.inl k : Key) := fun z => hk (Sum.inl.inj (e1.symm.trans z))
        refine ⟨?_, ?_, ?_⟩
        · simp only [List.any_cons, i1, decide_eq_false a1, decide_eq_false hk]
        · simp only [List.map_cons, if_neg a1, if_neg hk] at i2 ⊢
          rw [i2, e1]
        · simp only [List.map_cons, if_neg a1, if_neg hk] at i3 ⊢
          exact .cons h1 i3
theorem putA_ok {p : Addr} {B : Hp} {v : V} {k : Int} {d : PyData} {kv : List (Key × V)} {l : List (Int × PyData)} (hv : Dv B v d) (h2 : kv.length < lim) (h3 : kv.map (·.1) = l.map (fun p => (Sum.inl p.1 : Key))) (h4 : Da B (kv.map (·.2)) (l.map (·.2))) : (oD (putA l k d)).ok p (.dK (putK kv (Sum.inl k) v)) B := by
  obtain ⟨i1, i2, i3⟩ := putA_da (k := k) hv h3 h4
  refine ⟨_, rfl, Nat.le_trans (length_putK _ _ _) h2, ?_, ?_⟩
  · unfold putK putA
    rw [i1]
    split
    · exact i2
    · rw [List.map_append, List.map_append, h3]; rfl
  · unfold putK putA
    rw [i1]
    split
    · exact i3
    · rw [List.map_append, List.map_append]
      exact h4.append (.cons hv .nil)
section
variable {X : Cx} {Γ Γ1 : Gm} {st : Stmt} {ss : List Stmt} {N N1 C K : Gm → Prop} {t u u1 u2 u3 : Ty} {ts : List Ty} {e e1 e2 e3 c o f : Expr} {es : List Expr} {pos p pt pt2 px py pz : Pos} {x y z : Str} {kt k2 : Nat} {ds fs : List PyData} {d : PyData}
/-- x = {} -/
theorem G1.newD {pos' p3 : Pos} (i : Nat) (nd : X.N.Nodup) (hl : i < Γ.length := by exact Nat.le_of_ble_eq_true rfl) (hi : X.N[i]? = some x := by rfl) (hx : Loc X.env.scope x := by first | exact .inl rfl | exact .inr rfl) (hs : swapsWith (.Dict [] [] p3) (some (.Name x pos')) pos.line X.env = pure false := by rfl)
    (hf : X.fn x = true ∨ X.env.scope.names.lookup x = some .local := by first | exact .inl rfl | exact .inr rfl) : G1 X Γ (.Assign [.Name x pos'] (.Dict [] [] p3) pos) (· = Γ.set i (some (.own (oD [])))) C K t :=
  PS.imp (ps_set nd hi hx pe_dnewK hs hf) fun D σ H ⟨H0, B0, Bl, B, s, n, _⟩ q hq => n _ _ _ B rfl (s.newOwn hl hq ⟨[], rfl, Nat.zero_le _, rfl, .nil⟩)
/-- a, b = e, {} -/
theorem G1.parTD {ps : Pos} (i j : Nat) (h1 : EV X Γ e1 u1) (nd : X.N.Nodup) (hlen : j < Γ.length := by exact Nat.le_of_ble_eq_true rfl) (hij : i ≠ j := by decide) (hi : X.N[i]? = some x := by rfl) (hj : X.N[j]? = some y := by rfl) (hx : X.env.scope.names.lookup x = some .local := by rfl) (hy : X.env.scope.names.lookup y = some .local := by rfl)
    (hw : swappedStores [.Tuple [.Name x px, .Name y py] kt pt] (.Tuple [e1, .Dict [] [] ps] k2 pt2) X.env = pure (some [x, y]) := by rfl) (hs : swapsWithSole [.Tuple [.Name x px, .Name y py] kt pt] (.Tuple [e1, .Dict [] [] ps] k2 pt2) pos.line X.env = pure false := by rfl) (hc : X.calm = true := by rfl)
    (hst : starEach [e1, .Dict [] [] ps] X.env = (false, eval e1 X.env) :: starEach [.Dict [] [] ps] X.env := by rfl) (hst2 : starEach [.Dict [] [] ps] X.env = (false, eval (.Dict [] [] ps) X.env) :: starEach [] X.env := by rfl) :
    G1 X Γ (.Assign [.Tuple [.Name x px, .Name y py] kt pt] (.Tuple [e1, .Dict [] [] ps] k2 pt2) pos) (· = (Γ.set i (some (.ty u1))).set j (some (.own (oD [])))) C K t := by
  refine PS.imp (ps_par hc nd hi hj hij hx hy (pa_cons h1 (pa_cons pe_dnewK pa_nil hst2) hst) hw hs) ?_
  rintro D σ H ⟨H0, B0, Bl, B, s, n, _⟩
  refine ⟨B, s.sa, fun v H1 B1 s1 r1 q hq => ⟨v, _, rfl, ?_⟩⟩
  exact n _ _ _ B1 rfl (((s.step s1).set r1).newOwn (i := j) (o := oD []) (h := .dK []) (by simpa using hlen) hq ⟨[], rfl, Nat.zero_le _, rfl, .nil⟩)
/-- x[e] = f, x one's own dict -/
theorem G1.dset {l : List (Int × PyData)} {k : Int} {pos' : Pos} (i : Nat) (hu : X.A.units + 1 < cLine) (hk : EV X Γ e (tI k)) (hv : EV X Γ f (tD d)) (hl : l.length < lim) (hg : Γ[i]? = some (some (.own (oD l))) := by rfl) (hi : X.N[i]? = some x := by rfl) (hvis : Vis X.env.scope x := by first | exact Or.inl rfl | exact Or.inr (Or.inl rfl) | exact Or.inr (Or.inr rfl))
    (hd : (x == ("__debug__" : Str)) = false := by decide) (hcd : (x == ("__classdict__" : Str)) = false := by decide) (hs : swapsWith f (some (.Subscript (.Name x px) e pos')) pos.line X.env = pure false := by rfl) :
    G1 X Γ (.Assign [.Subscript (.Name x px) e pos'] f pos) (· = Γ.set i (some (.own (oD (putA l k d))))) C K t := by
  refine PS.imp (ps_dput hu (pe_var (i := i) hi hvis hd hcd) hk hv hs) ?_
  rintro D σ H ⟨H0, B0, Bl, B, s, n, _⟩
  refine ⟨B, s.sa, fun v H1 B1 s1 r1 => ?_⟩
  have s' := s.step s1
  obtain ⟨q, h, a1, a2, a3, a4, kv, rfl, b1, b2, b3⟩ := s'.ow i _ hg
  refine ⟨_, a1, B1, s'.sa, fun y H2 B2 s2 r2 => ?_⟩
  cases tI_R r2
  have s'' := s'.step s2
  have hkl : kv.length = l.length := by simpa using congrArg List.length b2
  refine ⟨q, _, rfl, .inl ⟨kv, Sum.inl k, s2.h _ _ a4, rfl, lim_lt (Nat.le_of_lt (by rw [hkl]; exact hl)), rfl⟩, ?_⟩
  exact n _ _ _ B2 rfl (s''.store (o' := oD (putA l k d)) hg a1 (putA_ok ((tD d).st s2.b r1) (by rw [hkl]; exact hl) b2 (b3.mono s2.b)))
/-- d.get(k, e) -/
theorem EV.dget2 {fn : Int → Option PyData} {k : Int} {ap cp : Pos} (hu : X.A.units + 1 < cLine) (ho : EV X Γ o (tDK fn)) (hk : EV X Γ e (tI k)) (hf : EV X Γ f (tD d)) (m : M2 X o "get" ap e f cp := by exact ⟨rfl, rfl, rfl, rfl⟩) : EV X Γ (.Call (.Attribute o "get" ap) [e, f] [] cp) (tD ((fn k).getD d)) :=
  EV.of (pe_dget2 hu ho hk hf m) fun σ H B Q sa q => ⟨B, sa, fun v H1 B1 s1 r1 => by
    obtain ⟨a, o', rfl, g, _, hd⟩ := dk_get r1 k
    have isd : IsD H1 a := by
      rcases dget_same s1.s g with ⟨kvs, k', h, _⟩ | ⟨kvs, k', b, h, _⟩
      · exact .inl ⟨kvs, h⟩
      · exact .inr ⟨kvs, h⟩
    refine ⟨a, rfl, isd, B1, sa.mono s1, fun y H2 B2 s2 r2 => ?_⟩
    cases tI_R r2
    refine ⟨B2, sa.mono (s1.trans s2), fun z H3 B3 s3 r3 => ⟨o', dget_same (s2.b.trans (s3.b.trans s3.s)) g, q _ _ _ ((s1.trans s2).trans s3) ?_⟩⟩
    cases e : fn k with
    | none =>
      have : o' = none := by
        have h2 := (dk_get r1 k)
        have hs : o'.isSome = (fn k).isSome := by assumption
        rw [e] at hs
        cases o' with
        | none => rfl
        | some _ => cases hs
      subst this
      exact r3
    | some d' =>
      obtain ⟨u, rfl, h4⟩ := hd d' e
      exact (tD d').st (s2.b.trans s3.b) h4⟩
theorem ip_mulW : PIp X .Mult (rI CMulW fun i j => .int (i * j)) := opI (f := inplaceOp .Mult) fun _ _ _ _ _ _ _ hc q => PyProof.Rows.imul_int q hc.ok
theorem o_mulW {i j : Int} (h : CMulW i j) : Opt X (binaryOp .Mult) (tI i) (tI j) (tI (i * j)) := oIC op_mulW h
theorem G1.mulI {a b : Int} (i : Nat) (he : EV X (pk Γ) e (tI b)) (hc : CMulW a b) (nd : X.N.Nodup) (hg : Γ[i]? = some (some (.ty (tI a))) := by rfl) (hi : X.N[i]? = some x := by rfl) (hx : Loc X.env.scope x := by first | exact .inl rfl | exact .inr rfl)
    (hf : X.fn x = true ∨ X.env.scope.names.lookup x = some .local := by first | exact .inl rfl | exact .inr rfl) : G1 X Γ (.AugAssign (.Name x p) .Mult e pos) (· = Γ.set i (some (.ty (tI (a * b))))) C K t :=
  G1.augI i he ip_mulW (f := fun i j => i * j) (fun H Q q => ⟨a, b, rfl, rfl, hc, q⟩) nd hg hi hx hf
/-- x.extend(e) -/
theorem G1.extend {ap : Pos} (i : Nat) (he : EV X Γ e (tD (.list fs))) (hl : ds.length + fs.length ≤ lim) (hg : Γ[i]? = some (some (.own (oL ds))) := by rfl) (hi : X.N[i]? = some x := by rfl) (hv : Vis X.env.scope x := by first | exact Or.inl rfl | exact Or.inr (Or.inl rfl) | exact Or.inr (Or.inr rfl))
    (hd : (x == ("__debug__" : Str)) = false := by decide) (hcd : (x == ("__classdict__" : Str)) = false := by decide)
    (hbase : attributeBase (.Name x px) "extend" X.env (eval (.Name x px) X.env) = eval (.Name x px) X.env := by rfl)
    (hfew : ((backTo p (starEach [e] X.env)).all (fun x => !x.1) && (backToKw p (keywordEach [] X.env)).all (fun x => x.1.isSome) && decide (([e] : List Expr).length + ([] : List Keyword).length + (if ([] : List Keyword).isEmpty then 0 else 1) < 30)) = true := by rfl)
    (hline : (ap.endLine == p.line) = true := by rfl) (hse : starEach [e] X.env = (false, eval e X.env) :: starEach [] X.env := by rfl) (hpl : (backTo p (starEach [] X.env)).any (·.1) = false := by rfl)
    (hs : swapsWith (.Call (.Attribute (.Name x px) "extend" ap) [e] [] p) none pos.line X.env = pure false := by rfl) :
    G1 X Γ (.Expr (.Call (.Attribute (.Name x px) "extend" ap) [e] [] p) pos) (· = Γ.set i (some (.own (oL (ds ++ fs))))) C K t := by
  refine PS.imp (ps_expr (pe_bm PySem.F.plainAttrs_list PySem.F.slot_list_extend PySem.F.type_list_extend mt_extend (pe_var (i := i) hi hv hd hcd) (pa_cons he pa_nil hse) (hbase := hbase) (hfew := hfew) (hline := hline) (hs := hse) (hplain := hpl)) hs) ?_
  rintro D σ H ⟨H0, B0, Bl, B, s, n, _⟩
  obtain ⟨q, h, a1, a2, a3, a4, vs, rfl, a5, a6⟩ := s.ow i _ hg
  refine ⟨_, a1, Or.inl ⟨rfl, _, SqL.of a4⟩, B, s.sa, fun v H' B' k r => ?_⟩
  obtain ⟨b, ws, rfl, c1, c2, c3⟩ := tL_R r
  have hz : vs.length + ws.length ≤ lim := by rw [a6.length, c3.length]; exact hl
  refine ⟨q, b, vs, ws, rfl, rfl, k.h _ _ a4, k.s _ _ c1, lim_le hz, ?_⟩
  exact n _ _ _ B' rfl ((s.step k).store (o' := oL (ds ++ fs)) hg a1 ⟨vs ++ ws, rfl, by rw [List.length_append]; exact hz, (a6.mono k.b).append c3⟩)
/-- x.remove(e), numbers -/
theorem G1.remove {ns : List Int} {k : Int} {ap : Pos} (i : Nat) (he : EV X Γ e (tI k)) (hm : k ∈ ns) (hg : Γ[i]? = some (some (.own (oL (ns.map .int)))) := by rfl) (hi : X.N[i]? = some x := by rfl) (hv : Vis X.env.scope x := by first | exact Or.inl rfl | exact Or.inr (Or.inl rfl) | exact Or.inr (Or.inr rfl))
    (hd : (x == ("__debug__" : Str)) = false := by decide) (hcd : (x == ("__classdict__" : Str)) = false := by decide)
    (hbase : attributeBase (.Name x px) "remove" X.env (eval (.Name x px) X.env) = eval (.Name x px) X.env := by rfl)
    (hfew : ((backTo p (starEach [e] X.env)).all (fun x => !x.1) && (backToKw p (keywordEach [] X.env)).all (fun x => x.1.isSome) && decide (([e] : List Expr).length + ([] : List Keyword).length + (if ([] : List Keyword).isEmpty then 0 else 1) < 30)) = true := by rfl)
    (hline : (ap.endLine == p.line) = true := by rfl) (hse : starEach [e] X.env = (false, eval e X.env) :: starEach [] X.env := by rfl) (hpl : (backTo p (starEach [] X.env)).any (·.1) = false := by rfl)
    (hs : swapsWith (.Call (.Attribute (.Name x px) "remove" ap) [e] [] p) none pos.line X.env = pure false := by rfl) :
    G1 X Γ (.Expr (.Call (.Attribute (.Name x px) "remove" ap) [e] [] p) pos) (· = Γ.set i (some (.own (oL ((ns.erase k).map .int))))) C K t := by
  refine PS.imp (ps_expr (pe_bm PySem.F.plainAttrs_list PySem.F.slot_list_remove PySem.F.type_list_remove mt_remove (pe_var (i := i) hi hv hd hcd) (pa_cons he pa_nil hse) (hbase := hbase) (hfew := hfew) (hline := hline) (hs := hse) (hplain := hpl)) hs) ?_
  rintro D σ H ⟨H0, B0, Bl, B, s, n, _⟩
  obtain ⟨q, h, a1, a2, a3, a4, vs, rfl, a5, a6⟩ := s.ow i _ hg
  cases a6.ints
  refine ⟨_, a1, Or.inl ⟨rfl, _, SqL.of a4⟩, B, s.sa, fun v H' B' k' r => ?_⟩
  cases tI_R r
  obtain ⟨j, b1, b2, b3, b4⟩ := first_at hm
  refine ⟨q, ns, k, j, rfl, rfl, k'.h _ _ a4, b2, b3, ?_⟩
  rw [b4]
  refine n _ _ _ B' rfl ((s.step k').store (o' := oL ((ns.erase k).map .int)) hg a1 ⟨_, rfl, ?_, Da.ofInts _⟩)
  rw [List.length_map] at a5 ⊢
  exact Nat.le_trans (List.length_erase_le) a5
/-! slices -/
def ro (Γ : Gm) (i : Option Int) : TO := fun σ H Q => ∃ B, Sa Γ σ H B ∧ ∀ H' B', Stp H B H' B' → Q i H'
abbrev EO (X : Cx) (Γ : Gm) (e : Option Expr) (i : Option Int) : Prop := PO X e (ro Γ i)
theorem PO.imp {e : Option Expr} {t0 t1 : TO} (h : PO X e t0) (k : ∀ σ H Q, t1 σ H Q → t0 σ H Q) : PO X e t1 := ⟨fun pins s σ H Q I q => h.run pins s σ H Q I (k σ H Q q)⟩
theorem EO.none : EO X Γ none none := PO.imp po_none fun σ H Q ⟨B, sa, q⟩ => q H B (Stp.refl sa.sm)
theorem EO.some {k : Int} (h : EV X Γ e (tI k)) : EO X Γ (some e) (some k) := PO.imp (po_some h) fun σ H Q ⟨B, sa, q⟩ => ⟨B, sa, fun v H' B' s r => ⟨k, tI_R r, q H' B' s⟩⟩
def cutD {α : Type} (xs : List α) (lo hi : Option Int) : List α := (xs.drop (HT.sIx xs.length 0 lo)).take (HT.sIx xs.length xs.length hi - HT.sIx xs.length 0 lo)
theorem cutD_from {α : Type} (xs : List α) (k : Nat) : cutD xs (some (k : Int)) none = xs.drop k := by
  unfold cutD
  rw [HT.sIx_nat, HT.sIx_none]
  rcases Nat.lt_or_ge k xs.length with h | h
  · rw [Nat.min_eq_left (Nat.le_of_lt h), List.take_of_length_le (by rw [List.length_drop]; exact Nat.le_refl _)]
  · rw [Nat.min_eq_right h, List.drop_eq_nil_of_le (Nat.le_refl _), List.drop_eq_nil_of_le h]; simp
theorem cutD_to {α : Type} (xs : List α) (k : Nat) : cutD xs none (some (k : Int)) = xs.take k := by
  unfold cutD
  rw [HT.sIx_nat, HT.sIx_none, List.drop_zero, Nat.sub_zero]
  rcases Nat.lt_or_ge k xs.length with h | h
  · rw [Nat.min_eq_left (Nat.le_of_lt h)]
  · rw [Nat.min_eq_right h, List.take_of_length_le (Nat.le_refl _), List.take_of_length_le h]
theorem cutV_da {B : Hp} {vs : List V} (h : Da B vs ds) (lo hi : Option Int) : Da B (cutV vs lo hi) (cutD ds lo hi) := by
  unfold cutV cutD
  rw [h.length]
  exact (h.drop _).take _
theorem EV.slL {lo hi : Option Expr} {i j : Option Int} (he : EV X Γ e (tD (.list ds))) (hl : EO X Γ lo i) (hh : EO X Γ hi j) : EV X Γ (.Subscript e (.Slice lo hi none p) pos) (tD (.list (cutD ds i j))) :=
  EV.of (pe_slice sl_list he hl hh) fun σ H B Q sa q => ⟨B, sa, fun v H1 B1 s1 r1 => ⟨B1, sa.mono s1, fun H2 B2 s2 => ⟨B2, sa.mono (s1.trans s2), fun H3 B3 s3 => by
    obtain ⟨a, vs, rfl, h1, h2, h3⟩ := tL_R r1
    have st := (s1.trans s2).trans s3
    refine ⟨a, vs, rfl, SqL.of (s3.s _ _ (s3.b _ _ (s2.b _ _ h1))), fun p hp => q _ _ _ (st.trans (Stp.new s3.s hp)) (.lst upd_same (Nat.le_trans (cutV_length _ _ _) h2) ((cutV_da (h3.mono (s2.b.trans s3.b)) i j).mono (same_upd (s3.s.free hp))))⟩⟩⟩⟩
theorem EV.slT {lo hi : Option Expr} {i j : Option Int} (he : EV X Γ e (tD (.tuple ds))) (hl : EO X Γ lo i) (hh : EO X Γ hi j) : EV X Γ (.Subscript e (.Slice lo hi none p) pos) (tD (.tuple (cutD ds i j))) :=
  EV.of (pe_slice sl_tupA he hl hh) fun σ H B Q sa q => ⟨B, sa, fun v H1 B1 s1 r1 => ⟨B1, sa.mono s1, fun H2 B2 s2 => ⟨B2, sa.mono (s1.trans s2), fun H3 B3 s3 => by
    obtain ⟨a, vs, rfl, h1, h2, h3⟩ := tT_R r1
    have st := (s1.trans s2).trans s3
    have hl := h3.length
    refine ⟨a, vs, rfl, SqT.of (s3.s _ _ (s3.b _ _ (s2.b _ _ h1))), fun hw => q _ _ _ st ?_, fun _ p hp => q _ _ _ (st.trans (Stp.new s3.s hp)) (.tup upd_same (Nat.le_trans (cutV_length _ _ _) h2) ((cutV_da (h3.mono (s2.b.trans s3.b)) i j).mono (same_upd (s3.s.free hp))))⟩
    have : cutD ds i j = ds := by
      unfold cutD
      rw [hl] at hw
      rw [hw.1, hw.2, List.drop_zero, List.take_of_length_le (Nat.le_of_eq (Nat.sub_zero _).symm)]
    rw [this]
    exact (tD (.tuple ds)).st (s2.b.trans s3.b) (.tup h1 h2 h3)⟩⟩⟩
theorem EV.rev {k : Nat} {p1 p2 p3 : Pos} (he : EV X Γ e (tD (.list ds))) : EV X Γ (.Subscript e (.Slice none none (some (.UnaryOp .USub (.Constant (.int 1) k p1) p2)) p3) pos) (tD (.list ds.reverse)) :=
  EV.of (pe_revL he) fun σ H B Q sa q => ⟨B, sa, fun v H1 B1 s1 r1 => by
    obtain ⟨a, vs, rfl, h1, h2, h3⟩ := tL_R r1
    exact ⟨a, vs, rfl, SqL.of (s1.s _ _ h1), fun p hp => q _ _ _ (s1.trans (Stp.new s1.s hp)) (.lst upd_same (by rw [List.length_reverse]; exact h2) (h3.rev.mono (same_upd (s1.s.free hp))))⟩⟩
end
end Rk
/-! part Ly6 -/
namespace Rk
open PySem PySem.Spec L2
theorem walk_zipT {K : PySem.W.Frag} {a b : Addr} {xs ys : List V} {n : Nat} (hn : n = min xs.length ys.length) : Walk (RZ.ItzT K a b) n (fun H => SqT K H a xs ∧ SqT K H b ys) (YPair (fun i => xs[i]?) (fun i => ys[i]?)) := by
  subst hn
  refine ⟨fun i _ hi q => ?_, fun _ q => ⟨xs, ys, q.1, q.2, by omega⟩, fun i H v H' _ q y => ?_⟩
  · have h1 : i < xs.length := by omega
    have h2 : i < ys.length := by omega
    exact ⟨xs, ys, xs[i], ys[i], q.1, q.2, by simp [h1], by simp [h2]⟩
  · obtain ⟨T, x, z, h1, h2, h3, h4, h5⟩ := y
    exact ⟨T, x, z, h1, h2, h3, h4 xs q.1, h5 ys q.2⟩
theorem pairT {B H : Hp} {T : Addr} {x y : V} {d f : PyData} (sm : Same B H) (hT : H T = none) (h1 : Dv B x d) (h2 : Dv B y f) : Stp H B (upd H T (.tup [x, y])) (upd B T (.tup [x, y])) ∧ Dv (upd B T (.tup [x, y])) (.ref T) (.tuple [d, f]) :=
  ⟨Stp.new sm hT, .tup upd_same (by show 2 ≤ lim; decide) (.cons (h1.mono (same_upd (sm.free hT))) (.cons (h2.mono (same_upd (sm.free hT))) .nil))⟩
section
variable {X : Cx} {Γ : Gm} {e e1 e2 : Expr} {p pos tpos : Pos} {elts : List Expr} {kk : Nat} {ds fs : List PyData}
/-- zip of two tuples -/
theorem IV.zipT (hm : X.mg "zip" = none) (h1 : EV X Γ e1 (tD (.tuple ds))) (h2 : EV X Γ e2 (tD (.tuple fs))) (hg : Gl X "zip" := by rfl) (hs : starEach [e1, e2] X.env = (false, eval e1 X.env) :: starEach [e2] X.env := by rfl) (hs2 : starEach [e2] X.env = [(false, eval e2 X.env)] := by rfl) (hpl : (backTo pos (starEach [e2] X.env)).any (·.1) = false := by rfl) :
    IV X Γ (.Tuple elts kk tpos) (.Call (.Name "zip" p) [e1, e2] [] pos) (fun a : PyData × PyData => tD (.tuple [a.1, a.2])) (ds.zip fs) :=
  PI.imp (RZ.pi_zipA hg hm (EA.cons h1 (EA.one h2 hs2) hs) hs hpl) fun σ H R ⟨B, sa, q⟩ => ⟨B, sa, fun vs H1 B1 s1 r1 => by
    obtain ⟨v, w, rfl, ra, rb⟩ := r1.two
    obtain ⟨a, xs, rfl, a1, a2, a3⟩ := tT_R ra
    obtain ⟨b, ys, rfl, b1, b2, b3⟩ := tT_R rb
    have hl : min xs.length ys.length = (ds.zip fs).length := by rw [List.length_zip, a3.length, b3.length]
    refine ⟨a, b, xs, ys, rfl, .inr ⟨SqT.of (s1.s _ _ a1), SqT.of (s1.s _ _ b1), q _ H1 B1 _ _ s1 (walk_zipT (K := X.K) (a := a) (b := b) (xs := xs) (ys := ys) hl.symm) (fun H2 B2 e1 e2 => ⟨SqT.of (e2 _ _ (e1 _ _ a1)), SqT.of (e2 _ _ (e1 _ _ b1))⟩) ?_ (by rw [← hl]; omega)⟩⟩
    rintro i x H2 H3 B2 e1 e2 ⟨T, x', y', rfl, hT, rfl, hx, hy⟩
    obtain ⟨d, k1, k2⟩ := a3.getV hx
    obtain ⟨f, k3, k4⟩ := b3.getV hy
    obtain ⟨st, hd⟩ := pairT e2 hT (k2.mono e1) (k4.mono e1)
    exact ⟨(d, f), _, List.getElem?_zip_eq_some.mpr ⟨k1, k3⟩, st, hd⟩⟩
/-- enumerate of a list -/
theorem IV.enum {α : Type} {c : α → PyData} {xs : List α} (hm : X.mg "enumerate" = none) (h : EV X Γ e (tD (.list (xs.map c)))) (hg : Gl X "enumerate" := by rfl) (hs : starEach [e] X.env = [(false, eval e X.env)] := by rfl) :
    IV X Γ (.Tuple elts kk tpos) (.Call (.Name "enumerate" p) [e] [] pos) (fun a : α × Nat => tD (.tuple [.int a.2, c a.1])) xs.zipIdx :=
  PI.imp (pi_enum hg hm (EA.one h hs) hs) fun σ H R ⟨B, sa, q⟩ => ⟨B, sa, fun vs H1 B1 s1 r1 => by
    obtain ⟨v, rfl, ra⟩ := r1.one
    obtain ⟨a, vs, rfl, a1, a2, a3⟩ := tL_R ra
    have hl : vs.length = xs.zipIdx.length := by rw [a3.length, List.length_map, List.length_zipIdx]
    refine ⟨a, vs, rfl, SqL.of (s1.s _ _ a1), q _ H1 B1 _ _ s1 (hl ▸ walk_enum (K := X.K) (a := a) (xs := vs)) (fun H2 B2 e1 e2 => SqL.of (e2 _ _ (e1 _ _ a1))) ?_ (hl ▸ a2)⟩
    rintro i x H2 H3 B2 e1 e2 ⟨T, x', y', rfl, hT, rfl, hx, hy⟩
    cases hx
    obtain ⟨d, k1, k2⟩ := a3.getV hy
    obtain ⟨z, k3, rfl⟩ := getMap k1
    obtain ⟨st, hd⟩ := pairT e2 hT (.int (i : Nat)) (k2.mono e1)
    exact ⟨(z, i), _, by rw [List.getElem?_zipIdx, k3]; simp, st, hd⟩⟩
/-- range(0, n, 2) -/
theorem IV.range3 {a b c : Expr} {i j k : Int} {n : Nat} {tg : Expr} (hm : X.mg "range" = none) (ha : EV X Γ a (tI i)) (hb : EV X Γ b (tI j)) (hc : EV X Γ c (tI k)) (hr : RgC i j k n) (hn : n ≤ lim) (hg : Gl X "range" := by rfl)
    (hs : starEach [a, b, c] X.env = (false, eval a X.env) :: starEach [b, c] X.env := by rfl) (hs2 : starEach [b, c] X.env = (false, eval b X.env) :: starEach [c] X.env := by rfl) (hs3 : starEach [c] X.env = [(false, eval c X.env)] := by rfl) (hpl : (backTo pos (starEach [b, c] X.env)).any (·.1) = false := by rfl) :
    IV X Γ tg (.Call (.Name "range" p) [a, b, c] [] pos) (fun m : Nat => tI (i + m * k)) (List.range n) :=
  PI.imp (pi_range3 hg hm (EA.cons ha (EA.cons hb (EA.one hc hs3) hs2) hs) hs hpl) fun σ H R ⟨B, sa, q⟩ => ⟨B, sa, fun vs H1 B1 s1 r1 => by
    obtain ⟨x, y, z, rfl, rx, ry, rz⟩ := r1.three
    cases tI_R rx; cases tI_R ry; cases tI_R rz
    have hl : (List.range n).length = n := List.length_range
    have wk := (walk_rangeC (lo := i) (c := k) (n := n)).mono (G' := fun _ => True) (Y' := fun m H x H' => m < n ∧ YFn (fun m => V.int (i + (m : Nat) * k)) m H x H') (fun _ h => h) fun m H x H' hi _ y => ⟨hi, y⟩
    refine ⟨i, j, k, n, rfl, hr, q _ H1 B1 _ _ s1 (by rw [hl]; exact wk) (fun _ _ _ _ => True.intro) ?_ (by rw [hl]; exact hn)⟩
    rintro m x H2 H3 B2 e1 e2 ⟨hm, rfl, rfl⟩
    exact ⟨m, B2, by rw [List.getElem?_range hm], Stp.refl e2, .int _⟩⟩
theorem Sa.go {σ : St} {H B H' B' : Hp} (a : Sa Γ σ H B) (b : Same B B') (s : Same B' H') : Sa Γ σ H' B' := ⟨a.ln, s, fun i t e => let ⟨v, h1, h2⟩ := a.ty i t e; ⟨v, h1, t.st b h2⟩⟩
/-- [elt for tg in iter for tg1 in iter1] -/
theorem lc2_read {α β : Type} {g g1 : TG} {ut : α → Ty} {ut1 : β → Ty} {xs : List α} {ys : α → List β} {Γt : α → Gm} {Γu : α → β → Gm} {f : α → β → PyData} {js js1 vs vs1 : List Nat} (hT : TgOk g js ut (wipeG Γ vs) Γt) (hT1 : ∀ a, TgOk g1 js1 ut1 (wipeG (Γt a) vs1) (Γu a)) (hlen : (xs.flatMap ys).length ≤ lim)
    (hj : ∀ j ∈ js, j ∈ vs) (hj1 : ∀ j ∈ js1, j ∈ vs1) {σ : St} {H B : Hp} {Q : VK} (sa : Sa Γ σ H B) (q : ∀ v H' B', Stp H B H' B' → (tD (.list (xs.flatMap fun a => (ys a).map (f a)))).R v B' → Q v H') :
    tLc2 (IVr Γ ut xs) g tYes (fun σ H R => ∃ a, a ∈ xs ∧ IVr (Γt a) ut1 (ys a) σ H R) g1 tYes (fun σ H Q => ∃ a b, a ∈ xs ∧ b ∈ ys a ∧ rd (Γu a b) (tD (f a b)) σ H Q) vs vs1 σ H Q := by
  let F : α → List PyData := fun a => (ys a).map (f a)
  refine ⟨B, sa, fun J H1 B1 Gd Y s1 w hG hY hl D hD => ?_⟩
  refine ⟨fun i m Hc => m = xs.length - i ∧ i ≤ xs.length ∧ ∃ acc Bc, Stp H1 B1 Hc Bc ∧ Bc D = none ∧ Hc D = some (.lst acc) ∧ Da Bc acc ((xs.take i).flatMap F), ⟨xs.length, by simp, Nat.zero_le _, [], B1, Stp.grow s1.s (same_upd hD), s1.s.free hD, upd_same, by simpa using Da.nil⟩, ?_⟩
  rintro i m Hc ⟨rfl, hi, acc, Bc, st, hb, hd, ha⟩
  have hGd : Gd Hc := hG Hc Bc st.b st.s
  by_cases hlt : i < xs.length
  · refine .inr ⟨w.goes i Hc hlt hGd, fun Hc => ∃ acc Bc, Stp H1 B1 Hc Bc ∧ Bc D = none ∧ Hc D = some (.lst acc) ∧ Da Bc acc ((xs.take (i + 1)).flatMap F), fun H' p' => ⟨xs.length - (i + 1), by omega, rfl, hlt, p'⟩, fun x H2 y => ?_⟩
    obtain ⟨a, B3, hx, s3, rx⟩ := hY i x Hc H2 Bc st.b st.s (w.yields i Hc x H2 hlt hGd y)
    have hm : a ∈ xs := List.mem_of_getElem? hx
    have st3 := st.trans s3
    have hb3 : B3 D = none := s3.f D hb (by rw [hd]; exact fun z => nomatch z)
    have hd3 : H2 D = some (.lst acc) := s3.h _ _ hd
    have ha3 : Da B3 acc ((xs.take i).flatMap F) := ha.mono s3.b
    have htk : xs.take (i + 1) = xs.take i ++ [a] := by rw [List.take_add_one, hx]; rfl
    refine hT a x _ _ B3 _ ((sa.mono (s1.trans st3)).wipe vs) rx fun σ2 sa2 hl2 hsame2 => ⟨?_, ?_⟩
    · rw [wipe_eq hl2 fun i hi => hsame2 i fun z => hi (hj i z), wipe_wipe fun v hv => hv]
    dsimp only [tYes]
    rw [if_pos rfl]
    refine ⟨a, hm, B3, sa2, fun J1 H4 B4 Gd1 Y1 s4 w1 hG1 hY1 hl1 => ⟨fun j k Hc => k = (ys a).length - j ∧ j ≤ (ys a).length ∧ ∃ acc Bc, Stp H1 B1 Hc Bc ∧ Same B4 Bc ∧ Bc D = none ∧ Hc D = some (.lst acc) ∧ Da Bc acc ((xs.take i).flatMap F ++ ((ys a).take j).map (f a)),
      ⟨(ys a).length, by simp, Nat.zero_le _, acc, B4, st3.trans s4, .refl _, s4.f D hb3 (by rw [hd3]; exact fun z => nomatch z), s4.h _ _ hd3, by simpa using ha3.mono s4.b⟩, ?_⟩⟩
    rintro j k Hd ⟨rfl, hjl, acc1, Bd, sd, bd4, hbd, hdd, had⟩
    have hGd1 : Gd1 Hd := hG1 Hd Bd bd4 sd.s
    by_cases hlt1 : j < (ys a).length
    · refine .inr ⟨w1.goes j Hd hlt1 hGd1, fun Hc => ∃ acc Bc, Stp H1 B1 Hc Bc ∧ Same B4 Bc ∧ Bc D = none ∧ Hc D = some (.lst acc) ∧ Da Bc acc ((xs.take i).flatMap F ++ ((ys a).take (j + 1)).map (f a)), fun H' p' => ⟨(ys a).length - (j + 1), by omega, rfl, hlt1, p'⟩, fun x1 H5 y1 => ?_⟩
      obtain ⟨b, B5, hxb, s5, rb⟩ := hY1 j x1 Hd H5 Bd bd4 sd.s (w1.yields j Hd x1 H5 hlt1 hGd1 y1)
      have hmb : b ∈ ys a := List.mem_of_getElem? hxb
      refine hT1 a b x1 _ _ B5 _ ((sa2.go (s4.b.trans (bd4.trans s5.b)) s5.s).wipe vs1) rb fun σ3 sa3 hl3 hsame3 => ⟨?_, ?_⟩
      · rw [wipe_eq hl3 fun i hi => hsame3 i fun z => hi (hj1 i z), wipe_wipe fun v hv => hv]
      have hbd5 : B5 D = none := s5.f D hbd (by rw [hdd]; exact fun z => nomatch z)
      have hdd5 : H5 D = some (.lst acc1) := s5.h _ _ hdd
      have hsz : acc1.length ≤ lim := by
        rw [had.length, List.length_append, List.length_map, List.length_take]
        have e1 : (xs.flatMap ys).length = ((xs.take i).flatMap ys).length + ((ys a).length + ((xs.drop (i + 1)).flatMap ys).length) := by
          conv => lhs; rw [← List.take_append_drop i xs]
          rw [List.flatMap_append, List.length_append, List.drop_eq_getElem_cons hlt, List.flatMap_cons, List.length_append, (List.getElem?_eq_some_iff.mp hx).2]
        have e2 : ((xs.take i).flatMap F).length = ((xs.take i).flatMap ys).length := by
          rw [List.length_flatMap, List.length_flatMap]
          congr 1
          refine List.map_congr_left fun a _ => ?_
          show ((ys a).map (f a)).length = _
          rw [List.length_map]
        omega
      rw [if_pos rfl]
      refine ⟨a, b, hm, hmb, B5, sa3, fun v H7 B7 s7 r7 => ⟨acc1, s7.h _ _ hdd5, lim_lt hsz, acc1 ++ [v], B7, ?_, bd4.trans (s5.b.trans s7.b), s7.f D hbd5 (by rw [hdd5]; exact fun z => nomatch z), upd_same, ?_⟩⟩
      · have st7 := sd.trans (s5.trans s7)
        have hb7 : B7 D = none := s7.f D hbd5 (by rw [hdd5]; exact fun z => nomatch z)
        refine ⟨fun b o e => ?_, st7.b, fun b o e => ?_, st7.f⟩
        · rw [upd_ne (ne_of_none e hD)]; exact st7.h b o e
        · rw [upd_ne (ne_of_none e hb7)]; exact st7.s b o e
      · rw [List.take_add_one, hxb]
        simp only [Option.toList_some, List.map_append, List.map_cons, List.map_nil]
        rw [← List.append_assoc]
        exact (had.mono (s5.b.trans s7.b)).append (.cons r7 .nil)
    · have e : j = (ys a).length := by omega
      subst e
      refine .inl ⟨w1.stops Hd hGd1, ?_⟩
      rw [List.take_length] at had
      refine ⟨acc1, Bd, sd, hbd, hdd, ?_⟩
      rw [htk, List.flatMap_append, List.flatMap_cons, List.flatMap_nil, List.append_nil]
      exact had
  · have e : i = xs.length := by omega
    subst e
    refine .inl ⟨w.stops Hc hGd, ?_⟩
    rw [List.take_length] at ha
    have stt := s1.trans st
    refine q (.ref D) Hc (upd Bc D (.lst acc)) ⟨stt.h, stt.b.trans (same_upd hb), fun b o e => ?_, fun b h1 h2 => ?_⟩ (.lst upd_same ?_ (ha.mono (same_upd hb)))
    · by_cases hbD : b = D
      · subst hbD; rw [upd_same] at e; rw [← e]; exact hd
      · rw [upd_ne hbD] at e; exact st.s b o e
    · have : b ≠ D := fun z => h2 (z ▸ s1.h.free hD)
      rw [upd_ne this]; exact stt.f b h1 h2
    · rw [ha.length, List.length_flatMap]
      rw [List.length_flatMap] at hlen
      refine Nat.le_trans (Nat.le_of_eq ?_) hlen
      congr 1
      refine List.map_congr_left fun a _ => ?_
      show ((ys a).map (f a)).length = _
      rw [List.length_map]
theorem EV.lc2 {α β : Type} {tg iter tg1 iter1 elt : Expr} {scope : Scope} {g g1 : TG} {ut : α → Ty} {ut1 : β → Ty} {xs : List α} {ys : α → List β} {Γt : α → Gm} {Γu : α → β → Gm} {f : α → β → PyData} {js js1 : List Nat} (own : List (Str × Nat)) (vs1 : List Nat) (hi : IV X Γ tg iter ut xs)
    (hg : ∀ (s : Shared) (H : Hp) (C : Addr) (cl : List (Str × Addr)) (fp : List Addr), PG (X.blk s H scope (compEnvC scope cl C X.env) fp) tg g) (hT : TgOk g js ut (wipeG Γ (own.map (·.2))) Γt)
    (hi1 : ∀ a ∈ xs, ∀ (s : Shared) (H : Hp) (C : Addr) (cl : List (Str × Addr)) (fp : List Addr), IV (X.blk s H scope (compEnvC scope cl C X.env) fp) (Γt a) tg1 iter1 ut1 (ys a))
    (hg1 : ∀ (s : Shared) (H : Hp) (C : Addr) (cl : List (Str × Addr)) (fp : List Addr), PG (X.blk s H scope (compEnvC scope cl C X.env) fp) tg1 g1) (hT1 : ∀ a, TgOk g1 js1 ut1 (wipeG (Γt a) vs1) (Γu a))
    (he : ∀ a ∈ xs, ∀ b ∈ ys a, ∀ (s : Shared) (H : Hp) (C : Addr) (cl : List (Str × Addr)) (fp : List Addr), EV (X.blk s H scope (compEnvC scope cl C X.env) fp) (Γu a b) elt (tD (f a b)))
    (hlen : (xs.flatMap ys).length ≤ lim)
    (hN : X.N.Nodup) (ok : blkC X.N X.env.scope scope own = true := by kernel_rfl) (hc : X.calm = true := by rfl) (hv : ∀ i ∈ vs1, i ∈ own.map (·.2) := by decide) (hj : ∀ j ∈ js, j ∈ own.map (·.2) := by decide) (hj1 : ∀ j ∈ js1, j ∈ vs1 := by decide) (hs : ∀ x, foldedSetIterable iter X.env x = pure x := by intro _; rfl) (hs1 : ∀ env x, foldedSetIterable iter1 env x = pure x := by intro _ _; rfl) :
    EV X Γ (.ListComp elt [⟨tg, iter, [], 0⟩, ⟨tg1, iter1, [], 0⟩] scope pos) (tD (.list (xs.flatMap fun a => (ys a).map (f a)))) :=
  EV.of (pe_lc2 (own := own) (vs1 := vs1) hc hN hi (blkOk_by ok) hv hg (fun s H C cl fp => pts_nil) (wi1 := fun σ H R => ∃ a, a ∈ xs ∧ IVr (Γt a) ut1 (ys a) σ H R) (fun s H C cl fp => ⟨fun pins s' σ H' R I ⟨a, hm, q⟩ => (hi1 a hm s H C cl fp).run pins s' σ H' R I q⟩) hg1 (fun s H C cl fp => pts_nil)
    (te := fun σ H Q => ∃ a b, a ∈ xs ∧ b ∈ ys a ∧ rd (Γu a b) (tD (f a b)) σ H Q) (fun s H C cl fp => ⟨fun pins s' σ H' Q I ⟨a, b, ha, hb, q⟩ => (he a ha b hb s H C cl fp).run pins s' σ H' Q I q⟩) hs hs1) fun σ H B Q sa q => lc2_read hT hT1 hlen hj hj1 sa q
theorem G1.setLc2 {y : Str} {py p : Pos} {C K : Gm → Prop} {t : Ty} {α β : Type} {tg iter tg1 iter1 elt : Expr} {scope : Scope} {g g1 : TG} {ut : α → Ty} {ut1 : β → Ty} {xs : List α} {ys : α → List β} {Γt : α → Gm} {Γu : α → β → Gm} {f : α → β → PyData} {js js1 : List Nat} (i : Nat) (own : List (Str × Nat)) (vs1 : List Nat) (hi : IV X Γ tg iter ut xs)
    (hg : ∀ (s : Shared) (H : Hp) (C : Addr) (cl : List (Str × Addr)) (fp : List Addr), PG (X.blk s H scope (compEnvC scope cl C X.env) fp) tg g) (hT : TgOk g js ut (wipeG Γ (own.map (·.2))) Γt)
    (hi1 : ∀ a ∈ xs, ∀ (s : Shared) (H : Hp) (C : Addr) (cl : List (Str × Addr)) (fp : List Addr), IV (X.blk s H scope (compEnvC scope cl C X.env) fp) (Γt a) tg1 iter1 ut1 (ys a))
    (hg1 : ∀ (s : Shared) (H : Hp) (C : Addr) (cl : List (Str × Addr)) (fp : List Addr), PG (X.blk s H scope (compEnvC scope cl C X.env) fp) tg1 g1) (hT1 : ∀ a, TgOk g1 js1 ut1 (wipeG (Γt a) vs1) (Γu a))
    (he : ∀ a ∈ xs, ∀ b ∈ ys a, ∀ (s : Shared) (H : Hp) (C : Addr) (cl : List (Str × Addr)) (fp : List Addr), EV (X.blk s H scope (compEnvC scope cl C X.env) fp) (Γu a b) elt (tD (f a b)))
    (hlen : (xs.flatMap ys).length ≤ lim)
    (hN : X.N.Nodup) (hy : X.N[i]? = some y := by rfl) (hyl : X.env.scope.names.lookup y = some .local := by rfl) (hsw : swapsWith (.ListComp elt [⟨tg, iter, [], 0⟩, ⟨tg1, iter1, [], 0⟩] scope pos) (some (.Name y py)) p.line X.env = pure true := by exact sw_true rfl rfl rfl (by decide +kernel)) (ok : blkC X.N X.env.scope scope own = true := by kernel_rfl) (hc : X.calm = true := by rfl) (hv : ∀ i ∈ vs1, i ∈ own.map (·.2) := by decide) (hj : ∀ j ∈ js, j ∈ own.map (·.2) := by decide) (hj1 : ∀ j ∈ js1, j ∈ vs1 := by decide) (hs : ∀ x, foldedSetIterable iter X.env x = pure x := by intro _; rfl) (hs1 : ∀ env x, foldedSetIterable iter1 env x = pure x := by intro _ _; rfl) :
    G1 X Γ (.Assign [.Name y py] (.ListComp elt [⟨tg, iter, [], 0⟩, ⟨tg1, iter1, [], 0⟩] scope pos) p) (· = Γ.set i (some (.ty (tD (.list (xs.flatMap fun a => (ys a).map (f a))))))) C K t :=
  PS.imp (ps_setLc2 (own := own) (vs1 := vs1) hc hN hy hyl hsw hi (blkOk_by ok) hv hg (fun s H C cl fp => pts_nil) (wi1 := fun σ H R => ∃ a, a ∈ xs ∧ IVr (Γt a) ut1 (ys a) σ H R) (fun s H C cl fp => ⟨fun pins s' σ H' R I ⟨a, hm, q⟩ => (hi1 a hm s H C cl fp).run pins s' σ H' R I q⟩) hg1 (fun s H C cl fp => pts_nil)
    (te := fun σ H Q => ∃ a b, a ∈ xs ∧ b ∈ ys a ∧ rd (Γu a b) (tD (f a b)) σ H Q) (fun s H C cl fp => ⟨fun pins s' σ H' Q I ⟨a, b, ha, hb, q⟩ => (he a ha b hb s H C cl fp).run pins s' σ H' Q I q⟩) hs hs1) fun D σ H ⟨H0, B0, Bl, B, s, n, _⟩ => lc2_read hT hT1 hlen hj hj1 s.sa fun v H' B' k r => n _ _ _ B' rfl ((s.step k).set r)
end
end Rk
/-! part M8 -/
namespace Rk
/-! ### the counts along the trees -/
def onRing (R : Rows) : List Int := (rings R).flatMap id
def linesOf (R : Rows) : List (Int × Int) := srtP ((keys R).map fun k => (0 - ((pathOf R k).length : Int), k))
def loose (R : Rows) : List Int := ((byNew R).map (·.1)).filter fun n => !decide (n ∈ keys R)
def bcKeys (R : Rows) : List Int := (linesOf R).map (·.2) ++ loose R
abbrev Cnt := List (Int × (Int × Int))
def cAt (c : Cnt) (k : Int) : Int × Int := (c.lookup k).getD (0, 0)
def bcGo (R : Rows) (c : Cnt) (k : Int) (tl : Int × Int) (one : Int) : Int × Int :=
  if (!decide (one = k) && !decide (one ∈ onRing R)) = true then (tl.1 * ((cAt c one).1 + (cAt c one).2), tl.2 * (cAt c one).1) else tl
def bcVal (R : Rows) (c : Cnt) (k : Int) : Int × Int := (wantsOf R k).foldl (bcGo R c k) (if wantsOf R k = [] then 0 else 1, 1)
def bcStep (R : Rows) (c : Cnt) (k : Int) : Cnt := c ++ [(k, bcVal R c k)]
def counts (R : Rows) : Cnt := (bcKeys R).foldl (bcStep R) []
def countsTo (R : Rows) (i : Nat) : Cnt := ((bcKeys R).take i).foldl (bcStep R) []
theorem mem_onRing {R : Rows} {k : Int} : k ∈ onRing R ↔ ∃ r, Rg R r ∧ k ∈ r := by
  unfold onRing
  rw [List.mem_flatMap]
  exact ⟨fun ⟨r, h1, h2⟩ => ⟨r, mem_rings.mp h1, h2⟩, fun ⟨r, h1, h2⟩ => ⟨r, mem_rings.mpr h1, h2⟩⟩
theorem lines_perm (R : Rows) : ((linesOf R).map (·.2)).Perm (keys R) := by
  have h := (srtP_perm ((keys R).map fun k => (0 - ((pathOf R k).length : Int), k))).map (·.2)
  rw [List.map_map] at h
  have e : (keys R).map ((fun x : Int × Int => x.2) ∘ fun k => (0 - ((pathOf R k).length : Int), k)) = keys R := by
    conv => rhs; rw [← List.map_id (keys R)]
    rfl
  rw [e] at h
  exact h
theorem mem_loose {R : Rows} {n : Int} : n ∈ loose R ↔ n ∈ R.map (·.2) ∧ n ∉ keys R := by
  unfold loose
  rw [List.mem_filter, mem_byNew]
  simp
theorem bc_nodup {R : Rows} (w : WF R) : (bcKeys R).Nodup := by
  refine List.nodup_append.mpr ⟨(lines_perm R).nodup_iff.mpr w.nodup, (byNew_nodup R).filter _, fun a ha b hb e => ?_⟩
  exact (mem_loose.mp hb).2 (e ▸ (lines_perm R).mem_iff.mp ha)
theorem bc_len {R : Rows} (w : WF R) : (bcKeys R).length ≤ 80 := by
  unfold bcKeys
  rw [List.length_append, (lines_perm R).length_eq, keys_len]
  have h1 : (loose R).length ≤ (byNew R).length := by
    unfold loose
    refine Nat.le_trans (List.length_filter_le _ _) (by rw [List.length_map]; exact Nat.le_refl _)
  have := byNew_len R
  have := w.len
  omega
theorem mem_bc {R : Rows} {k : Int} : k ∈ bcKeys R ↔ k ∈ keys R ∨ k ∈ R.map (·.2) := by
  unfold bcKeys
  rw [List.mem_append, (lines_perm R).mem_iff, mem_loose]
  by_cases h : k ∈ keys R
  · simp [h]
  · simp [h]
theorem mem_wantsOf {R : Rows} {k one : Int} : one ∈ wantsOf R k ↔ (one, k) ∈ R := by
  unfold wantsOf
  rw [List.mem_map]
  constructor
  · rintro ⟨r, h, rfl⟩
    obtain ⟨h1, h2⟩ := List.mem_filter.mp h
    have : r.2 = k := by simpa using h2
    rw [← this]; exact h1
  · intro h
    exact ⟨(one, k), List.mem_filter.mpr ⟨h, by simp⟩, rfl⟩
/-- those that a key's counts rest on stand before it -/
theorem bc_before {R : Rows} (w : WF R) {i : Nat} {k one : Int} (hk : (bcKeys R)[i]? = some k) (h1 : one ∈ wantsOf R k) (hne : one ≠ k) (off : one ∉ onRing R) : one ∈ (bcKeys R).take i := by
  have hm := mem_wantsOf.mp h1
  have ho : one ∈ keys R := mem_keys.mpr ⟨k, hm⟩
  have hnw : nw R one = k := nw_of_mem w hm
  have hol : one ∈ (linesOf R).map (·.2) := (lines_perm R).mem_iff.mpr ho
  by_cases hkk : k ∈ keys R
  · have hw : waited R one = some k := by
      unfold waited
      rw [hnw, if_pos ⟨fun z => hne z.symm, hkk⟩]
    have hp := path_step ho hw fun r hr z => off (mem_onRing.mpr ⟨r, hr, z⟩)
    obtain ⟨j, hj, ej⟩ := List.getElem_of_mem hol
    have hil : i < ((linesOf R).map (·.2)).length := by
      rcases Nat.lt_or_ge i ((linesOf R).map (·.2)).length with h | h
      · exact h
      · unfold bcKeys at hk
        rw [List.getElem?_append_right h] at hk
        exact absurd hkk (mem_loose.mp (List.mem_of_getElem? hk)).2
    have hki : ((linesOf R).map (·.2))[i] = k := by
      unfold bcKeys at hk
      rw [List.getElem?_append_left hil, List.getElem?_eq_getElem hil] at hk
      exact Option.some.inj hk
    have lineAt : ∀ (m : Nat) (hm : m < ((linesOf R).map (·.2)).length), ∃ hm' : m < (linesOf R).length, (linesOf R)[m] = (0 - ((pathOf R ((linesOf R).map (·.2))[m]).length : Int), ((linesOf R).map (·.2))[m]) := fun m hm => by
      have hm' : m < (linesOf R).length := by simpa using hm
      refine ⟨hm', ?_⟩
      have : (linesOf R)[m] ∈ linesOf R := List.getElem_mem hm'
      have h2 := (srtP_perm _).mem_iff.mp this
      obtain ⟨x, _, ex⟩ := List.mem_map.mp h2
      rw [List.getElem_map, ← ex]
    have hji : j < i := by
      rcases Nat.lt_trichotomy j i with h | h | h
      · exact h
      · subst h; exact absurd (ej.symm.trans hki) hne
      · obtain ⟨hi', ei⟩ := lineAt i hil
        obtain ⟨hj', ejj⟩ := lineAt j hj
        have hs := List.pairwise_iff_getElem.mp (srtP_le ((keys R).map fun k => (0 - ((pathOf R k).length : Int), k))) i j hi' hj' h
        have hs : leP (linesOf R)[i] (linesOf R)[j] = true := hs
        rw [ei, ejj, ej, hki, hp] at hs
        simp only [leP, decide_eq_true_eq, List.length_cons] at hs
        omega
    refine List.mem_take_iff_getElem.mpr ⟨j, by
      unfold bcKeys
      rw [List.length_append]
      omega, ?_⟩
    unfold bcKeys
    rw [List.getElem_append_left hj]; exact ej
  · have hil : ((linesOf R).map (·.2)).length ≤ i := by
      rcases Nat.lt_or_ge i ((linesOf R).map (·.2)).length with h | h
      · unfold bcKeys at hk
        rw [List.getElem?_append_left h] at hk
        exact absurd ((lines_perm R).mem_iff.mp (List.mem_of_getElem? hk)) hkk
      · exact h
    unfold bcKeys
    rw [List.take_append]
    exact List.mem_append_left _ (by rw [List.take_of_length_le hil]; exact hol)
theorem countsTo_succ {R : Rows} {i : Nat} {k : Int} (h : (bcKeys R)[i]? = some k) : countsTo R (i + 1) = bcStep R (countsTo R i) k := by
  unfold countsTo
  rw [List.take_add_one, h, List.foldl_append]; rfl
theorem fold_keys (R : Rows) : ∀ (l : List Int) (c : Cnt), (l.foldl (bcStep R) c).map (·.1) = c.map (·.1) ++ l
  | [], c => by simp
  | k :: l, c => by
    rw [List.foldl_cons, fold_keys R l]
    unfold bcStep
    simp
theorem countsTo_keys (R : Rows) (i : Nat) : (countsTo R i).map (·.1) = (bcKeys R).take i := by
  unfold countsTo
  rw [fold_keys]; rfl
theorem countsTo_all (R : Rows) : countsTo R (bcKeys R).length = counts R := by
  unfold countsTo counts
  rw [List.take_length]
end Rk
/-! part M9 -/
namespace Rk
/-! ### the counts are not large -/
def sumE (e : Int → Nat) (l : List Int) : Nat := (l.map e).sum
theorem sumE_cons (e : Int → Nat) (a : Int) (l : List Int) : sumE e (a :: l) = e a + sumE e l := rfl
theorem sumE_app (e : Int → Nat) (l m : List Int) : sumE e (l ++ m) = sumE e l + sumE e m := by
  unfold sumE; rw [List.map_append, List.sum_append]
theorem sumE_erase (e : Int → Nat) {a : Int} : ∀ {l : List Int}, a ∈ l → sumE e l = e a + sumE e (l.erase a)
  | b :: l, h => by
    by_cases hb : b = a
    · subst hb; rw [List.erase_cons_head]; rfl
    · rw [List.erase_cons_tail (by simpa using hb), sumE_cons, sumE_cons, sumE_erase e ((List.mem_cons.mp h).resolve_left fun z => hb z.symm)]
      omega
theorem sumE_sub (e : Int → Nat) : ∀ {l m : List Int}, l.Nodup → (∀ a ∈ l, a ∈ m) → sumE e l ≤ sumE e m
  | [], _, _, _ => Nat.zero_le _
  | a :: l, m, h, hs => by
    rw [sumE_cons, sumE_erase e (hs a List.mem_cons_self)]
    have := sumE_sub e (l := l) (m := m.erase a) (List.nodup_cons.mp h).2 fun b hb => (List.mem_erase_of_ne (show b ≠ a from fun z => (List.nodup_cons.mp h).1 (z ▸ hb))).mpr (hs b (List.mem_cons_of_mem _ hb))
    omega
theorem sumE_split (e : Int → Nat) (p : Int → Bool) : ∀ l : List Int, sumE e l = sumE e (l.filter p) + sumE e (l.filter fun x => !p x)
  | [] => rfl
  | a :: l => by
    rw [sumE_cons, sumE_split e p l, List.filter_cons, List.filter_cons]
    cases p a
    · simp only [Bool.not_false, if_true, Bool.false_eq_true, if_false, sumE_cons]; omega
    · simp only [Bool.not_true, if_true, Bool.false_eq_true, if_false, sumE_cons]; omega
theorem sumE_congr {e f : Int → Nat} {l : List Int} (h : ∀ a ∈ l, e a = f a) : sumE e l = sumE f l := by
  unfold sumE; rw [List.map_congr_left h]
/-- what is known of the counts c of the keys P -/
structure Bnd (R : Rows) (P : List Int) (c : Cnt) (n : Nat) (e : Int → Nat) : Prop where
  v : ∀ x, 0 ≤ (cAt c x).1 ∧ 0 ≤ (cAt c x).2
  b : ∀ x ∈ P, (cAt c x).1 + (cAt c x).2 ≤ 2 ^ e x
  s : sumE e (P.filter fun x => !decide (nw R x ∈ P)) ≤ n
  m : ∀ x ∈ P, e x ≤ n
def bcPart (R : Rows) (c : Cnt) (k : Int) (j : Nat) : Int × Int := ((wantsOf R k).take j).foldl (bcGo R c k) (if wantsOf R k = [] then 0 else 1, 1)
def kids (R : Rows) (k : Int) : List Int := (wantsOf R k).filter fun one => !decide (one = k) && !decide (one ∈ onRing R)
theorem pow_two_mul (a b : Nat) : (2 : Int) ^ (a + b) = 2 ^ a * 2 ^ b := Int.pow_add 2 a b
theorem one_le_two_pow (a : Nat) : (1 : Int) ≤ 2 ^ a := by
  have : (0 : Int) < 2 ^ a := Int.pow_pos (by decide)
  omega
theorem fold_bnd {R : Rows} {c : Cnt} {k : Int} {e : Int → Nat} (hv : ∀ x, 0 ≤ (cAt c x).1 ∧ 0 ≤ (cAt c x).2) : ∀ (l : List Int) (tl : Int × Int) (n : Nat), (∀ x ∈ l, x ≠ k → x ∉ onRing R → (cAt c x).1 + (cAt c x).2 ≤ 2 ^ e x) →
    0 ≤ tl.1 → tl.1 ≤ 2 ^ n → 0 ≤ tl.2 → tl.2 ≤ 2 ^ n → 0 ≤ (l.foldl (bcGo R c k) tl).1 ∧ (l.foldl (bcGo R c k) tl).1 ≤ 2 ^ (n + sumE e (l.filter fun one => !decide (one = k) && !decide (one ∈ onRing R))) ∧ 0 ≤ (l.foldl (bcGo R c k) tl).2 ∧ (l.foldl (bcGo R c k) tl).2 ≤ 2 ^ (n + sumE e (l.filter fun one => !decide (one = k) && !decide (one ∈ onRing R)))
  | [], tl, n, _, h1, h2, h3, h4 => ⟨h1, h2, h3, h4⟩
  | x :: l, tl, n, hb, h1, h2, h3, h4 => by
    rw [List.foldl_cons, List.filter_cons]
    by_cases hc : (!decide (x = k) && !decide (x ∈ onRing R)) = true
    · rw [if_pos hc, sumE_cons]
      have hc2 : x ≠ k ∧ x ∉ onRing R := by simpa using hc
      have hx := hb x List.mem_cons_self hc2.1 hc2.2
      obtain ⟨v1, v2⟩ := hv x
      have e1 : bcGo R c k tl x = (tl.1 * ((cAt c x).1 + (cAt c x).2), tl.2 * (cAt c x).1) := by unfold bcGo; rw [if_pos hc]
      rw [e1, ← Nat.add_assoc]
      refine fold_bnd hv l _ (n + e x) (fun y hy => hb y (List.mem_cons_of_mem _ hy)) (Int.mul_nonneg h1 (by omega)) ?_ (Int.mul_nonneg h3 v1) ?_
      · rw [pow_two_mul]
        exact Int.mul_le_mul h2 hx (by omega) (Int.le_of_lt (Int.pow_pos (by decide)))
      · rw [pow_two_mul]
        exact Int.mul_le_mul h4 (by omega) v1 (Int.le_of_lt (Int.pow_pos (by decide)))
    · have e1 : bcGo R c k tl x = tl := by unfold bcGo; rw [if_neg hc]
      rw [if_neg hc, e1]
      exact fold_bnd hv l tl n (fun y hy => hb y (List.mem_cons_of_mem _ hy)) h1 h2 h3 h4
theorem wantsOf_nodup {R : Rows} (w : WF R) (k : Int) : (wantsOf R k).Nodup := by
  unfold wantsOf
  exact (List.Sublist.map _ List.filter_sublist).nodup w.nodup
theorem Bnd.kid {R : Rows} {P : List Int} {c : Cnt} {n : Nat} {e : Int → Nat} {k : Int} (h : Bnd R P c n e) (w : WF R) (hk : k ∉ P) (hb : ∀ one ∈ wantsOf R k, one ≠ k → one ∉ onRing R → one ∈ P) : sumE e (kids R k) ≤ sumE e ((P.filter fun x => !decide (nw R x ∈ P)).filter fun x => decide (nw R x = k)) := by
  refine sumE_sub e ((wantsOf_nodup w k).filter _) fun a ha => ?_
  obtain ⟨h1, h2⟩ := List.mem_filter.mp ha
  have h2 : a ≠ k ∧ a ∉ onRing R := by simpa using h2
  have hn : nw R a = k := nw_of_mem w (mem_wantsOf.mp h1)
  refine List.mem_filter.mpr ⟨List.mem_filter.mpr ⟨hb a h1 h2.1 h2.2, ?_⟩, by simp [hn]⟩
  rw [hn]; simp [hk]
theorem Bnd.part {R : Rows} {P : List Int} {c : Cnt} {n : Nat} {e : Int → Nat} {k : Int} (h : Bnd R P c n e) (w : WF R) (hk : k ∉ P) (hb : ∀ one ∈ wantsOf R k, one ≠ k → one ∉ onRing R → one ∈ P) (j : Nat) :
    0 ≤ (bcPart R c k j).1 ∧ (bcPart R c k j).1 ≤ 2 ^ sumE e (kids R k) ∧ 0 ≤ (bcPart R c k j).2 ∧ (bcPart R c k j).2 ≤ 2 ^ sumE e (kids R k) := by
  have h0 := fold_bnd (R := R) (k := k) (e := e) h.v ((wantsOf R k).take j) (if wantsOf R k = [] then 0 else 1, 1) 0 (fun x hx h1 h2 => h.b x (hb x (List.mem_of_mem_take hx) h1 h2)) (by split <;> simp) (by split <;> simp) (by simp) (by simp)
  rw [Nat.zero_add] at h0
  have hle : sumE e (((wantsOf R k).take j).filter fun one => !decide (one = k) && !decide (one ∈ onRing R)) ≤ sumE e (Rk.kids R k) := by
    refine sumE_sub e (((List.take_sublist _ _).nodup (wantsOf_nodup w k)).filter _) fun a ha => ?_
    obtain ⟨h1, h2⟩ := List.mem_filter.mp ha
    exact List.mem_filter.mpr ⟨List.mem_of_mem_take h1, h2⟩
  have hp : (2 : Int) ^ sumE e (((wantsOf R k).take j).filter fun one => !decide (one = k) && !decide (one ∈ onRing R)) ≤ 2 ^ sumE e (Rk.kids R k) := by
    obtain ⟨d, hd⟩ := Nat.le.dest hle
    rw [← hd, pow_two_mul]
    have a1 := one_le_two_pow d
    have a2 : (0 : Int) ≤ 2 ^ sumE e (((wantsOf R k).take j).filter fun one => !decide (one = k) && !decide (one ∈ onRing R)) := Int.le_of_lt (Int.pow_pos (by decide))
    have := Int.mul_le_mul_of_nonneg_left a1 a2
    rw [Int.mul_one] at this
    exact this
  exact ⟨h0.1, Int.le_trans h0.2.1 hp, h0.2.2.1, Int.le_trans h0.2.2.2 hp⟩
theorem cAt_snoc {c : Cnt} {k x : Int} {v : Int × Int} (hk : k ∉ c.map (·.1)) : cAt (c ++ [(k, v)]) x = if x = k then v else cAt c x := by
  unfold cAt
  induction c with
  | nil =>
    rw [List.nil_append, List.lookup_cons]
    by_cases h : x = k
    · subst h; simp
    · have : (x == k) = false := by simpa using h
      rw [this, if_neg h]
  | cons r c ih =>
    simp only [List.map_cons, List.mem_cons, not_or] at hk
    rw [List.cons_append, List.lookup_cons, List.lookup_cons]
    by_cases h : x = r.1
    · subst h
      have : ¬ r.1 = k := fun z => hk.1 z.symm
      simp [this]
    · have : (x == r.1) = false := by simpa using h
      rw [this]
      exact ih hk.2
theorem bnd_step {R : Rows} (w : WF R) {i : Nat} {k : Int} (hk : (bcKeys R)[i]? = some k) {e : Int → Nat} (h : Bnd R ((bcKeys R).take i) (countsTo R i) i e) : ∃ e', Bnd R ((bcKeys R).take (i + 1)) (countsTo R (i + 1)) (i + 1) e' := by
  have htk : (bcKeys R).take (i + 1) = (bcKeys R).take i ++ [k] := by rw [List.take_add_one, hk]; rfl
  have hkn : k ∉ (bcKeys R).take i := fun z => by
    have hn := bc_nodup w
    rw [← List.take_append_drop (i + 1) (bcKeys R), htk] at hn
    exact (List.nodup_append.mp (List.nodup_append.mp hn).1).2.2 k z k (by simp) rfl
  have hb : ∀ one ∈ wantsOf R k, one ≠ k → one ∉ onRing R → one ∈ (bcKeys R).take i := fun one h1 h2 h3 => bc_before w hk h1 h2 h3
  have hkc : k ∉ (countsTo R i).map (·.1) := by rw [countsTo_keys]; exact hkn
  have hpart := h.part w hkn hb (wantsOf R k).length
  have hkid := h.kid w hkn hb
  have hval : bcPart R (countsTo R i) k (wantsOf R k).length = bcVal R (countsTo R i) k := by unfold bcPart bcVal; rw [List.take_length]
  rw [hval] at hpart
  have hcs : countsTo R (i + 1) = countsTo R i ++ [(k, bcVal R (countsTo R i) k)] := countsTo_succ hk
  let e' : Int → Nat := fun x => if x = k then 1 + sumE e (kids R k) else e x
  have hek : e' k = 1 + sumE e (kids R k) := if_pos rfl
  have hex : ∀ x ∈ (bcKeys R).take i, e' x = e x := fun x hx => (if_neg (show ¬ x = k from fun z => hkn (z ▸ hx)))
  have hsum : sumE e (kids R k) ≤ i := by
    have h1 := sumE_split e (fun x => decide (nw R x = k)) (((bcKeys R).take i).filter fun x => !decide (nw R x ∈ (bcKeys R).take i))
    have h2 := h.s
    omega
  refine ⟨e', fun x => ?_, fun x hx => ?_, ?_, fun x hx => ?_⟩
  · rw [hcs, cAt_snoc hkc]
    split
    · exact ⟨hpart.1, hpart.2.2.1⟩
    · exact h.v x
  · rw [hcs, cAt_snoc hkc]
    rw [htk] at hx
    by_cases hxk : x = k
    · subst hxk
      rw [if_pos rfl, hek, pow_two_mul]
      have := hpart.2.1
      have := hpart.2.2.2
      omega
    · rw [if_neg hxk]
      have hx' : x ∈ (bcKeys R).take i := (List.mem_append.mp hx).resolve_right fun z => hxk (by simpa using z)
      rw [hex x hx']
      exact h.b x hx'
  · rw [htk, List.filter_append, sumE_app]
    have h1 : sumE e' (((bcKeys R).take i).filter fun x => !decide (nw R x ∈ (bcKeys R).take i ++ [k])) ≤ sumE e ((((bcKeys R).take i).filter fun x => !decide (nw R x ∈ (bcKeys R).take i)).filter fun x => !decide (nw R x = k)) := by
      rw [sumE_congr (f := e) fun a ha => hex a (List.mem_filter.mp ha).1]
      rw [List.filter_filter]
      refine Nat.le_of_eq (congrArg (sumE e) (List.filter_congr fun x _ => ?_))
      by_cases c1 : nw R x ∈ (bcKeys R).take i <;> by_cases c2 : nw R x = k <;> simp [c1, c2]
    have h2 : sumE e' ([k].filter fun x => !decide (nw R x ∈ (bcKeys R).take i ++ [k])) ≤ 1 + sumE e (kids R k) := by
      rw [List.filter_cons, List.filter_nil]
      split
      · rw [sumE_cons, hek]; exact Nat.le_refl _
      · exact Nat.zero_le _
    have h3 := sumE_split e (fun x => decide (nw R x = k)) (((bcKeys R).take i).filter fun x => !decide (nw R x ∈ (bcKeys R).take i))
    have h4 := h.s
    omega
  · rw [htk] at hx
    rcases List.mem_append.mp hx with hx | hx
    · rw [hex x hx]; exact Nat.le_succ_of_le (h.m x hx)
    · rw [List.mem_singleton.mp hx, hek]; omega
theorem bnd_all {R : Rows} (w : WF R) : ∀ i, i ≤ (bcKeys R).length → ∃ e, Bnd R ((bcKeys R).take i) (countsTo R i) i e
  | 0, _ => ⟨fun _ => 0, fun x => ⟨Int.le_refl _, Int.le_refl _⟩, fun x hx => by simp at hx, by simp [sumE], fun x hx => by simp at hx⟩
  | i + 1, h => by
    obtain ⟨e, he⟩ := bnd_all w i (by omega)
    exact bnd_step w (List.getElem?_eq_getElem (by omega)) he
theorem pow_mono {a b : Nat} (h : a ≤ b) : (2 : Int) ^ a ≤ 2 ^ b := by
  obtain ⟨d, hd⟩ := Nat.le.dest h
  rw [← hd, pow_two_mul]
  have a1 := one_le_two_pow d
  have a2 : (0 : Int) ≤ 2 ^ a := Int.le_of_lt (Int.pow_pos (by decide))
  have := Int.mul_le_mul_of_nonneg_left a1 a2
  rw [Int.mul_one] at this
  exact this
/-- what the walk asks -/
theorem cnt_small {R : Rows} (w : WF R) {i : Nat} (h : i ≤ (bcKeys R).length) (x : Int) : 0 ≤ (cAt (countsTo R i) x).1 ∧ 0 ≤ (cAt (countsTo R i) x).2 ∧ (cAt (countsTo R i) x).1 + (cAt (countsTo R i) x).2 ≤ 2 ^ 80 := by
  obtain ⟨e, he⟩ := bnd_all w i h
  refine ⟨(he.v x).1, (he.v x).2, ?_⟩
  by_cases hx : x ∈ (bcKeys R).take i
  · have := bc_len w
    exact Int.le_trans (he.b x hx) (pow_mono (Nat.le_trans (he.m x hx) (by omega)))
  · have : cAt (countsTo R i) x = (0, 0) := by
      unfold cAt
      have hn : (countsTo R i).lookup x = none := by
        rw [← countsTo_keys] at hx
        have : ∀ c : Cnt, x ∉ c.map (·.1) → c.lookup x = none := fun c => by
          induction c with
          | nil => intro _; rfl
          | cons r c ih =>
            intro h
            simp only [List.map_cons, List.mem_cons, not_or] at h
            rw [List.lookup_cons]
            have : (x == r.1) = false := by simpa using h.1
            rw [this]; exact ih h.2
        exact this _ hx
      rw [hn]; rfl
    rw [this]; decide
theorem part_small {R : Rows} (w : WF R) {i : Nat} {k : Int} (hk : (bcKeys R)[i]? = some k) (j : Nat) : 0 ≤ (bcPart R (countsTo R i) k j).1 ∧ (bcPart R (countsTo R i) k j).1 ≤ 2 ^ 80 ∧ 0 ≤ (bcPart R (countsTo R i) k j).2 ∧ (bcPart R (countsTo R i) k j).2 ≤ 2 ^ 80 := by
  have hi : i < (bcKeys R).length := (List.getElem?_eq_some_iff.mp hk).1
  obtain ⟨e, he⟩ := bnd_all w i (Nat.le_of_lt hi)
  have hkn : k ∉ (bcKeys R).take i := fun z => by
    have hn := bc_nodup w
    have htk : (bcKeys R).take (i + 1) = (bcKeys R).take i ++ [k] := by rw [List.take_add_one, hk]; rfl
    rw [← List.take_append_drop (i + 1) (bcKeys R), htk] at hn
    exact (List.nodup_append.mp (List.nodup_append.mp hn).1).2.2 k z k (by simp) rfl
  have hb : ∀ one ∈ wantsOf R k, one ≠ k → one ∉ onRing R → one ∈ (bcKeys R).take i := fun one h1 h2 h3 => bc_before w hk h1 h2 h3
  have hp := he.part w hkn hb j
  have h1 := sumE_split e (fun x => decide (nw R x = k)) (((bcKeys R).take i).filter fun x => !decide (nw R x ∈ (bcKeys R).take i))
  have h2 := he.s
  have h3 := he.kid w hkn hb
  have := bc_len w
  have hle : (2 : Int) ^ sumE e (kids R k) ≤ 2 ^ 80 := pow_mono (by omega)
  exact ⟨hp.1, Int.le_trans hp.2.1 hle, hp.2.2.1, Int.le_trans hp.2.2.2 hle⟩
end Rk
/-! part D10 -/
namespace Rk
open PySem PySem.Spec L2
abbrev dC (v : Int × Int) : PyData := .tuple [.int v.1, .int v.2]
abbrev encC (c : Cnt) : List (Int × PyData) := c.map fun p => (p.1, dC p.2)
theorem look_map {α β : Type} (f : α → β) (k : Int) : ∀ l : List (Int × α), (l.map fun p => (p.1, f p.2)).lookup k = (l.lookup k).map f
  | [] => rfl
  | r :: l => by
    rw [List.map_cons, List.lookup_cons, List.lookup_cons, look_map f k l]
    cases k == r.1 <;> rfl
theorem look_mem {c : Cnt} {k : Int} (h : k ∈ c.map (·.1)) : c.lookup k = some (cAt c k) := by
  unfold cAt
  cases e : c.lookup k with
  | some v => rfl
  | none =>
    exfalso
    induction c with
    | nil => cases h
    | cons r c ih =>
      rw [List.lookup_cons] at e
      by_cases hk : k = r.1
      · subst hk; simp at e
      · have : (k == r.1) = false := by simpa using hk
        rw [this] at e
        exact ih ((List.mem_cons.mp h).resolve_left hk) e
theorem putA_enc {c : Cnt} {k : Int} {v : Int × Int} (h : k ∉ c.map (·.1)) : putA (encC c) k (dC v) = encC (c ++ [(k, v)]) := by
  unfold putA encC
  rw [if_neg]
  · rw [List.map_append]; rfl
  · intro z
    obtain ⟨p, hp, hq⟩ := List.any_eq_true.mp z
    obtain ⟨q, hq', rfl⟩ := List.mem_map.mp hp
    have : q.1 = k := by simpa using hq
    exact h (List.mem_map.mpr ⟨q, hq', this⟩)
theorem dBy_getD (R : Rows) (k : Int) : ((dBy R).lookup k).getD (dI []) = dI (wantsOf R k) := by
  unfold dBy
  rw [look_map (fun x : List Int => dI x), byNew_lookup]
  split
  · rename_i h; rw [h]; rfl
  · rfl
theorem dBy_some (R : Rows) (k : Int) : ((dBy R).lookup k).isSome = !decide (wantsOf R k = []) := by
  unfold dBy
  rw [look_map (fun x : List Int => dI x), byNew_lookup]
  split
  · rename_i h; simp [h]
  · rename_i h; simp [h]
theorem mul_small {a b : Int} (h1 : 0 ≤ a) (h2 : a ≤ 2 ^ 80) (h3 : 0 ≤ b) (h4 : b ≤ 2 ^ 80) : CMulW a b := by
  refine wide_mul (a := 81) (b := 81) ?_ ?_ (by decide) (by decide) (by decide)
  · omega
  · omega
section
variable {P : Program} {w : World} {K : PySem.W.Frag} {mg : Str → Option Value} {base : Heap} {X : Cx} {Γ : Gm} {e i o : Expr}
theorem lock_by {σ : St} {H B : Hp} {n : Nat} {Γ' : Gm} {C : Addr} {R : Rows} {l : List (Int × PyData)} (sa : Sa Γ' σ H B) (h0 : Γ'[0]? = some (some (.ty (tTab C R)))) (h1 : Γ'[1]? = some (some (.ty (tDo l)))) (hn : Γ'.length = n + 2) :
    ∃ u : Unit, True ∧ ∃ d kv, B d = some (.dK kv) ∧ ∀ od, Sa (some (.ty (tTabR C R)) :: some (.ty (tFz l)) :: List.replicate n none) σ (upd H d (.frz od (.dK kv))) (upd B d (.frz od (.dK kv))) := by
  obtain ⟨v, h2, w, a, dx, dw, l', rfl, h3, h4, h5⟩ := sa.ty 0 _ h0
  obtain ⟨v2, h6, d, kv, rfl, h7, h8, h9, h10⟩ := sa.ty 1 _ h1
  refine ⟨(), trivial, d, kv, h7, fun od => ⟨by rw [sa.ln, hn]; simp, fun b o e => ?_, fun i t e => ?_⟩⟩
  · by_cases hb : b = d
    · subst hb; rw [upd_same] at e ⊢; exact e
    · rw [upd_ne hb] at e ⊢; exact sa.sm _ _ e
  · match i, e with
    | 0, e =>
      simp only [List.getElem?_cons_zero, Option.some.injEq, Sl.ty.injEq] at e
      subst e
      have ne : a ≠ d := ne_of h3 h7 fun z => nomatch z
      refine ⟨_, h2, w, a, dx, dw, l', rfl, by rw [upd_ne ne]; exact h3, ?_, h5⟩
      by_cases hd : dw = d
      · subst hd
        rw [h4] at h7; cases h7
        exact .inr ⟨od, upd_same⟩
      · exact .inl (by rw [upd_ne hd]; exact h4)
    | 1, e =>
      simp only [List.getElem?_cons_succ, List.getElem?_cons_zero, Option.some.injEq, Sl.ty.injEq] at e
      subst e
      refine ⟨_, h6, d, od, kv, rfl, upd_same, h8, h9, ?_⟩
      exact Da.unl (B := B) h7 (fun _ z => nomatch z) (fun _ z => nomatch z) h10
    | i + 2, e =>
      rw [List.getElem?_cons_succ, List.getElem?_cons_succ, List.getElem?_replicate] at e
      split at e <;> cases e
theorem sc_branch_counts : FnScope ["table", "wants", "counts", "on_ring", "lines", "key", "taken", "left", "one", "ring", "many", "new"] ["table"] (defScope s_branch_counts) := ⟨rfl, rfl, rfl, by decide +kernel, rfl, by decide +kernel, by decide +kernel⟩
theorem onRing_len {R : Rows} (wf : WF R) : ((rings R).flatMap fun r : List Int => r).length ≤ lim := by
  rw [List.length_flatMap]
  have h1 := rings_len R
  have : ∀ l : List (List Int), (∀ r ∈ l, r.length ≤ 40) → (l.map fun a : List Int => a.length).sum ≤ 40 * l.length := fun l => by
    induction l with
    | nil => intro _; exact Nat.le_refl _
    | cons r l ih =>
      intro h
      have := ih fun r hr => h r (List.mem_cons_of_mem _ hr)
      have := h r List.mem_cons_self
      rw [List.map_cons, List.sum_cons, List.length_cons]; omega
  have h2 := this (rings R) fun r hr => by
    obtain ⟨h, hh, rfl, _⟩ := (mem_rings.mp hr).head
    exact Nat.le_trans (path_len hh) wf.len
  have := wf.len
  show _ ≤ 100000
  omega
theorem ok_branch_counts (T : Txt K mg) : DefT P w K mg base "branch_counts" 9 (A := Rows) (fun a => [tT K a]) (fun a => WF a) (fun a => tDo (encC (counts a))) := by
  refine DefT.top T 24 40 sc_branch_counts (fun _ _ _ _ _ _ us hl => match us, hl with | [_], _ => rfl) (fun _ => rfl) fun f cdv Ar outer s H E R wf hr => ?_
  refine GS.seq (G1.parTD 1 2 (EV.call (ok_by_new T) R wf (hr.mono (by decide)) (EA.one (EV.var 0))) sc_branch_counts.nd) ?_
  refine GS.seq (G1.setLc2 3 (xs := rings R) (ys := fun r : List Int => r) (f := fun _ k => .int k) [("ring", 9), ("key", 5)] [5] (IV.list (c := fun r : List Int => dT r) (EV.call (ok_rings_of T) R wf hr (EA.one (EV.var 0)))) (fun s H C cl fp => pg_name (i := 9) sc_branch_counts.nd rfl (Or.inl rfl)) (TgOk.name 9)
    (fun r _ s H C cl fp => IV.tup (c := fun k : Int => .int k) (EV.var 9 (t := tD (dT r)))) (fun s H C cl fp => pg_name (i := 5) sc_branch_counts.nd rfl (Or.inl rfl)) (fun r => TgOk.name 5) (fun r _ k _ s H C cl fp => EV.var 5) (onRing_len wf) sc_branch_counts.nd) ?_
  refine GS.seq (G1.set 4 (u := tD (dR (linesOf R))) (EV.callB (T.free 9) (c_sortedP (l := (keys R).map fun k => (0 - ((pathOf R k).length : Int), k))) (EA.one (EV.cast (EV.lc (pd := fun _ => true) (f := fun k : Int => dP (0 - ((pathOf R k).length : Int), k)) [("key", 5)] (IV.list (c := fun k : Int => .int k) (EV.call (ok_keys_of T) R wf (hr.mono (by decide)) (EA.one (EV.var 0)))) (fun s H C cl fp => pg_name (i := 5) sc_branch_counts.nd rfl (Or.inl rfl)) (TgOk.name 5) (fun k _ s H C cl fp => CTs.nil)
    (fun k hk _ s H C cl fp => EV.tup (ds := [.int (0 - ((pathOf R k).length : Int)), .int k]) (EA.cons (EV.bin EV.int (EV.cast (EV.callB (T.free 5) c_lenL (EA.one (EV.call (ok_path_of T) (R, k) ⟨wf, hk⟩ (hr.mono (by decide)) (EA.cons (EV.var 0) (EA.one (EV.var 5 (t := tI k))))))) (by rw [List.length_map])) o_sub) (EA.one (EV.var 5 (t := tI k))))) sc_branch_counts.nd) ?_))) sc_branch_counts.nd) ?_
  · rw [filter_yes, dR, List.map_map]; rfl
  let Iv : Nat → Gm → Prop := fun i Γ => ∃ a b c d, Γ = [some (.ty (tT K R)), some (.ty (tDo (dBy R))), some (.own (oD (encC (countsTo R i)))), some (.ty (tD (dI (onRing R)))), some (.ty (tD (dR (linesOf R)))), a, b, c, d, none, none, none]
  have hflat : (rings R).flatMap (fun a => List.map (fun k => PyData.int k) a) = (onRing R).map .int := by
    unfold onRing
    rw [List.map_flatMap]; rfl
  refine GS.cons (N1 := Iv (bcKeys R).length) (G1.forN 5 Iv (IV.list (c := fun k : Int => .int k) (xs := bcKeys R) (EV.cast (EV.bin (tc := tD (.list (((linesOf R).map (·.2)).map .int ++ (loose R).map .int))) (EV.cast (EV.lc (pd := fun _ => true) (f := fun r : Int × Int => .int r.2) [("many", 10), ("key", 5)] (IV.list (c := dP) (EV.var 4 (t := tD (dR (linesOf R))))) (fun s H C cl fp => pg_tup rfl (pgs_cons (pg_name (i := 10) sc_branch_counts.nd rfl (Or.inl rfl)) (pgs_cons (pg_name (i := 5) sc_branch_counts.nd rfl (Or.inl rfl)) pgs_nil))) (TgOk.pair 10 5) (fun r _ s H C cl fp => CTs.nil) (fun r _ _ s H C cl fp => EV.var 5 (t := tI r.2)) sc_branch_counts.nd) ?_)
    (EV.lock (P := fun _ : Unit => True) (ΓL := fun _ => [some (.ty (tTR K R)), some (.ty (tFz (dBy R))), none, none, none, none, none, none, none, none, none, none]) (fun σ H B sa => lock_by (n := 10) sa rfl rfl rfl) (fun _ _ => EV.cast (tb := tD (.list ((loose R).map .int))) (EV.lc (pd := fun p : Int × PyData => !decide (p.1 ∈ keys R)) (f := fun p => .int p.1) [("new", 11)] (IV.keys (EV.var 1)) (fun s H C cl fp => pg_name (i := 11) sc_branch_counts.nd rfl (Or.inl rfl)) (TgOk.name 11)
      (fun p _ s H C cl fp => CTs.one (CT.cmp (EV.var 11) (EV.var 0) (o_niTR T (hr.mono (by decide)) wf))) (fun p _ _ s H C cl fp => EV.var 11) sc_branch_counts.nd) ?_) (unl_D _)) (o_catL ?_)) ?_)) ⟨none, none, none, none, ?_⟩ sc_branch_counts.nd ?_ fun Γi h => h) ?_
  · rw [filter_yes, List.map_map]; rfl
  · unfold loose dBy
    rw [List.filter_map, List.filter_map, List.map_map, List.map_map]; rfl
  · have := bc_len wf
    unfold bcKeys at this
    rw [List.length_append] at this
    simp only [List.length_map] at this ⊢
    exact Nat.le_trans this (by decide)
  · unfold bcKeys
    show _ = tD (.list (((linesOf R).map (·.2) ++ loose R).map .int))
    rw [List.map_append]
  · rw [hflat]; rfl
  · rintro i k Γi hk ⟨a, b, c, d, rfl⟩
    have hil : i < (bcKeys R).length := (List.getElem?_eq_some_iff.mp hk).1
    refine GS.seq (G1.par2 (u1 := tI (if wantsOf R k = [] then 0 else 1)) (u2 := tI 1) 6 7 (EV.cast (EV.callT (T.free 1) c_intB (EA.one (EV.din (f := fun k => (dBy R).lookup k) (hu_of hr) (EV.var 5 (t := tI k)) (EV.imp (EV.var 1) fun v B h => tDo_dk h)))) ?_) EV.int sc_branch_counts.nd) ?_
    · rw [dBy_some]
      by_cases h : wantsOf R k = [] <;> simp [h]
    let Iw : Nat → Gm → Prop := fun j Γ => ∃ d, Γ = [some (.ty (tT K R)), some (.ty (tDo (dBy R))), some (.own (oD (encC (countsTo R i)))), some (.ty (tD (dI (onRing R)))), some (.ty (tD (dR (linesOf R)))), some (.ty (tI k)), some (.ty (tI (bcPart R (countsTo R i) k j).1)), some (.ty (tI (bcPart R (countsTo R i) k j).2)), d, none, none, none]
    refine GS.cons (N1 := Iw (wantsOf R k).length) (G1.forN 8 Iw (IV.list (c := fun k : Int => .int k) (xs := wantsOf R k) (EV.cast (EV.dget2 (fn := fun k => (dBy R).lookup k) (hu_of hr) (EV.imp (EV.var 1) fun v B h => tDo_dk h) (EV.var 5 (t := tI k)) (EV.lst (ds := []) EA.nil)) (congrArg tD (dBy_getD R k)))) ⟨_, rfl⟩ sc_branch_counts.nd ?_ fun Γi h => h) ?_
    · rintro j one Γj hj ⟨d, rfl⟩
      have hone : one ∈ wantsOf R k := List.mem_of_getElem? hj
      have hsucc : bcPart R (countsTo R i) k (j + 1) = bcGo R (countsTo R i) k (bcPart R (countsTo R i) k j) one := by
        unfold bcPart
        rw [List.take_add_one, hj, List.foldl_append]; rfl
      refine GS.one (G1.ifS (CW.ct (CW.and (CT.cmp (EV.var 8 (t := tI one)) (EV.var 5 (t := tI k)) o_neI) fun _ => CW.and1 (CT.cmp (EV.var 8 (t := tI one)) (EV.var 3 (t := tD (dI (onRing R)))) o_niL))) (fun hb => ?_) fun hb => ?_)
      · have hb2 : one ≠ k ∧ one ∉ onRing R := by simpa using hb
        have hbef := bc_before wf hk hone hb2.1 hb2.2
        have hlk : (encC (countsTo R i)).lookup one = some (dC (cAt (countsTo R i) one)) := by
          unfold encC
          rw [look_map dC, look_mem (by rw [countsTo_keys]; exact hbef)]; rfl
        obtain ⟨v1, v2, v3⟩ := cnt_small wf (Nat.le_of_lt hil) one
        obtain ⟨p1, p2, p3, p4⟩ := part_small wf hk j
        refine GS.seq (G1.mulI 6 (EV.bin (EV.ixT (EV.dget (f := fun k => (encC (countsTo R i)).lookup k) (hu_of hr) (EV.imp (EV.var 2 (t := tDo (encC (countsTo R i)))) fun v B h => tDo_dk h) (EV.var 8 (t := tI one)) hlk) EV.int rfl) (EV.ixT (EV.dget (f := fun k => (encC (countsTo R i)).lookup k) (hu_of hr) (EV.imp (EV.var 2 (t := tDo (encC (countsTo R i)))) fun v B h => tDo_dk h) (EV.var 8 (t := tI one)) hlk) EV.int rfl) o_add) (mul_small p1 p2 (by omega) v3) sc_branch_counts.nd) ?_
        refine GS.one (G1.to (G1.mulI 7 (EV.ixT (EV.dget (f := fun k => (encC (countsTo R i)).lookup k) (hu_of hr) (EV.imp (EV.var 2 (t := tDo (encC (countsTo R i)))) fun v B h => tDo_dk h) (EV.var 8 (t := tI one)) hlk) EV.int rfl) (mul_small p3 p4 v1 (by omega)) sc_branch_counts.nd) fun Γ' e => ⟨some (.ty (tI one)), ?_⟩)
        rw [e, hsucc]
        unfold bcGo
        rw [if_pos hb]; rfl
      · refine GS.nil ⟨some (.ty (tI one)), ?_⟩
        rw [hsucc]
        unfold bcGo
        rw [if_neg (by rw [hb]; decide)]; rfl
    · rintro Γ1 ⟨d, rfl⟩
      have hkn : k ∉ (countsTo R i).map (·.1) := by
        rw [countsTo_keys]
        intro z
        have hn := bc_nodup wf
        have htk : (bcKeys R).take (i + 1) = (bcKeys R).take i ++ [k] := by rw [List.take_add_one, hk]; rfl
        rw [← List.take_append_drop (i + 1) (bcKeys R), htk] at hn
        exact (List.nodup_append.mp (List.nodup_append.mp hn).1).2.2 k z k (by simp) rfl
      refine GS.one (G1.to (G1.dset (d := dC (bcVal R (countsTo R i) k)) (k := k) 2 (hu_of hr) (EV.var 5 (t := tI k)) (EV.cast (EV.tup (ds := [.int (bcPart R (countsTo R i) k (wantsOf R k).length).1, .int (bcPart R (countsTo R i) k (wantsOf R k).length).2]) (EA.cons (EV.var 6) (EA.one (EV.var 7)))) ?_) ?_) fun Γ' e => ⟨some (.ty (tI k)), some (.ty (tI (bcPart R (countsTo R i) k (wantsOf R k).length).1)), some (.ty (tI (bcPart R (countsTo R i) k (wantsOf R k).length).2)), d, ?_⟩)
      · unfold bcPart bcVal
        rw [List.take_length]
      · rw [List.length_map, ← List.length_map (f := fun p : Int × (Int × Int) => p.1), countsTo_keys, List.length_take]
        have := bc_len wf
        show _ < 100000
        omega
      · rw [e, countsTo_succ hk]
        unfold bcStep
        rw [← putA_enc hkn]; rfl
  · rintro Γ1 ⟨a, b, c, d, rfl⟩
    exact GS.one (G1.ret (EV.cast (EV.var 2 (t := tDo (encC (countsTo R (bcKeys R).length)))) (by rw [countsTo_all])))
end
end Rk
/-! part M10 -/
namespace Rk
/-! ### numbers by their bits -/
def NB (n : Nat) (a : Int) : Prop := a.natAbs ≤ 2 ^ n
theorem NB.mono {n m : Nat} {a : Int} (h : NB n a) (k : n ≤ m) : NB m a := Nat.le_trans h (Nat.pow_le_pow_right (by decide) k)
theorem NB.mul {n m : Nat} {a b : Int} (h : NB n a) (k : NB m b) : NB (n + m) (a * b) := by
  unfold NB at *
  rw [Int.natAbs_mul, Nat.pow_add]
  exact Nat.mul_le_mul h k
theorem NB.add {n : Nat} {a b : Int} (h : NB n a) (k : NB n b) : NB (n + 1) (a + b) := by
  unfold NB at *
  have := Int.natAbs_add_le a b
  rw [Nat.pow_succ]
  omega
theorem NB.sub {n : Nat} {a b : Int} (h : NB n a) (k : NB n b) : NB (n + 1) (a - b) := by
  unfold NB at *
  have := Int.natAbs_sub_le a b
  rw [Nat.pow_succ]
  omega
theorem NB.zero (n : Nat) : NB n 0 := Nat.zero_le _
theorem NB.one (n : Nat) : NB n 1 := Nat.one_le_two_pow
theorem NB.of {n : Nat} {a : Int} (h0 : 0 ≤ a) (h : a ≤ 2 ^ n) : NB n a := by
  unfold NB
  have e : ((2 ^ n : Nat) : Int) = 2 ^ n := by simp
  have : (a.natAbs : Int) ≤ ((2 ^ n : Nat) : Int) := by rw [e, Int.natAbs_of_nonneg h0]; exact h
  exact Int.ofNat_le.mp this
/-! ### the counts along the rings -/
def ringWhole (c : Cnt) (l : List Int) : Int := l.foldl (fun w k => w * (cAt c k).1) 1
def ringRun (c : Cnt) (l : List Int) (tl : Int × Int) : Int × Int := l.foldl (fun tl k => ((tl.1 + tl.2) * (cAt c k).1, tl.1 * (cAt c k).2)) tl
def ringBoth (c : Cnt) (r : List Int) : Int := 0 + ((ringRun c r.tail ((cAt c (r.headD 0)).1, 0)).1 + (ringRun c r.tail ((cAt c (r.headD 0)).1, 0)).2) + (ringRun c r.tail (0, (cAt c (r.headD 0)).2)).1
def ringCount (c : Cnt) (r : List Int) (p : Bool) : Int := if p = true then ringBoth c r - ringWhole c r else ringBoth c r
structure CB (c : Cnt) : Prop where
  b : ∀ k, NB 80 (cAt c k).1 ∧ NB 80 (cAt c k).2
theorem cb_counts {R : Rows} (w : WF R) : CB (counts R) := ⟨fun k => by
  have h := cnt_small w (Nat.le_refl (bcKeys R).length) k
  rw [countsTo_all] at h
  exact ⟨.of h.1 (by omega), .of h.2.1 (by omega)⟩⟩
theorem whole_nb {c : Cnt} (h : CB c) : ∀ l : List Int, NB (80 * l.length) (ringWhole c l) := fun l => by
  have : ∀ (l : List Int) (w : Int) (n : Nat), NB n w → NB (n + 80 * l.length) (l.foldl (fun w k => w * (cAt c k).1) w) := fun l => by
    induction l with
    | nil => intro w n h; exact h
    | cons a l ih =>
      intro w n hw
      rw [List.foldl_cons, List.length_cons]
      exact (ih _ _ (hw.mul (h.b a).1)).mono (by omega)
  exact (this l 1 0 (NB.one 0)).mono (by omega)
theorem run_nb {c : Cnt} (h : CB c) : ∀ (l : List Int) (tl : Int × Int) (n : Nat), NB n tl.1 → NB n tl.2 → NB (n + 81 * l.length) (ringRun c l tl).1 ∧ NB (n + 81 * l.length) (ringRun c l tl).2
  | [], tl, n, h1, h2 => ⟨h1, h2⟩
  | a :: l, tl, n, h1, h2 => by
    have := run_nb h l ((tl.1 + tl.2) * (cAt c a).1, tl.1 * (cAt c a).2) (n + 81) (((h1.add h2).mul (h.b a).1).mono (by omega)) ((h1.mul (h.b a).2).mono (by omega))
    rw [List.length_cons]
    exact ⟨this.1.mono (by omega), this.2.mono (by omega)⟩
theorem ringCount_nb {c : Cnt} (h : CB c) {r : List Int} (hl : r.length ≤ 40) (p : Bool) : NB 3400 (ringCount c r p) := by
  have ht : r.tail.length ≤ 40 := by rw [List.length_tail]; omega
  have a1 := run_nb h r.tail ((cAt c (r.headD 0)).1, 0) 80 (h.b _).1 (NB.zero _)
  have a2 := run_nb h r.tail (0, (cAt c (r.headD 0)).2) 80 (NB.zero _) (h.b _).2
  have hb : NB 3325 (ringBoth c r) := by
    unfold ringBoth
    exact (((NB.zero 3322).add ((a1.1.mono (m := 3321) (by omega)).add (a1.2.mono (m := 3321) (by omega)))).add (a2.1.mono (m := 3323) (by omega))).mono (by omega)
  have hw : NB 3325 (ringWhole c r) := (whole_nb h r).mono (by omega)
  unfold ringCount
  split
  · exact (hb.sub hw).mono (by omega)
  · exact hb.mono (by omega)
/-! ### how many can be held -/
def cntRings (R : Rows) (l : List (List Int)) : Int := l.foldl (fun f r => f * ringCount (counts R) r (decide (r ∈ pures R))) 1
def cntStill (R : Rows) (l : List Int) (f : Int) : Int := l.foldl (fun f k => if still R k = true then f * (cAt (counts R) k).1 else f) f
def cntLoose (R : Rows) (l : List Int) (f : Int) : Int := l.foldl (fun f k => if (!decide (k ∈ keys R)) = true then f * ((cAt (counts R) k).1 + (cAt (counts R) k).2) else f) f
def countCovers (R : Rows) : Int := cntLoose R (wanted R) (cntStill R (keys R) (cntRings R (rings R)))
theorem ring_len40 {R : Rows} (w : WF R) {r : List Int} (h : r ∈ rings R) : r.length ≤ 40 := by
  obtain ⟨k, hk, rfl, _⟩ := (mem_rings.mp h).head
  exact Nat.le_trans (path_len hk) w.len
theorem cntRings_nb {R : Rows} (w : WF R) : ∀ l : List (List Int), (∀ r ∈ l, r.length ≤ 40) → NB (3400 * l.length) (cntRings R l) := fun l hl => by
  have : ∀ (l : List (List Int)) (f : Int) (n : Nat), (∀ r ∈ l, r.length ≤ 40) → NB n f → NB (n + 3400 * l.length) (l.foldl (fun f r => f * ringCount (counts R) r (decide (r ∈ pures R))) f) := fun l => by
    induction l with
    | nil => intro f n _ h; exact h
    | cons r l ih =>
      intro f n hl hf
      rw [List.foldl_cons, List.length_cons]
      exact (ih _ _ (fun r hr => hl r (List.mem_cons_of_mem _ hr)) (hf.mul (ringCount_nb (cb_counts w) (hl r List.mem_cons_self) _))).mono (by omega)
  exact (this l 1 0 hl (NB.one 0)).mono (by omega)
theorem cntStill_nb {R : Rows} (w : WF R) : ∀ (l : List Int) (f : Int) (n : Nat), NB n f → NB (n + 80 * l.length) (cntStill R l f)
  | [], f, n, h => h
  | k :: l, f, n, h => by
    unfold cntStill
    rw [List.foldl_cons, List.length_cons]
    split
    · exact (cntStill_nb w l _ _ (h.mul ((cb_counts w).b k).1)).mono (by omega)
    · exact (cntStill_nb w l _ _ h).mono (by omega)
theorem cntLoose_nb {R : Rows} (w : WF R) : ∀ (l : List Int) (f : Int) (n : Nat), NB n f → NB (n + 81 * l.length) (cntLoose R l f)
  | [], f, n, h => h
  | k :: l, f, n, h => by
    unfold cntLoose
    rw [List.foldl_cons, List.length_cons]
    split
    · exact (cntLoose_nb w l _ _ (h.mul (((cb_counts w).b k).1.add ((cb_counts w).b k).2))).mono (by omega)
    · exact (cntLoose_nb w l _ _ h).mono (by omega)
end Rk
/-! part D11 -/
namespace Rk
open PySem PySem.Spec L2
theorem NB.cmul {n m : Nat} {a b : Int} (h : NB n a) (k : NB m b) (hs : n + m ≤ 900000) : CMulW a b :=
  wide_mul (a := n + 1) (b := m + 1) (Nat.lt_of_le_of_lt h (Nat.pow_lt_pow_right (by decide) (Nat.lt_succ_self n))) (Nat.lt_of_le_of_lt k (Nat.pow_lt_pow_right (by decide) (Nat.lt_succ_self m))) (Nat.succ_pos n) (Nat.succ_pos m) (by omega)
theorem eqv_ints : ∀ a b : List Int, PyData.eqvAll (a.map .int) (b.map .int) = decide (a = b)
  | [], [] => by simp [PyData.eqvAll]
  | [], _ :: _ => by simp [PyData.eqvAll]
  | _ :: _, [] => by simp [PyData.eqvAll]
  | x :: a, y :: b => by
    have ih := eqv_ints a b
    simp only [List.map_cons, PyData.eqvAll, PyData.eqv, ih]
    by_cases h1 : x = y <;> by_cases h2 : a = b <;> simp [h1, h2]
theorem eqv_dT (a b : List Int) : PyData.eqv (dT a) (dT b) = decide (a = b) := by
  show PyData.eqv (.tuple (a.map .int)) (.tuple (b.map .int)) = _
  rw [PyData.eqv]; exact eqv_ints a b
theorem in_dLT (l : List (List Int)) (r : List Int) : ((l.map fun r => dT r).any fun z => PyData.eqv z (dT r)) = decide (r ∈ l) := by
  rw [List.any_map]
  have : ((fun z => PyData.eqv z (dT r)) ∘ fun r => dT r) = fun z : List Int => decide (z = r) := funext fun z => eqv_dT z r
  rw [this]
  induction l with
  | nil => simp
  | cons a l ih =>
    rw [List.any_cons, ih]
    by_cases h : a = r
    · simp [h]
    · have : ¬ r = a := fun z => h z.symm
      simp [h, this]
theorem lay_ints : ∀ a : List Int, PyData.canLayAll0 (a.map .int) = true
  | [] => by simp [PyData.canLayAll0]
  | x :: a => by simp [PyData.canLayAll0, PyData.canLay0, lay_ints a]
theorem lay_dT (r : List Int) : (dT r).canLay0 = true := by
  show PyData.canLay0 (.tuple (r.map .int)) = true
  simp [PyData.canLay0, lay_ints]
theorem dep_dT (r : List Int) : (dT r).depth ≤ 3 := by
  have := depth_ints r
  show PyData.depth (.tuple (r.map .int)) ≤ 3
  simp only [PyData.depth]
  omega
theorem lay_tups : ∀ l : List (List Int), PyData.canLayAll0 (l.map fun r => dT r) = true
  | [] => by simp [PyData.canLayAll0]
  | r :: l => by
    have := lay_dT r
    simp only [List.map_cons, PyData.canLayAll0, this, lay_tups l]; rfl
theorem dep_tups : ∀ l : List (List Int), PyData.depthAll (l.map fun r => dT r) ≤ 3
  | [] => by simp [PyData.depthAll]
  | r :: l => by
    have := dep_dT r
    have := dep_tups l
    simp only [List.map_cons, PyData.depthAll]; omega
theorem shaped_dT (r : List Int) : SeqAt.shaped (dT r) = true := by
  unfold SeqAt.shaped
  rw [lay_dT, decide_eq_true (Nat.le_trans (dep_dT r) (by decide))]; rfl
theorem shaped_dLT (l : List (List Int)) : SeqAt.shaped (dLT l) = true := by
  unfold SeqAt.shaped
  have h1 : PyData.canLay0 (dLT l) = true := by
    show PyData.canLay0 (.list (l.map fun r => dT r)) = true
    simp only [PyData.canLay0]; exact lay_tups l
  have h2 : PyData.depth (dLT l) ≤ 64 := by
    have := dep_tups l
    show PyData.depth (.list (l.map fun r => dT r)) ≤ 64
    simp only [PyData.depth]; omega
  rw [h1, decide_eq_true h2]; rfl
section
variable {P : Program} {w : World} {K : PySem.W.Frag} {mg : Str → Option Value} {base : Heap} {X : Cx} {Γ : Gm} {e i o : Expr}
theorem hu65 {A : Around} {k : Nat} (hr : Room k A) : A.units + 65 < cLine := by have := hr.un; omega
theorem EV.inLT {r : List Int} {l : List (List Int)} {pos : Pos} {k : Nat} (hr : Room k X.A) (hi : EV X Γ i (tD (dT r))) (ho : EV X Γ o (tD (dLT l))) (hm : behindInMarks .In o = false := by rfl) : EV X Γ (.Compare i [.In] [o] pos) (tB (decide (r ∈ l))) :=
  EV.cast (EV.cmp hi ho (o_inD (hu65 hr) (shaped_dT r) (shaped_dLT l)) hm) (congrArg tB (in_dLT l r))
theorem sc_ring_count : FnScope ["counts", "ring", "is_pure", "found", "whole", "key", "first", "taken", "left"] ["counts", "ring", "is_pure"] (defScope s_ring_count) := ⟨rfl, rfl, rfl, by decide +kernel, rfl, by decide +kernel, by decide +kernel⟩
theorem cut1 {α : Type} (f : α → PyData) (r : List α) : cutD (r.map f) (some 1) none = r.tail.map f := by
  have := cutD_from (r.map f) 1
  rw [List.drop_one, ← List.map_tail] at this
  exact this
theorem atI_zero (d : PyData) (ds : List PyData) : atI (d :: ds) 0 = some d := by
  unfold atI ixN
  simp
theorem EV.cnt {c : Cnt} {k : Int} {j : Int} {n : Int} {pos p1 : Pos} (hu : X.A.units + 1 < cLine) (hc : EV X Γ o (tDo (encC c))) (hk : EV X Γ e (tI k)) (hm : k ∈ c.map (·.1)) (hj : EV X Γ i (tI j)) (h : atI [PyData.int (cAt c k).1, PyData.int (cAt c k).2] j = some (.int n)) (hs : NoSl e := by exact fun _ _ => rfl) (hp : PlainIx i := by exact fun _ _ => rfl) :
    EV X Γ (.Subscript (.Subscript o e p1) i pos) (tI n) :=
  EV.ixT (EV.dget (f := fun k => (encC c).lookup k) hu (EV.imp hc fun v B h => tDo_dk h) hk (by show (encC c).lookup k = _; unfold encC; rw [look_map dC, look_mem hm]; rfl) hs) hj h hp
theorem ok_ring_count (T : Txt K mg) : DefT P w K mg base "ring_count" 1 (A := Cnt × List Int × Bool) (fun a => [tDo (encC a.1), tD (dT a.2.1), tB a.2.2]) (fun a => CB a.1 ∧ a.2.1 ≠ [] ∧ a.2.1.length ≤ 40 ∧ ∀ k ∈ a.2.1, k ∈ a.1.map (·.1)) (fun a => tI (ringCount a.1 a.2.1 a.2.2)) := by
  refine DefT.top T 25 41 sc_ring_count (fun _ _ _ _ _ _ us hl => match us, hl with | [_, _, _], _ => rfl) (fun _ => rfl) fun f cdv Ar outer s H E a hp hr => ?_
  obtain ⟨c, r, pu⟩ := a
  obtain ⟨cb, hne, hlen, hmem⟩ : CB c ∧ r ≠ [] ∧ r.length ≤ 40 ∧ ∀ k ∈ r, k ∈ c.map (·.1) := hp
  have hhd : atI (r.map PyData.int) 0 = some (.int (r.headD 0)) := by
    cases r with
    | nil => exact absurd rfl hne
    | cons x r => exact atI_zero _ _
  have hhm : r.headD 0 ∈ c.map (·.1) := by
    cases r with
    | nil => exact absurd rfl hne
    | cons x r => exact hmem x List.mem_cons_self
  refine GS.seq (G1.unp2 (u1 := tI 0) (u2 := tI 1) 3 4 (EV.asTu (EV.tup (ds := [.int 0, .int 1]) (EA.cons EV.int (EA.one EV.int)))) sc_ring_count.nd) ?_
  let I1 : Nat → Gm → Prop := fun i Γ => ∃ a, Γ = [some (.ty (tDo (encC c))), some (.ty (tD (dT r))), some (.ty (tB pu)), some (.ty (tI 0)), some (.ty (tI (ringWhole c (r.take i)))), a, none, none, none]
  refine GS.cons (N1 := I1 r.length) (G1.forN 5 I1 (IV.tup (c := fun k : Int => .int k) (xs := r) (EV.var 1 (t := tD (dT r)))) ⟨none, rfl⟩ sc_ring_count.nd ?_ fun Γi h => h) ?_
  · rintro i k Γi hk ⟨a, rfl⟩
    refine GS.one (G1.to (G1.mulI 4 (EV.cnt (c := c) (k := k) (hu_of hr) (EV.var 0) (EV.var 5 (t := tI k)) (hmem k (List.mem_of_getElem? hk)) EV.int rfl) ((whole_nb cb (r.take i)).cmul (cb.b k).1 (by rw [List.length_take]; omega)) sc_ring_count.nd) fun Γ' e => ⟨some (.ty (tI k)), ?_⟩)
    rw [e]
    unfold ringWhole
    rw [take_succ' hk, List.foldl_append]; rfl
  rintro Γ1 ⟨a, rfl⟩
  rw [List.take_length]
  let A1 := ringRun c r.tail ((cAt c (r.headD 0)).1, 0)
  let A2 := ringRun c r.tail (0, (cAt c (r.headD 0)).2)
  let I2 : Nat → Gm → Prop := fun i Γ => ∃ a b d g, Γ = [some (.ty (tDo (encC c))), some (.ty (tD (dT r))), some (.ty (tB pu)), some (.ty (tI (if i = 0 then 0 else if i = 1 then 0 + (A1.1 + A1.2) else ringBoth c r))), some (.ty (tI (ringWhole c r))), a, b, d, g]
  refine GS.cons (N1 := I2 2) (G1.forN 6 I2 (IV.tup (c := fun k : Int => .int k) (xs := [0, 1]) (EV.tup (ds := [.int 0, .int 1]) (EA.cons EV.int (EA.one EV.int)))) ⟨_, _, _, _, rfl⟩ sc_ring_count.nd ?_ fun Γi h => h) ?_
  · rintro i x Γi hx ⟨a, b, d, g, rfl⟩
    have hx2 : (i = 0 ∧ x = 0) ∨ (i = 1 ∧ x = 1) := by
      match i, hx with
      | 0, hx => exact .inl ⟨rfl, (Option.some.inj hx).symm⟩
      | 1, hx => exact .inr ⟨rfl, (Option.some.inj hx).symm⟩
      | i + 2, hx => simp at hx
    let t0 : Int := if x = 0 then (cAt c (r.headD 0)).1 else 0
    let l0 : Int := if x = 0 then 0 else (cAt c (r.headD 0)).2
    have nb : NB 80 t0 ∧ NB 80 l0 := by
      constructor
      · show NB 80 (if x = 0 then _ else _)
        split
        · exact (cb.b _).1
        · exact NB.zero _
      · show NB 80 (if x = 0 then _ else _)
        split
        · exact NB.zero _
        · exact (cb.b _).2
    refine GS.seq (G1.unp2 (u1 := tI t0) (u2 := tI l0) 7 8 (EV.ifE (CT.cmp (EV.var 6 (t := tI x)) EV.int o_eqI) (fun h => EV.asTu (ds := [.int t0, .int l0]) (EV.cast (EV.tup (ds := [.int (cAt c (r.headD 0)).1, .int 0]) (EA.cons (EV.cnt (c := c) (k := r.headD 0) (hu_of hr) (EV.var 0) (EV.ixT (EV.var 1 (t := tD (dT r))) EV.int hhd) hhm EV.int rfl) (EA.one EV.int))) ?_)) fun h => EV.asTu (ds := [.int t0, .int l0]) (EV.cast (EV.tup (ds := [.int 0, .int (cAt c (r.headD 0)).2]) (EA.cons EV.int (EA.one (EV.cnt (c := c) (k := r.headD 0) (hu_of hr) (EV.var 0) (EV.ixT (EV.var 1 (t := tD (dT r))) EV.int hhd) hhm EV.int rfl)))) ?_)) sc_ring_count.nd) ?_
    · have : x = 0 := by simpa using h
      show _ = tD (.tuple [.int (if x = 0 then _ else _), .int (if x = 0 then _ else _)])
      rw [if_pos this, if_pos this]
    · have : ¬ x = 0 := by simpa using h
      show _ = tD (.tuple [.int (if x = 0 then _ else _), .int (if x = 0 then _ else _)])
      rw [if_neg this, if_neg this]
    let fo : Int := if i = 0 then 0 else if i = 1 then 0 + (A1.1 + A1.2) else ringBoth c r
    let I3 : Nat → Gm → Prop := fun j Γ => ∃ a, Γ = [some (.ty (tDo (encC c))), some (.ty (tD (dT r))), some (.ty (tB pu)), some (.ty (tI fo)), some (.ty (tI (ringWhole c r))), a, some (.ty (tI x)), some (.ty (tI (ringRun c (r.tail.take j) (t0, l0)).1)), some (.ty (tI (ringRun c (r.tail.take j) (t0, l0)).2))]
    refine GS.cons (N1 := I3 r.tail.length) (G1.forN 5 I3 (IV.tup (c := fun k : Int => .int k) (xs := r.tail) (EV.cast (EV.slT (EV.var 1 (t := tD (dT r))) (EO.some EV.int) EO.none) (by rw [cut1]))) ⟨_, rfl⟩ sc_ring_count.nd ?_ fun Γi h => h) ?_
    · rintro j k Γj hk ⟨a, rfl⟩
      have hkm : k ∈ c.map (·.1) := hmem k (List.mem_of_mem_tail (List.mem_of_getElem? hk))
      have hn := run_nb cb (r.tail.take j) (t0, l0) 80 nb.1 nb.2
      have hjl : (r.tail.take j).length ≤ 40 := by rw [List.length_take, List.length_tail]; omega
      refine GS.one (G1.to (G1.par2 (u1 := tI (((ringRun c (r.tail.take j) (t0, l0)).1 + (ringRun c (r.tail.take j) (t0, l0)).2) * (cAt c k).1)) (u2 := tI ((ringRun c (r.tail.take j) (t0, l0)).1 * (cAt c k).2)) 7 8 (EV.bin (EV.bin (EV.var 7 (t := tI (ringRun c (r.tail.take j) (t0, l0)).1)) (EV.var 8 (t := tI (ringRun c (r.tail.take j) (t0, l0)).2)) o_add) (EV.cnt (c := c) (k := k) (hu_of hr) (EV.var 0) (EV.var 5 (t := tI k)) hkm EV.int rfl) (o_mulW ((hn.1.add hn.2).cmul (cb.b k).1 (by omega))))
        (EV.bin (EV.var 7 (t := tI (ringRun c (r.tail.take j) (t0, l0)).1)) (EV.cnt (c := c) (k := k) (hu_of hr) (EV.var 0) (EV.var 5 (t := tI k)) hkm EV.int rfl) (o_mulW (hn.1.cmul (cb.b k).2 (by omega)))) sc_ring_count.nd) fun Γ' e => ⟨some (.ty (tI k)), ?_⟩)
      rw [e]
      have : ringRun c (r.tail.take (j + 1)) (t0, l0) = (((ringRun c (r.tail.take j) (t0, l0)).1 + (ringRun c (r.tail.take j) (t0, l0)).2) * (cAt c k).1, (ringRun c (r.tail.take j) (t0, l0)).1 * (cAt c k).2) := by
        unfold ringRun
        rw [take_succ' hk, List.foldl_append]; rfl
      rw [this]; rfl
    · rintro Γj ⟨a, rfl⟩
      rw [List.take_length]
      refine GS.one (G1.to (G1.addI 3 (b := if x = 1 then (ringRun c r.tail (t0, l0)).1 else (ringRun c r.tail (t0, l0)).1 + (ringRun c r.tail (t0, l0)).2) (EV.ifE (CT.cmp (EV.var 6 (t := tI x)) EV.int o_eqI) (fun h => EV.cast (EV.var 7 (t := tI (ringRun c r.tail (t0, l0)).1)) ?_) fun h => EV.cast (EV.bin (EV.var 7 (t := tI (ringRun c r.tail (t0, l0)).1)) (EV.var 8 (t := tI (ringRun c r.tail (t0, l0)).2)) o_add) ?_) sc_ring_count.nd) fun Γ' e => ⟨a, some (.ty (tI x)), some (.ty (tI (ringRun c r.tail (t0, l0)).1)), some (.ty (tI (ringRun c r.tail (t0, l0)).2)), ?_⟩)
      · rw [if_pos (by simpa using h)]
      · rw [if_neg (by simpa using h)]
      · rw [e]
        rcases hx2 with ⟨rfl, rfl⟩ | ⟨rfl, rfl⟩
        · rfl
        · rfl
  · rintro Γ1 ⟨a, b, d, g, rfl⟩
    refine GS.one (G1.ret (EV.ifE (CT.val (EV.var 2)) (fun h => EV.cast (EV.bin (EV.var 3 (t := tI (ringBoth c r))) (EV.var 4 (t := tI (ringWhole c r))) o_sub) ?_) fun h => EV.cast (EV.var 3 (t := tI (ringBoth c r))) ?_))
    · show _ = tI (if pu = true then _ else _)
      rw [if_pos h]
    · show _ = tI (if pu = true then _ else _)
      rw [if_neg (by rw [h]; decide)]
end
end Rk
/-! part D12 -/
namespace Rk
open PySem PySem.Spec L2
section
variable {P : Program} {w : World} {K : PySem.W.Frag} {mg : Str → Option Value} {base : Heap} {X : Cx} {Γ : Gm} {e i o : Expr}
theorem sc_count_covers : FnScope ["table", "counts", "pure", "found", "ring", "key"] ["table"] (defScope s_count_covers) := ⟨rfl, rfl, rfl, by decide +kernel, rfl, by decide +kernel, by decide +kernel⟩
theorem counts_mem {R : Rows} {k : Int} (h : k ∈ keys R ∨ k ∈ R.map (·.2)) : k ∈ (counts R).map (·.1) := by
  rw [← countsTo_all, countsTo_keys, List.take_length]
  exact mem_bc.mpr h
theorem ok_count_covers (T : Txt K mg) : DefT P w K mg base "count_covers" 10 (A := Rows) (fun a => [tT K a]) (fun a => WF a) (fun a => tI (countCovers a)) := by
  refine DefT.top T 26 42 sc_count_covers (fun _ _ _ _ _ _ us hl => match us, hl with | [_], _ => rfl) (fun _ => rfl) fun f cdv Ar outer s H E R wf hr => ?_
  have cb := cb_counts wf
  refine GS.seq (G1.par3 1 2 3 (EV.call (ok_branch_counts T) R wf hr (EA.one (EV.var 0))) (EV.call (ok_pure_rings T) R wf hr (EA.one (EV.var 0))) EV.int sc_count_covers.nd) ?_
  let I1 : Nat → Gm → Prop := fun i Γ => ∃ a b, Γ = [some (.ty (tT K R)), some (.ty (tDo (encC (counts R)))), some (.ty (tD (dLT (pures R)))), some (.ty (tI (cntRings R ((rings R).take i)))), a, b]
  refine GS.cons (N1 := I1 (rings R).length) (G1.forN 4 I1 (IV.list (c := fun r : List Int => dT r) (xs := rings R) (EV.call (ok_rings_of T) R wf (hr.mono (by decide)) (EA.one (EV.var 0)))) ⟨none, none, rfl⟩ sc_count_covers.nd ?_ fun Γi h => h) ?_
  · rintro i r Γi hi ⟨a, b, rfl⟩
    have hrm : r ∈ rings R := List.mem_of_getElem? hi
    have g := mem_rings.mp hrm
    have hl := ring_len40 wf hrm
    have hil : ((rings R).take i).length ≤ 40 := by
      have := rings_len R
      have := wf.len
      rw [List.length_take]; omega
    have hcall : (CB (counts R) ∧ r ≠ [] ∧ r.length ≤ 40 ∧ ∀ k ∈ r, k ∈ (counts R).map (·.1)) := ⟨cb, g.ne, hl, fun k hk => counts_mem (.inl (g.keys k hk))⟩
    refine GS.one (G1.to (G1.mulI 3 (EV.call (ok_ring_count T) (counts R, r, decide (r ∈ pures R)) hcall (hr.mono (by decide)) (EA.cons (EV.var 1) (EA.cons (EV.var 4 (t := tD (dT r))) (EA.one (EV.inLT hr (EV.var 4 (t := tD (dT r))) (EV.var 2)))))) ((cntRings_nb wf ((rings R).take i) fun r hr => ring_len40 wf (List.mem_of_mem_take hr)).cmul (ringCount_nb cb hl _) (by omega)) sc_count_covers.nd) fun Γ' e => ⟨some (.ty (tD (dT r))), b, ?_⟩)
    rw [e]
    unfold cntRings
    rw [take_succ' hi, List.foldl_append]; rfl
  rintro Γ1 ⟨a, b, rfl⟩
  rw [List.take_length]
  have nb1 : NB 136000 (cntRings R (rings R)) := (cntRings_nb wf (rings R) fun r hr => ring_len40 wf hr).mono (by have := rings_len R; have := wf.len; omega)
  let I2 : Nat → Gm → Prop := fun i Γ => ∃ a b, Γ = [some (.ty (tT K R)), some (.ty (tDo (encC (counts R)))), some (.ty (tD (dLT (pures R)))), some (.ty (tI (cntStill R ((keys R).take i) (cntRings R (rings R))))), a, b]
  refine GS.cons (N1 := I2 (keys R).length) (G1.forN 5 I2 (IV.list (c := fun k : Int => .int k) (xs := keys R) (EV.call (ok_keys_of T) R wf (hr.mono (by decide)) (EA.one (EV.var 0)))) ⟨a, b, rfl⟩ sc_count_covers.nd ?_ fun Γi h => h) ?_
  · rintro i k Γi hi ⟨a, b, rfl⟩
    have hk : k ∈ keys R := List.mem_of_getElem? hi
    have hil : ((keys R).take i).length ≤ 40 := by
      have := keys_len R
      have := wf.len
      rw [List.length_take]; omega
    have hsucc : cntStill R ((keys R).take (i + 1)) (cntRings R (rings R)) = if still R k = true then cntStill R ((keys R).take i) (cntRings R (rings R)) * (cAt (counts R) k).1 else cntStill R ((keys R).take i) (cntRings R (rings R)) := by
      unfold cntStill
      rw [take_succ' hi, List.foldl_append]; rfl
    refine GS.one (G1.ifS (CT.val (EV.call (ok_is_still T) (R, k) ⟨wf, hk⟩ (hr.mono (by decide)) (EA.cons (EV.var 0) (EA.one (EV.var 5 (t := tI k)))))) (fun hb => ?_) fun hb => GS.nil ⟨a, some (.ty (tI k)), ?_⟩)
    · refine GS.one (G1.to (G1.mulI 3 (EV.cnt (c := counts R) (k := k) (hu_of hr) (EV.var 1) (EV.var 5 (t := tI k)) (counts_mem (.inl hk)) EV.int rfl) ((cntStill_nb wf ((keys R).take i) _ _ nb1).cmul (cb.b k).1 (by omega)) sc_count_covers.nd) fun Γ' e => ⟨a, some (.ty (tI k)), ?_⟩)
      rw [e, hsucc, if_pos hb]; rfl
    · rw [hsucc, if_neg (by rw [show still R k = false from hb]; decide)]; rfl
  rintro Γ2 ⟨a, b, rfl⟩
  rw [List.take_length]
  have nb2 : NB 140000 (cntStill R (keys R) (cntRings R (rings R))) := (cntStill_nb wf (keys R) _ _ nb1).mono (by have := keys_len R; have := wf.len; omega)
  let I3 : Nat → Gm → Prop := fun i Γ => ∃ a b, Γ = [some (.ty (tT K R)), some (.ty (tDo (encC (counts R)))), some (.ty (tD (dLT (pures R)))), some (.ty (tI (cntLoose R ((wanted R).take i) (cntStill R (keys R) (cntRings R (rings R)))))), a, b]
  refine GS.cons (N1 := I3 (wanted R).length) (G1.forN 5 I3 (IV.list (c := fun k : Int => .int k) (xs := wanted R) (EV.call (ok_wanted_keys T) R wf (hr.mono (by decide)) (EA.one (EV.var 0)))) ⟨a, b, rfl⟩ sc_count_covers.nd ?_ fun Γi h => h) ?_
  · rintro i k Γi hi ⟨a, b, rfl⟩
    have hk : k ∈ R.map (·.2) := mem_wanted.mp (List.mem_of_getElem? hi)
    have hil : ((wanted R).take i).length ≤ 40 := by
      have := wanted_len R
      have := wf.len
      rw [List.length_take]; omega
    have hsucc : cntLoose R ((wanted R).take (i + 1)) (cntStill R (keys R) (cntRings R (rings R))) = if (!decide (k ∈ keys R)) = true then cntLoose R ((wanted R).take i) (cntStill R (keys R) (cntRings R (rings R))) * ((cAt (counts R) k).1 + (cAt (counts R) k).2) else cntLoose R ((wanted R).take i) (cntStill R (keys R) (cntRings R (rings R))) := by
      unfold cntLoose
      rw [take_succ' hi, List.foldl_append]; rfl
    refine GS.one (G1.ifS (CT.cmp (EV.var 5 (t := tI k)) (EV.var 0) (o_niT' T (hr.mono (by decide)) wf)) (fun hb => ?_) fun hb => GS.nil ⟨a, some (.ty (tI k)), ?_⟩)
    · refine GS.one (G1.to (G1.mulI 3 (EV.bin (EV.cnt (c := counts R) (k := k) (hu_of hr) (EV.var 1) (EV.var 5 (t := tI k)) (counts_mem (.inr hk)) EV.int rfl) (EV.cnt (c := counts R) (k := k) (hu_of hr) (EV.var 1) (EV.var 5 (t := tI k)) (counts_mem (.inr hk)) EV.int rfl) o_add) ((cntLoose_nb wf ((wanted R).take i) _ _ nb2).cmul ((cb.b k).1.add (cb.b k).2) (by omega)) sc_count_covers.nd) fun Γ' e => ⟨a, some (.ty (tI k)), ?_⟩)
      rw [e, hsucc, if_pos hb]; rfl
    · rw [hsucc, if_neg (by rw [hb]; decide)]; rfl
  rintro Γ3 ⟨a, b, rfl⟩
  rw [List.take_length]
  exact GS.one (G1.ret (EV.var 3))
end
end Rk
/-! part M11 -/
namespace Rk
/-! ### striking rows out -/
def hasK (r : Int × Int) (k : Int) : Bool := decide (k ∈ [r.1, r.2])
def struck (l : Rows) (k : Int) : Rows := l.filter fun r => !hasK r k
def deg (l : Rows) (x : Int) : Nat := (l.filter fun r => hasK r x).length
def endsAt (l : Rows) (r : Int × Int) : Rows := (if deg l r.1 = 1 then [(r.1, r.2)] else []) ++ (if deg l r.2 = 1 then [(r.1, r.1)] else [])
def sEnds (l : Rows) : Rows := l.flatMap (endsAt l)
def peelGo : Nat → Rows → List Int → Rows × List Int
  | 0, l, f => (l, f)
  | n + 1, l, f => match sEnds l with
    | [] => (l, f)
    | e :: _ => peelGo n (struck l e.2) (f ++ [e.1])
def strikeAll (l : Rows) (ks : List Int) : Rows := ks.foldl struck l
def selfs (l : Rows) : List Int := (l.filter fun r => decide (r.1 = r.2)).map (·.1)
def ringHalf (l : Rows) (rs : List (List Int)) : List Int := (rs.filter fun r => decide (r.headD 0 ∈ l.map (·.1))).map fun r => ((r.length : Int) + 1).fdiv 2
def least (R : Rows) (ch : List Int) : Int :=
  let l1 := strikeAll R ch
  let l2 := strikeAll l1 (selfs l1)
  let p := peelGo l2.length l2 []
  ((ch.length + (selfs l1).length + p.2.length : Nat) : Int) + (ringHalf p.1 (rings R)).sum
def stills (R : Rows) : List Int := (keys R).filter (still R)
def evens (r : List Int) : List (List Int) := (List.range ((r.length + 1) / 2)).map fun m => [r.getD (2 * m) 0]
def ringPart (l : Rows) (r : List Int) : List (List Int) := if r.headD 0 ∈ l.map (·.1) then (if r.length % 2 = 1 then [r] else evens r) else []
def piecesOf (R : Rows) : List (List Int) :=
  let l2 := strikeAll R (stills R)
  let p := peelGo l2.length l2 []
  srtT ((stills R).map (fun k => [k]) ++ p.2.map (fun k => [k]) ++ (rings R).flatMap (ringPart p.1))
def firstGo (R : Rows) (many : Int) : List Int → List Int → List Int
  | [], acc => acc
  | k :: ws, acc => firstGo R many ws (if (acc.length : Int) < many ∧ least R (acc ++ [k]) = many then acc ++ [k] else acc)
def firstCover (R : Rows) : List Int := firstGo R (least R []) (wanted R) []
theorem struck_len (l : Rows) (k : Int) : (struck l k).length ≤ l.length := List.length_filter_le _ _
theorem sEnds_mem {l : Rows} {e : Int × Int} (h : e ∈ sEnds l) : ∃ r ∈ l, (e = (r.1, r.2) ∧ deg l r.1 = 1) ∨ (e = (r.1, r.1) ∧ deg l r.2 = 1) := by
  obtain ⟨r, hr, he⟩ := List.mem_flatMap.mp h
  refine ⟨r, hr, ?_⟩
  unfold endsAt at he
  rcases List.mem_append.mp he with he | he
  · split at he
    · rename_i hd
      exact .inl ⟨by simpa using he, hd⟩
    · cases he
  · split at he
    · rename_i hd
      exact .inr ⟨by simpa using he, hd⟩
    · cases he
theorem filter_lt {α : Type} {p : α → Bool} {l : List α} {a : α} (h : a ∈ l) (hp : p a = false) : (l.filter p).length < l.length := by
  induction l with
  | nil => cases h
  | cons b l ih =>
    rw [List.filter_cons]
    rcases List.mem_cons.mp h with rfl | h
    · rw [if_neg (by rw [hp]; decide)]
      exact Nat.lt_succ_of_le (List.length_filter_le _ _)
    · split
      · exact Nat.succ_lt_succ (ih h)
      · exact Nat.lt_succ_of_lt (ih h)
theorem struck_lt {l : Rows} {e : Int × Int} (h : e ∈ sEnds l) : (struck l e.2).length < l.length := by
  obtain ⟨r, hr, h⟩ := sEnds_mem h
  refine filter_lt hr ?_
  rcases h with ⟨rfl, _⟩ | ⟨rfl, _⟩ <;> simp [hasK]
theorem sEnds_len (l : Rows) : (sEnds l).length ≤ 2 * l.length := by
  unfold sEnds
  rw [List.length_flatMap]
  have : ∀ m : Rows, (m.map fun r => (endsAt l r).length).sum ≤ 2 * m.length := fun m => by
    induction m with
    | nil => exact Nat.le_refl _
    | cons r m ih =>
      rw [List.map_cons, List.sum_cons, List.length_cons]
      have : (endsAt l r).length ≤ 2 := by
        unfold endsAt
        rw [List.length_append]
        split <;> split <;> simp
      omega
  exact this l
theorem strikeAll_len : ∀ (ks : List Int) (l : Rows), (strikeAll l ks).length ≤ l.length
  | [], l => Nat.le_refl _
  | k :: ks, l => by
    unfold strikeAll
    rw [List.foldl_cons]
    exact Nat.le_trans (strikeAll_len ks _) (struck_len l k)
theorem peelGo_len : ∀ (n : Nat) (l : Rows) (f : List Int), (peelGo n l f).1.length + (peelGo n l f).2.length ≤ l.length + f.length
  | 0, l, f => Nat.le_refl _
  | n + 1, l, f => by
    unfold peelGo
    cases h : sEnds l with
    | nil => exact Nat.le_refl _
    | cons e t =>
      have := peelGo_len n (struck l e.2) (f ++ [e.1])
      have h2 := struck_lt (l := l) (e := e) (by rw [h]; exact List.mem_cons_self)
      rw [List.length_append, List.length_singleton] at this
      show (peelGo n (struck l e.2) (f ++ [e.1])).1.length + (peelGo n (struck l e.2) (f ++ [e.1])).2.length ≤ _
      omega
theorem selfs_len (l : Rows) : (selfs l).length ≤ l.length := by
  unfold selfs; rw [List.length_map]; exact List.length_filter_le _ _
theorem ringPart_len (l : Rows) (r : List Int) : (ringPart l r).length ≤ r.length + 1 := by
  unfold ringPart
  split
  · split
    · simp
    · unfold evens; simp; omega
  · simp
theorem ringPart_ne {l : Rows} {r : List Int} (hr : r ≠ []) : ∀ p ∈ ringPart l r, p ≠ [] := by
  intro p hp
  unfold ringPart at hp
  split at hp
  · split at hp
    · rw [List.mem_singleton.mp hp]; exact hr
    · unfold evens at hp
      obtain ⟨m, _, rfl⟩ := List.mem_map.mp hp
      simp
  · cases hp
end Rk
/-! part D13 -/
namespace Rk
open PySem PySem.Spec L2
theorem eqv_nil (ds : List PyData) : PyData.eqv (.list ds) (.list []) = decide (ds = []) := by
  rw [PyData.eqv]
  cases ds with
  | nil => simp [PyData.eqvAll]
  | cons d ds => simp [PyData.eqvAll]
theorem lay_pairs : ∀ l : Rows, PyData.canLayAll0 (l.map dP) = true
  | [] => by simp [PyData.canLayAll0]
  | r :: l => by
    have := lay_dT [r.1, r.2]
    simp only [List.map_cons, PyData.canLayAll0, lay_pairs l]
    show ((dP r).canLay0 && true) = true
    rw [show dP r = dT [r.1, r.2] from rfl, this]; rfl
theorem dep_pairs : ∀ l : Rows, PyData.depthAll (l.map dP) ≤ 3
  | [] => by simp [PyData.depthAll]
  | r :: l => by
    have := dep_dT [r.1, r.2]
    have := dep_pairs l
    rw [← show dP r = dT [r.1, r.2] from rfl] at *
    simp only [List.map_cons, PyData.depthAll]; omega
theorem shaped_dR (l : Rows) : SeqAt.shaped (dR l) = true := by
  unfold SeqAt.shaped
  have h1 : PyData.canLay0 (dR l) = true := by
    show PyData.canLay0 (.list (l.map dP)) = true
    simp only [PyData.canLay0]; exact lay_pairs l
  have h2 : PyData.depth (dR l) ≤ 64 := by
    have := dep_pairs l
    show PyData.depth (.list (l.map dP)) ≤ 64
    simp only [PyData.depth]; omega
  rw [h1, decide_eq_true h2]; rfl
section
variable {P : Program} {w : World} {K : PySem.W.Frag} {mg : Str → Option Value} {base : Heap} {X : Cx} {Γ : Gm} {e i o : Expr}
/-- l != [] -/
theorem CT.neNil {ds : List PyData} {k : Nat} {pos p2 : Pos} (hr : Room k X.A) (h : EV X Γ e (tD (.list ds))) (hs : SeqAt.shaped (.list ds) = true) (hm : behindInMarks .NotEq (.List [] p2) = false := by rfl) : CT X Γ (.Compare e [.NotEq] [.List [] p2] pos) (!decide (ds = [])) :=
  CT.cast (CT.cmp h (EV.lst (ds := []) EA.nil) (o_neD hr.units hs rfl) hm) (by rw [eqv_nil])
theorem sc_struck : FnScope ["rows", "key", "row"] ["rows", "key"] (defScope s_struck) := ⟨rfl, rfl, rfl, by decide +kernel, rfl, by decide +kernel, by decide +kernel⟩
theorem ok_struck (T : Txt K mg) : DefT P w K mg base "struck" 1 (A := Rows × Int) (fun a => [tD (dR a.1), tI a.2]) (fun _ => True) (fun a => tD (dR (struck a.1 a.2))) := by
  refine DefT.top T 27 43 sc_struck (fun _ _ _ _ _ _ us hl => match us, hl with | [_, _], _ => rfl) (fun _ => rfl) fun f cdv Ar outer s H E a hp hr => ?_
  exact GS.one (G1.ret (EV.lc (pd := fun r : Int × Int => !hasK r a.2) (f := dP) [("row", 2)] (IV.list (c := dP) (xs := a.1) (EV.var 0 (t := tD (dR a.1)))) (fun s H C cl fp => pg_name (i := 2) sc_struck.nd rfl (Or.inl rfl)) (TgOk.name 2) (fun r _ s H C cl fp => CTs.one (CT.cmp (EV.var 1 (t := tI a.2)) (EV.var 2 (t := tD (dT [r.1, r.2]))) (o_niT (ns := [r.1, r.2])))) (fun r _ _ s H C cl fp => EV.var 2 (t := tD (dP r))) sc_struck.nd))
theorem sc_single_ends : FnScope ["rows", "found", "key", "new", "one", "other", "row"] ["rows"] (defScope s_single_ends) := ⟨rfl, rfl, rfl, by decide +kernel, rfl, by decide +kernel, by decide +kernel⟩
theorem ok_single_ends (T : Txt K mg) : DefT P w K mg base "single_ends" 1 (A := Rows) (fun a => [tD (dR a)]) (fun a => a.length ≤ 40) (fun a => tD (dR (sEnds a))) := by
  refine DefT.top T 28 44 sc_single_ends (fun _ _ _ _ _ _ us hl => match us, hl with | [_], _ => rfl) (fun _ => rfl) fun f cdv Ar outer s H E l hp hr => ?_
  have hlen : l.length ≤ 40 := hp
  refine GS.seq (G1.newL 1 sc_single_ends.nd) ?_
  let I1 : Nat → Gm → Prop := fun i Γ => ∃ a b c d, Γ = [some (.ty (tD (dR l))), some (.own (oL (((l.take i).flatMap (endsAt l)).map dP))), a, b, c, d, none]
  have hle : ∀ i, ((l.take i).flatMap (endsAt l)).length ≤ 2 * i := fun i => by
    rw [List.length_flatMap]
    have : ∀ m : Rows, (m.map fun r => (endsAt l r).length).sum ≤ 2 * m.length := fun m => by
      induction m with
      | nil => exact Nat.le_refl _
      | cons r m ih =>
        rw [List.map_cons, List.sum_cons, List.length_cons]
        have : (endsAt l r).length ≤ 2 := by
          unfold endsAt
          rw [List.length_append]
          split <;> split <;> simp
        omega
    have h2 := this (l.take i)
    rw [List.length_take] at h2
    omega
  refine GS.cons (N1 := I1 l.length) (G1.forP (c1 := fun r : Int × Int => .int r.1) (c2 := fun r : Int × Int => .int r.2) 2 3 I1 (IV.list (c := dP) (xs := l) (EV.var 0 (t := tD (dR l)))) ⟨none, none, none, none, rfl⟩ sc_single_ends.nd ?_ fun Γi h => h) ?_
  · rintro i r Γi hi ⟨a, b, c, d, rfl⟩
    have hil : i < l.length := (List.getElem?_eq_some_iff.mp hi).1
    let fo : Rows := (l.take i).flatMap (endsAt l)
    let I2 : Nat → Gm → Prop := fun j Γ => ∃ c d, Γ = [some (.ty (tD (dR l))), some (.own (oL ((fo ++ (if j = 0 then [] else if j = 1 then (if deg l r.1 = 1 then [(r.1, r.2)] else []) else endsAt l r)).map dP))), some (.ty (tI r.1)), some (.ty (tI r.2)), c, d, none]
    refine GS.one (G1.to (G1.forP (c1 := fun r : Int × Int => .int r.1) (c2 := fun r : Int × Int => .int r.2) 4 5 I2 (IV.list (c := dP) (xs := [(r.1, r.2), (r.2, r.1)]) (EV.lst (ds := [dP (r.1, r.2), dP (r.2, r.1)]) (EA.cons (EV.tup (ds := [.int r.1, .int r.2]) (EA.cons (EV.var 2) (EA.one (EV.var 3)))) (EA.one (EV.tup (ds := [.int r.2, .int r.1]) (EA.cons (EV.var 3) (EA.one (EV.var 2)))))))) ⟨c, d, by simp [fo]⟩ sc_single_ends.nd ?_ fun Γi h => h) ?_)
    · rintro j x Γj hj ⟨c, d, rfl⟩
      have hx : (j = 0 ∧ x = (r.1, r.2)) ∨ (j = 1 ∧ x = (r.2, r.1)) := by
        match j, hj with
        | 0, hj => exact .inl ⟨rfl, (Option.some.inj hj).symm⟩
        | 1, hj => exact .inr ⟨rfl, (Option.some.inj hj).symm⟩
        | j + 2, hj => simp at hj
      refine GS.one (G1.ifS (b := decide (deg l x.1 = 1)) (CT.cast (CT.cmp (EV.callB (T.free 5) c_lenL (EA.one (EV.lc (pd := fun q : Int × Int => hasK q x.1) (f := dP) [("row", 6)] (IV.list (c := dP) (xs := l) (EV.var 0 (t := tD (dR l)))) (fun s H C cl fp => pg_name (i := 6) sc_single_ends.nd rfl (Or.inl rfl)) (TgOk.name 6) (fun q _ s H C cl fp => CTs.one (CT.cmp (EV.var 4 (t := tI x.1)) (EV.var 6 (t := tD (dT [q.1, q.2]))) (o_inT (ns := [q.1, q.2])))) (fun q _ _ s H C cl fp => EV.var 6 (t := tD (dP q))) sc_single_ends.nd))) EV.int o_eqI) ?_) (fun hb => ?_) fun hb => ?_)
      · rw [List.length_map]
        show decide (((deg l x.1 : Nat) : Int) = 1) = _
        simp only [decide_eq_decide]; omega
      · have hd : deg l x.1 = 1 := by simpa using hb
        refine GS.one (G1.to (G1.append 1 (d := dP (r.1, x.2)) (EV.tup (ds := [.int r.1, .int x.2]) (EA.cons (EV.var 2 (t := tI r.1)) (EA.one (EV.var 5 (t := tI x.2)))))
          (ds := (fo ++ (if j = 0 then [] else if j = 1 then (if deg l r.1 = 1 then [(r.1, r.2)] else []) else endsAt l r)).map dP) ?_) fun Γ' e => ⟨some (.ty (tI x.1)), some (.ty (tI x.2)), ?_⟩)
        · rw [List.length_map, List.length_append]
          have := hle i
          rcases hx with ⟨rfl, rfl⟩ | ⟨rfl, rfl⟩
          · show fo.length + 0 < 100000
            have : fo.length ≤ 2 * i := hle i
            omega
          · show fo.length + (if deg l r.1 = 1 then [(r.1, r.2)] else []).length < 100000
            have : fo.length ≤ 2 * i := hle i
            have h3 : (if deg l r.1 = 1 then [(r.1, r.2)] else []).length ≤ 1 := by split <;> simp
            omega
        · rw [e]
          rcases hx with ⟨rfl, rfl⟩ | ⟨rfl, rfl⟩
          · have hd : deg l r.1 = 1 := hd
            simp only [if_true, Nat.zero_add, if_neg (by decide : ¬ (1 : Nat) = 0), if_pos hd, List.map_append, List.append_nil]; rfl
          · have hd : deg l r.2 = 1 := hd
            simp only [if_neg (by decide : ¬ (1 : Nat) = 0), if_true, if_neg (by decide : ¬ (1 + 1 : Nat) = 0), if_neg (by decide : ¬ (1 + 1 : Nat) = 1), endsAt, if_pos hd, List.map_append, List.append_assoc]; rfl
      · have hd : ¬ deg l x.1 = 1 := by simpa using hb
        refine GS.nil ⟨some (.ty (tI x.1)), some (.ty (tI x.2)), ?_⟩
        rcases hx with ⟨rfl, rfl⟩ | ⟨rfl, rfl⟩
        · have hd : ¬ deg l r.1 = 1 := hd
          simp only [if_true, Nat.zero_add, if_neg (by decide : ¬ (1 : Nat) = 0), if_neg hd]; rfl
        · have hd : ¬ deg l r.2 = 1 := hd
          simp only [if_neg (by decide : ¬ (1 : Nat) = 0), if_true, if_neg (by decide : ¬ (1 + 1 : Nat) = 0), if_neg (by decide : ¬ (1 + 1 : Nat) = 1), endsAt, if_neg hd, List.append_nil]; rfl
    · rintro Γ' ⟨c, d, rfl⟩
      refine ⟨some (.ty (tI r.1)), some (.ty (tI r.2)), c, d, ?_⟩
      simp only [List.length_cons, List.length_nil, fo]
      rw [take_succ' hi, List.flatMap_append, List.flatMap_cons, List.flatMap_nil, List.append_nil]; rfl
  · rintro Γ1 ⟨a, b, c, d, rfl⟩
    refine GS.one (G1.ret (EV.cast (EV.var 1 (t := tD (dR ((l.take l.length).flatMap (endsAt l))))) ?_))
    rw [List.take_length]; rfl
end
end Rk
/-! part D14 -/
namespace Rk
open PySem PySem.Spec L2
theorem rg2 {n : Nat} (h : n ≤ 40) : RgC 0 (n : Int) 2 ((n + 1) / 2) := by
  have h1 : ∀ n : Fin 41, Builtin.Range.small 0 (n.val : Int) 2 = true ∧ Builtin.Range.rangeSize 0 (n.val : Int) 2 = (n.val + 1) / 2 := by decide +kernel
  have := h1 ⟨n, Nat.lt_succ_of_le h⟩
  exact ⟨by decide, by decide, this.1, this.2⟩
theorem atI_nat {ds : List PyData} {n : Nat} {d : PyData} (h : ds[n]? = some d) : atI ds (n : Int) = some d := by
  have hl := (List.getElem?_eq_some_iff.mp h).1
  unfold atI ixN
  rw [if_pos (by omega), if_pos (by omega)]
  simpa using h
theorem dR_nil (l : Rows) : l.map dP = [] ↔ l = [] := List.map_eq_nil_iff
section
variable {P : Program} {w : World} {K : PySem.W.Frag} {mg : Str → Option Value} {base : Heap} {X : Cx} {Γ : Gm} {e i o : Expr}
theorem sc_pieces_of : FnScope ["table", "rows", "found", "key", "ends", "row", "other", "left", "ring", "at"] ["table"] (defScope s_pieces_of) := ⟨rfl, rfl, rfl, by decide +kernel, rfl, by decide +kernel, by decide +kernel⟩
abbrev dF (F : List (List Int)) : List PyData := F.map fun r => dT r
theorem ok_pieces_of (T : Txt K mg) : DefT P w K mg base "pieces_of" 9 (A := Rows) (fun a => [tT K a]) (fun a => WF a) (fun a => tD (.tuple (dF (piecesOf a)))) := by
  refine DefT.top T 29 45 sc_pieces_of (fun _ _ _ _ _ _ us hl => match us, hl with | [_], _ => rfl) (fun _ => rfl) fun f cdv Ar outer s H E R wf hr => ?_
  have hR := wf.len
  refine GS.seq (G1.parTN 1 2 (EV.callT (T.free 4) c_lstT (EA.one (EV.rows T (hr.mono (by decide)) (EV.var 0) wf))) sc_pieces_of.nd) ?_
  let st : Nat → List Int := fun i => ((keys R).take i).filter (still R)
  have stl : ∀ i, (st i).length ≤ 40 := fun i => by
    refine Nat.le_trans (List.length_filter_le _ _) ?_
    rw [List.length_take, keys_len]; omega
  let I1 : Nat → Gm → Prop := fun i Γ => ∃ a, Γ = [some (.ty (tT K R)), some (.ty (tD (dR (strikeAll R (st i))))), some (.own (oL (dF ((st i).map fun k => [k])))), a, none, none, none, none, none, none]
  refine GS.cons (N1 := I1 (keys R).length) (G1.forN 3 I1 (IV.list (c := fun k : Int => .int k) (xs := keys R) (EV.call (ok_keys_of T) R wf (hr.mono (by decide)) (EA.one (EV.var 0)))) ⟨none, rfl⟩ sc_pieces_of.nd ?_ fun Γi h => h) ?_
  · rintro i k Γi hi ⟨a, rfl⟩
    have hk : k ∈ keys R := List.mem_of_getElem? hi
    have hst : st (i + 1) = if still R k = true then st i ++ [k] else st i := by
      show (((keys R).take (i + 1)).filter (still R)) = _
      rw [take_succ' hi, List.filter_append, List.filter_cons]
      split <;> simp [st]
    refine GS.one (G1.ifS (CT.val (EV.call (ok_is_still T) (R, k) ⟨wf, hk⟩ (hr.mono (by decide)) (EA.cons (EV.var 0) (EA.one (EV.var 3 (t := tI k)))))) (fun hb => ?_) fun hb => GS.nil ⟨some (.ty (tI k)), ?_⟩)
    · refine GS.seq (G1.append 2 (d := dT [k]) (EV.tup (ds := [.int k]) (EA.one (EV.var 3 (t := tI k)))) (ds := dF ((st i).map fun k => [k])) ?_) ?_
      · have := stl i
        show ((((st i).map fun k => [k])).map fun r => dT r).length < 100000
        rw [List.length_map, List.length_map]; omega
      refine GS.one (G1.to (G1.set 1 (EV.call (ok_struck T) (strikeAll R (st i), k) trivial (hr.mono (by decide)) (EA.cons (EV.var 1) (EA.one (EV.var 3 (t := tI k))))) sc_pieces_of.nd) fun Γ' e => ⟨some (.ty (tI k)), ?_⟩)
      rw [e, hst, if_pos hb]
      unfold strikeAll dF
      rw [List.foldl_append, List.map_append, List.map_append]; rfl
    · rw [hst, if_neg (by rw [show still R k = false from hb]; decide)]; rfl
  rintro Γ1 ⟨a, rfl⟩
  have hst : st (keys R).length = stills R := by show (((keys R).take (keys R).length).filter (still R)) = _; rw [List.take_length]; rfl
  rw [hst]
  have hstl : (stills R).length ≤ 40 := hst ▸ stl _
  let l2 := strikeAll R (stills R)
  have hl2 : l2.length ≤ 40 := Nat.le_trans (strikeAll_len _ _) hR
  let tg := peelGo l2.length l2 []
  refine GS.seq (G1.set 4 (EV.call (ok_single_ends T) l2 hl2 (hr.mono (by decide)) (EA.one (EV.var 1))) sc_pieces_of.nd) ?_
  let Iv : Nat → Gm → Prop := fun m Γ => ∃ (l : Rows) (f : List Int) (b c : Option Sl), Γ = [some (.ty (tT K R)), some (.ty (tD (dR l))), some (.own (oL (dF ((stills R).map (fun k => [k]) ++ f.map fun k => [k])))), a, some (.ty (tD (dR (sEnds l)))), b, c, none, none, none] ∧ l.length ≤ m ∧ l.length + f.length ≤ 40 ∧ peelGo m l f = tg
  let Nx : Gm → Prop := fun Γ => ∃ (b c : Option Sl), Γ = [some (.ty (tT K R)), some (.ty (tD (dR tg.1))), some (.own (oL (dF ((stills R).map (fun k => [k]) ++ tg.2.map fun k => [k])))), a, some (.ty (tD (dR (sEnds tg.1)))), b, c, none, none, none]
  refine GS.cons (N1 := Nx) (G1.whileS Iv l2.length ⟨l2, [], none, none, by simp; rfl, Nat.le_refl _, by simpa using hl2, rfl⟩ ?_) ?_
  · rintro m Γi ⟨l, f, b, c, rfl, h1, h2, h3⟩
    refine ⟨_, CT.neNil hr (EV.var 4 (t := tD (dR (sEnds l)))) (shaped_dR _), fun hb => ?_, fun hb => ?_⟩
    · have hne : sEnds l ≠ [] := fun z => by rw [z] at hb; simp at hb
      obtain ⟨e, t, he⟩ : ∃ e t, sEnds l = e :: t := by
        cases q : sEnds l with
        | nil => exact absurd q hne
        | cons e t => exact ⟨e, t, rfl⟩
      have hlt := struck_lt (l := l) (e := e) (by rw [he]; exact List.mem_cons_self)
      obtain ⟨m, rfl⟩ : ∃ m', m = m' + 1 := ⟨m - 1, by omega⟩
      have hstep : peelGo m (struck l e.2) (f ++ [e.1]) = tg := by
        rw [← h3]
        conv => rhs; unfold peelGo
        rw [he]
      refine GS.seq (G1.unp2 (u1 := tI e.1) (u2 := tI e.2) 5 6 (EV.asTu (ds := [.int e.1, .int e.2]) (EV.ixL (EV.var 4 (t := tD (dR (sEnds l)))) EV.int (by rw [he]; exact atI_zero _ _))) sc_pieces_of.nd) ?_
      refine GS.seq (G1.append 2 (d := dT [e.1]) (EV.tup (ds := [.int e.1]) (EA.one (EV.var 5 (t := tI e.1)))) (ds := dF ((stills R).map (fun k => [k]) ++ f.map fun k => [k])) ?_) ?_
      · show (((stills R).map (fun k => [k]) ++ f.map fun k => [k]).map fun r => dT r).length < 100000
        rw [List.length_map, List.length_append, List.length_map, List.length_map]; omega
      refine GS.seq (G1.set 1 (EV.call (ok_struck T) (l, e.2) trivial (hr.mono (by decide)) (EA.cons (EV.var 1) (EA.one (EV.var 6 (t := tI e.2))))) sc_pieces_of.nd) ?_
      refine GS.one (G1.to (G1.set 4 (EV.call (ok_single_ends T) (struck l e.2) (Nat.le_trans (struck_len _ _) (by omega)) (hr.mono (by decide)) (EA.one (EV.var 1 (t := tD (dR (struck l e.2)))))) sc_pieces_of.nd) fun Γ' q => ⟨m, Nat.lt_succ_self _, struck l e.2, f ++ [e.1], some (.ty (tI e.1)), some (.ty (tI e.2)), ?_, by omega, by rw [List.length_append, List.length_singleton]; omega, hstep⟩)
      rw [q, List.map_append, ← List.append_assoc]
      show _ = [some (.ty (tT K R)), some (.ty (tD (dR (struck l e.2)))), some (.own (oL ((((stills R).map (fun k => [k]) ++ f.map fun k => [k]) ++ [[e.1]]).map fun r => dT r))), a, some (.ty (tD (dR (sEnds (struck l e.2))))), some (.ty (tI e.1)), some (.ty (tI e.2)), none, none, none]
      rw [List.map_append]; rfl
    · have hnil : sEnds l = [] := by
        have : (sEnds l).map dP = [] := by simpa using hb
        exact (dR_nil _).mp this
      have : (l, f) = tg := by
        rw [← h3]
        cases m with
        | zero => rfl
        | succ m => unfold peelGo; rw [hnil]
      refine ⟨b, c, ?_⟩
      rw [← this]
  rintro Γ2 ⟨b, c, rfl⟩
  have htl := peelGo_len l2.length l2 []
  have htl : tg.1.length + tg.2.length ≤ 40 := by
    have h : tg.1.length + tg.2.length ≤ l2.length + 0 := htl
    omega
  refine GS.seq (G1.setLc 7 [("row", 5)] (f := fun r : Int × Int => .int r.1) (pd := fun _ => true) (IV.list (c := dP) (xs := tg.1) (EV.var 1 (t := tD (dR tg.1)))) (fun s H C cl fp => pg_name (i := 5) sc_pieces_of.nd rfl (Or.inl rfl)) (TgOk.name 5) (fun r _ s H C cl fp => CTs.nil) (fun r _ _ s H C cl fp => EV.ixT (EV.var 5 (t := tD (.tuple [.int r.1, .int r.2]))) EV.int (atI_zero _ _)) sc_pieces_of.nd) ?_
  let F0 := (stills R).map (fun k => [k]) ++ tg.2.map fun k => [k]
  have hF0 : F0.length ≤ 80 := by
    show ((stills R).map (fun k => [k]) ++ tg.2.map fun k => [k]).length ≤ 80
    rw [List.length_append, List.length_map, List.length_map]; omega
  have hleft : (tg.1.filter fun _ => true).map (fun r : Int × Int => PyData.int r.1) = (tg.1.map (·.1)).map .int := by rw [filter_yes, List.map_map]; rfl
  let I3 : Nat → Gm → Prop := fun i Γ => ∃ (d g : Option Sl), Γ = [some (.ty (tT K R)), some (.ty (tD (dR tg.1))), some (.own (oL (dF (F0 ++ ((rings R).take i).flatMap (ringPart tg.1))))), a, some (.ty (tD (dR (sEnds tg.1)))), b, c, some (.ty (tD (dI (tg.1.map (·.1))))), d, g]
  have hpl : ∀ i, (((rings R).take i).flatMap (ringPart tg.1)).length ≤ 1640 := fun i => by
    rw [List.length_flatMap]
    have : ∀ m : List (List Int), (∀ r ∈ m, r.length ≤ 40) → (m.map fun r => (ringPart tg.1 r).length).sum ≤ 41 * m.length := fun m => by
      induction m with
      | nil => intro _; exact Nat.le_refl _
      | cons r m ih =>
        intro h
        have h1 := ringPart_len tg.1 r
        have h2 := h r List.mem_cons_self
        have h3 := ih fun r hr => h r (List.mem_cons_of_mem _ hr)
        rw [List.map_cons, List.sum_cons, List.length_cons]; omega
    have h2 := this ((rings R).take i) fun r hr => ring_len40 wf (List.mem_of_mem_take hr)
    have h3 := rings_len R
    rw [List.length_take] at h2
    have h4 : min i (rings R).length ≤ 40 := by omega
    have := Nat.mul_le_mul_left 41 h4
    omega
  refine GS.cons (N1 := I3 (rings R).length) (G1.forN 8 I3 (IV.list (c := fun r : List Int => dT r) (xs := rings R) (EV.call (ok_rings_of T) R wf hr (EA.one (EV.var 0)))) ⟨none, none, ?_⟩ sc_pieces_of.nd ?_ fun Γi h => h) ?_
  · rw [List.take_zero, List.flatMap_nil, List.append_nil, hleft]; rfl
  · rintro i r Γi hi ⟨d, g, rfl⟩
    have hrm : r ∈ rings R := List.mem_of_getElem? hi
    have gr := mem_rings.mp hrm
    have hrl := ring_len40 wf hrm
    have hhd : atI (r.map PyData.int) 0 = some (.int (r.headD 0)) := by
      cases r with
      | nil => exact absurd rfl gr.ne
      | cons x r => exact atI_zero _ _
    have hnext : ((rings R).take (i + 1)).flatMap (ringPart tg.1) = ((rings R).take i).flatMap (ringPart tg.1) ++ ringPart tg.1 r := by
      rw [take_succ' hi, List.flatMap_append, List.flatMap_cons, List.flatMap_nil, List.append_nil]
    have hFl : (F0 ++ ((rings R).take i).flatMap (ringPart tg.1)).length ≤ 1800 := by
      rw [List.length_append]
      have := hpl i
      omega
    refine GS.one (G1.ifS (b := decide (r.headD 0 ∈ tg.1.map (·.1)) && decide (r.length % 2 = 1)) (CW.ct (CW.and (CT.cmp (EV.ixT (EV.var 8 (t := tD (dT r))) EV.int hhd) (EV.var 7 (t := tD (dI (tg.1.map (·.1))))) o_inL) fun _ => CW.and1 (CT.cast (CT.cmp (EV.bin (EV.callB (T.free 5) c_lenT (EA.one (EV.var 8 (t := tD (dT r))))) EV.int (o_modN (by decide))) EV.int o_eqI) ?_))) (fun hb => ?_) fun hb => ?_)
    · rw [List.length_map]
      simp only [decide_eq_decide]
      rw [Int.fmod_eq_emod_of_nonneg _ (by decide)]
      omega
    · have hb2 : r.headD 0 ∈ tg.1.map (·.1) ∧ r.length % 2 = 1 := by simpa using hb
      refine GS.one (G1.to (G1.append 2 (EV.var 8 (t := tD (dT r))) (ds := dF (F0 ++ ((rings R).take i).flatMap (ringPart tg.1))) ?_) fun Γ' e => ⟨some (.ty (tD (dT r))), g, ?_⟩)
      · show ((F0 ++ ((rings R).take i).flatMap (ringPart tg.1)).map fun r => dT r).length < 100000
        rw [List.length_map]; omega
      · rw [e, hnext]
        have : ringPart tg.1 r = [r] := by unfold ringPart; rw [if_pos hb2.1, if_pos hb2.2]
        rw [this]
        show _ = [some (.ty (tT K R)), some (.ty (tD (dR tg.1))), some (.own (oL ((F0 ++ (((rings R).take i).flatMap (ringPart tg.1) ++ [r])).map fun r => dT r))), a, some (.ty (tD (dR (sEnds tg.1)))), b, c, some (.ty (tD (dI (tg.1.map (·.1))))), some (.ty (tD (dT r))), g]
        rw [← List.append_assoc, List.map_append]; rfl
    · refine GS.one (G1.ifS (CT.cmp (EV.ixT (EV.var 8 (t := tD (dT r))) EV.int hhd) (EV.var 7 (t := tD (dI (tg.1.map (·.1))))) o_inL) (fun hb2 => ?_) fun hb2 => GS.nil ⟨some (.ty (tD (dT r))), g, ?_⟩)
      · have hin : r.headD 0 ∈ tg.1.map (·.1) := by simpa using hb2
        have hodd : ¬ r.length % 2 = 1 := fun z => by rw [decide_eq_true hin, decide_eq_true z] at hb; cases hb
        have hpart : ringPart tg.1 r = evens r := by unfold ringPart; rw [if_pos hin, if_neg hodd]
        refine GS.one (G1.to (G1.extend 2 (fs := dF (evens r)) (EV.cast (EV.lc (pd := fun _ => true) (f := fun m : Nat => dT [r.getD (2 * m) 0]) [("at", 9)] (IV.range3 (i := 0) (j := (r.length : Int)) (k := 2) (n := (r.length + 1) / 2) (T.free 14) EV.int (EV.cast (EV.callB (T.free 5) c_lenT (EA.one (EV.var 8 (t := tD (dT r))))) (by rw [List.length_map])) EV.int (rg2 hrl) (by show _ ≤ 100000; omega)) (fun s H C cl fp => pg_name (i := 9) sc_pieces_of.nd rfl (Or.inl rfl)) (TgOk.name 9) (fun m _ s H C cl fp => CTs.nil)
          (fun m hm _ s H C cl fp => EV.tup (ds := [.int (r.getD (2 * m) 0)]) (EA.one (EV.ixT (EV.var 8 (t := tD (dT r))) (EV.var 9 (t := tI (0 + m * 2))) ?_))) sc_pieces_of.nd) ?_) (ds := dF (F0 ++ ((rings R).take i).flatMap (ringPart tg.1))) ?_) fun Γ' e => ⟨some (.ty (tD (dT r))), g, ?_⟩)
        · have hm2 : m < (r.length + 1) / 2 := List.mem_range.mp hm
          have hm3 : 2 * m < r.length := by omega
          have e1 : (0 : Int) + (m : Int) * 2 = ((2 * m : Nat) : Int) := by omega
          rw [e1]
          refine atI_nat ?_
          rw [List.getElem?_map, List.getElem?_eq_getElem hm3, List.getD_eq_getElem?_getD, List.getElem?_eq_getElem hm3]; rfl
        · rw [filter_yes]
          unfold evens dF
          rw [List.map_map]; rfl
        · unfold dF evens
          rw [List.length_map, List.length_map, List.length_map, List.length_range]
          show _ ≤ 100000
          omega
        · rw [e, hnext, hpart]
          show _ = [some (.ty (tT K R)), some (.ty (tD (dR tg.1))), some (.own (oL ((F0 ++ (((rings R).take i).flatMap (ringPart tg.1) ++ evens r)).map fun r => dT r))), a, some (.ty (tD (dR (sEnds tg.1)))), b, c, some (.ty (tD (dI (tg.1.map (·.1))))), some (.ty (tD (dT r))), g]
          rw [← List.append_assoc, List.map_append]; rfl
      · have hin : ¬ r.headD 0 ∈ tg.1.map (·.1) := by simpa using hb2
        rw [hnext, show ringPart tg.1 r = [] by unfold ringPart; rw [if_neg hin], List.append_nil]; rfl
  · rintro Γ3 ⟨d, g, rfl⟩
    rw [List.take_length]
    refine GS.one (G1.ret (EV.callT (T.free 3) c_tupL (EA.one (EV.callB (T.free 9) (c_sortTL (l := F0 ++ (rings R).flatMap (ringPart tg.1)) ?_ (hu16 hr)) (EA.one (EV.var 2 (t := tD (.list (dF (F0 ++ (rings R).flatMap (ringPart tg.1)))))))))))
    intro p hp
    rcases List.mem_append.mp hp with hp | hp
    · rcases List.mem_append.mp hp with hp | hp
      · obtain ⟨k, _, rfl⟩ := List.mem_map.mp hp; simp
      · obtain ⟨k, _, rfl⟩ := List.mem_map.mp hp; simp
    · obtain ⟨r, hr, hp⟩ := List.mem_flatMap.mp hp
      exact ringPart_ne (mem_rings.mp hr).ne p hp
end
end Rk
/-! part D15 -/
namespace Rk
open PySem PySem.Spec L2
section
variable {P : Program} {w : World} {K : PySem.W.Frag} {mg : Str → Option Value} {base : Heap} {X : Cx} {Γ : Gm} {e i o : Expr} {es : List Expr} {ts : List Ty}
theorem EA.starL {ds : List PyData} {sp : Pos} (h : EV X Γ e (tD (.list ds))) (hr : EA X Γ es ts) (hs : starEach (.Starred e sp :: es) X.env = (true, eval e X.env) :: starEach es X.env := by rfl) : EA X Γ (.Starred e sp :: es) (ds.map tD ++ ts) :=
  ⟨fun ps pins s σ H Q I ⟨B, sa, q⟩ => (StX.pa_star h hr hs).run ps pins s σ H Q I ⟨B, sa, fun v H1 B1 s1 r1 => by
    obtain ⟨a, vs, rfl, h1, h2, h3⟩ := tL_R r1
    refine ⟨a, vs, rfl, .inr (SqL.of (s1.s _ _ h1)), B1, sa.mono s1, fun ws H2 B2 s2 r2 => q _ _ _ (s1.trans s2) ?_⟩
    exact Args.app (h3.mono s2.b) r2⟩⟩
theorem sc_least_with : FnScope ["table", "chosen", "rows", "many", "key", "ends", "left", "row", "ring"] ["table", "chosen"] (defScope s_least_with) := ⟨rfl, rfl, rfl, by decide +kernel, rfl, by decide +kernel, by decide +kernel⟩
theorem ok_least_with (T : Txt K mg) : DefT P w K mg base "least_with" 9 (A := Rows × List Int) (fun a => [tT K a.1, tD (dT a.2)]) (fun a => WF a.1) (fun a => tI (least a.1 a.2)) := by
  refine DefT.top T 30 46 sc_least_with (fun _ _ _ _ _ _ us hl => match us, hl with | [_, _], _ => rfl) (fun _ => rfl) fun f cdv Ar outer s H E a wf hr => ?_
  obtain ⟨R, ch⟩ := a
  have wf : WF R := wf
  have hR := wf.len
  refine GS.seq (G1.par2 (u1 := tD (dR R)) (u2 := tI (ch.length : Nat)) 2 3 (EV.callT (T.free 4) c_lstT (EA.one (EV.rows T (hr.mono (by decide)) (EV.var 0) wf))) (EV.cast (EV.callB (T.free 5) c_lenT (EA.one (EV.var 1 (t := tD (dT ch))))) (by rw [List.length_map])) sc_least_with.nd) ?_
  let I1 : Nat → Gm → Prop := fun i Γ => ∃ a, Γ = [some (.ty (tT K R)), some (.ty (tD (dT ch))), some (.ty (tD (dR (strikeAll R (ch.take i))))), some (.ty (tI (ch.length : Nat))), a, none, none, none, none]
  refine GS.cons (N1 := I1 ch.length) (G1.forN 4 I1 (IV.tup (c := fun k : Int => .int k) (xs := ch) (EV.var 1 (t := tD (dT ch)))) ⟨none, rfl⟩ sc_least_with.nd ?_ fun Γi h => h) ?_
  · rintro i k Γi hi ⟨a, rfl⟩
    refine GS.one (G1.to (G1.set 2 (EV.call (ok_struck T) (strikeAll R (ch.take i), k) trivial (hr.mono (by decide)) (EA.cons (EV.var 2) (EA.one (EV.var 4 (t := tI k))))) sc_least_with.nd) fun Γ' e => ⟨some (.ty (tI k)), ?_⟩)
    rw [e]
    unfold strikeAll
    rw [take_succ' hi, List.foldl_append]; rfl
  rintro Γ1 ⟨a, rfl⟩
  rw [List.take_length]
  let l1 := strikeAll R ch
  have hl1 : l1.length ≤ 40 := Nat.le_trans (strikeAll_len _ _) hR
  let I2 : Nat → Gm → Prop := fun i Γ => ∃ a, Γ = [some (.ty (tT K R)), some (.ty (tD (dT ch))), some (.ty (tD (dR (strikeAll l1 ((selfs l1).take i))))), some (.ty (tI ((ch.length + i : Nat)))), a, none, none, none, none]
  refine GS.cons (N1 := I2 (selfs l1).length) (G1.forN 4 I2 (IV.list (c := fun k : Int => .int k) (xs := selfs l1) (EV.cast (EV.lc (pd := fun r : Int × Int => decide (r.1 = r.2)) (f := fun r : Int × Int => .int r.1) [("row", 7)] (IV.list (c := dP) (xs := l1) (EV.var 2 (t := tD (dR l1)))) (fun s H C cl fp => pg_name (i := 7) sc_least_with.nd rfl (Or.inl rfl)) (TgOk.name 7)
    (fun r _ s H C cl fp => CTs.one (CT.cmp (EV.ixT (EV.var 7 (t := tD (.tuple [.int r.1, .int r.2]))) EV.int (atI_zero _ _)) (EV.ixT (EV.var 7 (t := tD (.tuple [.int r.1, .int r.2]))) EV.int rfl) o_eqI)) (fun r _ _ s H C cl fp => EV.ixT (EV.var 7 (t := tD (.tuple [.int r.1, .int r.2]))) EV.int (atI_zero _ _)) sc_least_with.nd) ?_)) ⟨a, rfl⟩ sc_least_with.nd ?_ fun Γi h => h) ?_
  · unfold selfs
    rw [List.map_map]; rfl
  · rintro i k Γi hi ⟨a, rfl⟩
    refine GS.seq (G1.addI 3 EV.int sc_least_with.nd) ?_
    refine GS.one (G1.to (G1.set 2 (EV.call (ok_struck T) (strikeAll l1 ((selfs l1).take i), k) trivial (hr.mono (by decide)) (EA.cons (EV.var 2) (EA.one (EV.var 4 (t := tI k))))) sc_least_with.nd) fun Γ' e => ⟨some (.ty (tI k)), ?_⟩)
    rw [e]
    have e1 : strikeAll l1 ((selfs l1).take (i + 1)) = struck (strikeAll l1 ((selfs l1).take i)) k := by
      unfold strikeAll
      rw [take_succ' hi, List.foldl_append]; rfl
    have e2 : ((ch.length + (i + 1) : Nat) : Int) = ((ch.length + i : Nat) : Int) + 1 := by omega
    rw [e1, e2]; rfl
  rintro Γ2 ⟨a, rfl⟩
  rw [List.take_length]
  let l2 := strikeAll l1 (selfs l1)
  have hl2 : l2.length ≤ 40 := Nat.le_trans (strikeAll_len _ _) hl1
  let tg := peelGo l2.length l2 []
  let n0 := ch.length + (selfs l1).length
  refine GS.seq (G1.set 5 (EV.call (ok_single_ends T) l2 hl2 (hr.mono (by decide)) (EA.one (EV.var 2))) sc_least_with.nd) ?_
  let Iv : Nat → Gm → Prop := fun m Γ => ∃ (l : Rows) (f : List Int), Γ = [some (.ty (tT K R)), some (.ty (tD (dT ch))), some (.ty (tD (dR l))), some (.ty (tI ((n0 + f.length : Nat)))), a, some (.ty (tD (dR (sEnds l)))), none, none, none] ∧ l.length ≤ m ∧ l.length ≤ 40 ∧ peelGo m l f = tg
  let Nx : Gm → Prop := fun Γ => Γ = [some (.ty (tT K R)), some (.ty (tD (dT ch))), some (.ty (tD (dR tg.1))), some (.ty (tI ((n0 + tg.2.length : Nat)))), a, some (.ty (tD (dR (sEnds tg.1)))), none, none, none]
  refine GS.cons (N1 := Nx) (G1.whileS Iv l2.length ⟨l2, [], rfl, Nat.le_refl _, hl2, rfl⟩ ?_) ?_
  · rintro m Γi ⟨l, f, rfl, h1, h2, h3⟩
    refine ⟨_, CT.neNil hr (EV.var 5 (t := tD (dR (sEnds l)))) (shaped_dR _), fun hb => ?_, fun hb => ?_⟩
    · have hne : sEnds l ≠ [] := fun z => by rw [z] at hb; simp at hb
      obtain ⟨e, t, he⟩ : ∃ e t, sEnds l = e :: t := by
        cases q : sEnds l with
        | nil => exact absurd q hne
        | cons e t => exact ⟨e, t, rfl⟩
      have hlt := struck_lt (l := l) (e := e) (by rw [he]; exact List.mem_cons_self)
      obtain ⟨m, rfl⟩ : ∃ m', m = m' + 1 := ⟨m - 1, by omega⟩
      have hstep : peelGo m (struck l e.2) (f ++ [e.1]) = tg := by
        rw [← h3]
        conv => rhs; unfold peelGo
        rw [he]
      refine GS.seq (G1.addI 3 EV.int sc_least_with.nd) ?_
      refine GS.seq (G1.set 2 (EV.call (ok_struck T) (l, e.2) trivial (hr.mono (by decide)) (EA.cons (EV.var 2) (EA.one (EV.ixT (ds := [.int e.1, .int e.2]) (d := .int e.2) (EV.ixL (EV.var 5 (t := tD (dR (sEnds l)))) EV.int (by rw [he]; exact atI_zero _ _)) EV.int rfl)))) sc_least_with.nd) ?_
      refine GS.one (G1.to (G1.set 5 (EV.call (ok_single_ends T) (struck l e.2) (Nat.le_trans (struck_len _ _) (by omega)) (hr.mono (by decide)) (EA.one (EV.var 2 (t := tD (dR (struck l e.2)))))) sc_least_with.nd) fun Γ' q => ⟨m, Nat.lt_succ_self _, struck l e.2, f ++ [e.1], ?_, by omega, by omega, hstep⟩)
      have e2 : ((n0 + (f ++ [e.1]).length : Nat) : Int) = ((n0 + f.length : Nat) : Int) + 1 := by rw [List.length_append, List.length_singleton]; omega
      rw [q, e2]; rfl
    · have hnil : sEnds l = [] := by
        have : (sEnds l).map dP = [] := by simpa using hb
        exact (dR_nil _).mp this
      have : (l, f) = tg := by
        rw [← h3]
        cases m with
        | zero => rfl
        | succ m => unfold peelGo; rw [hnil]
      show _ = _
      rw [← this]
  rintro Γ2 rfl
  refine GS.seq (G1.set 6 (EV.lc [("row", 7)] (f := fun r : Int × Int => .int r.1) (pd := fun _ => true) (IV.list (c := dP) (xs := tg.1) (EV.var 2 (t := tD (dR tg.1)))) (fun s H C cl fp => pg_name (i := 7) sc_least_with.nd rfl (Or.inl rfl)) (TgOk.name 7) (fun r _ s H C cl fp => CTs.nil) (fun r _ _ s H C cl fp => EV.ixT (EV.var 7 (t := tD (.tuple [.int r.1, .int r.2]))) EV.int (atI_zero _ _)) sc_least_with.nd) sc_least_with.nd) ?_
  have hleft : (tg.1.filter fun _ => true).map (fun r : Int × Int => PyData.int r.1) = (tg.1.map (·.1)).map .int := by rw [filter_yes, List.map_map]; rfl
  rw [hleft]
  refine GS.one (G1.ret (EV.cast (EV.bin (EV.var 3 (t := tI ((n0 + tg.2.length : Nat)))) (EV.callB (T.free 11) (c_sum (ns := ringHalf tg.1 (rings R))) (EA.one (EV.cast (EV.lc (pd := fun r : List Int => decide (r.headD 0 ∈ tg.1.map (·.1))) (f := fun r : List Int => .int (((r.length : Int) + 1).fdiv 2)) [("ring", 8)] (IV.list (c := fun r : List Int => dT r) (xs := rings R) (EV.call (ok_rings_of T) R wf hr (EA.one (EV.var 0)))) (fun s H C cl fp => pg_name (i := 8) sc_least_with.nd rfl (Or.inl rfl)) (TgOk.name 8)
    (fun r hm s H C cl fp => CTs.one (CT.cmp (EV.ixT (EV.var 8 (t := tD (dT r))) EV.int ?_) (EV.var 6 (t := tD (dI (tg.1.map (·.1))))) o_inL)) (fun r _ _ s H C cl fp => EV.bin (EV.bin (EV.cast (EV.callB (T.free 5) c_lenT (EA.one (EV.var 8 (t := tD (dT r))))) (by rw [List.length_map])) EV.int o_add) EV.int (o_fdivN ⟨by decide, by decide⟩)) sc_least_with.nd) ?_))) o_add) ?_))
  · have gr := mem_rings.mp hm
    cases r with
    | nil => exact absurd rfl gr.ne
    | cons x r => exact atI_zero _ _
  · unfold ringHalf
    rw [List.map_map]; rfl
  · rfl
theorem sc_first_cover : FnScope ["table", "many", "chosen", "key"] ["table"] (defScope s_first_cover) := ⟨rfl, rfl, rfl, by decide +kernel, rfl, by decide +kernel, by decide +kernel⟩
theorem ok_first_cover (T : Txt K mg) : DefT P w K mg base "first_cover" 10 (A := Rows) (fun a => [tT K a]) (fun a => WF a) (fun a => tD (dT (firstCover a))) := by
  refine DefT.top T 31 47 sc_first_cover (fun _ _ _ _ _ _ us hl => match us, hl with | [_], _ => rfl) (fun _ => rfl) fun f cdv Ar outer s H E R wf hr => ?_
  refine GS.seq (G1.parTN 1 2 (EV.call (ok_least_with T) (R, []) wf hr (EA.cons (EV.var 0) (EA.one (EV.tup (ds := []) EA.nil)))) sc_first_cover.nd) ?_
  let M := least R []
  let I1 : Nat → Gm → Prop := fun i Γ => ∃ (acc : List Int) (a : Option Sl), Γ = [some (.ty (tT K R)), some (.ty (tI M)), some (.own (oL (acc.map .int))), a] ∧ acc.length ≤ i ∧ firstGo R M ((wanted R).drop i) acc = firstCover R
  refine GS.cons (N1 := I1 (wanted R).length) (G1.forN 3 I1 (IV.list (c := fun k : Int => .int k) (xs := wanted R) (EV.call (ok_wanted_keys T) R wf (hr.mono (by decide)) (EA.one (EV.var 0)))) ⟨[], none, rfl, Nat.le_refl _, rfl⟩ sc_first_cover.nd ?_ fun Γi h => h) ?_
  · rintro i k Γi hi ⟨acc, a, rfl, hl, hg⟩
    have hil : i < (wanted R).length := (List.getElem?_eq_some_iff.mp hi).1
    have hw := wanted_len R
    have hR := wf.len
    have hd : (wanted R).drop i = k :: (wanted R).drop (i + 1) := by
      rw [List.drop_eq_getElem_cons hil, (List.getElem?_eq_some_iff.mp hi).2]
    rw [hd] at hg
    unfold firstGo at hg
    refine GS.one (G1.ifS (b := decide ((acc.length : Int) < M) && decide (least R (acc ++ [k]) = M)) (CW.ct (CW.and (CT.cast (CT.cmp (EV.callB (T.free 5) c_lenL (EA.one (EV.var 2 (t := tD (dI acc))))) (EV.var 1 (t := tI M)) o_lt) (by rw [List.length_map])) fun _ => CW.and1 (CT.cmp (EV.call (ok_least_with T) (R, acc ++ [k]) wf hr (EA.cons (EV.var 0) (EA.one (EV.cast (EV.tup (ds := acc.map .int ++ [.int k]) (by rw [List.map_append]; exact EA.starL (EV.var 2 (t := tD (dI acc))) (EA.one (EV.var 3 (t := tI k)))) ?_) ?_)))) (EV.var 1 (t := tI M)) o_eqI))) (fun hb => ?_) fun hb => ?_)
    · rw [List.length_append, List.length_map]
      show acc.length + 1 ≤ 100000
      omega
    · show tD (.tuple (acc.map .int ++ [.int k])) = tD (.tuple ((acc ++ [k]).map .int))
      rw [List.map_append]; rfl
    · have hb2 : (acc.length : Int) < M ∧ least R (acc ++ [k]) = M := by simpa using hb
      refine GS.one (G1.to (G1.append 2 (EV.var 3 (t := tI k)) (ds := acc.map .int) ?_) fun Γ' e => ⟨acc ++ [k], some (.ty (tI k)), ?_, ?_, ?_⟩)
      · rw [List.length_map]
        show acc.length < 100000
        omega
      · rw [e, List.map_append]; rfl
      · rw [List.length_append, List.length_singleton]; omega
      · rw [if_pos hb2] at hg; exact hg
    · have hb2 : ¬ ((acc.length : Int) < M ∧ least R (acc ++ [k]) = M) := fun z => by rw [decide_eq_true z.1, decide_eq_true z.2] at hb; cases hb
      refine GS.nil ⟨acc, some (.ty (tI k)), rfl, by omega, ?_⟩
      rw [if_neg hb2] at hg; exact hg
  · rintro Γ1 ⟨acc, a, rfl, hl, hg⟩
    rw [List.drop_length] at hg
    unfold firstGo at hg
    rw [← hg]
    exact GS.one (G1.ret (EV.callT (T.free 3) c_tupL (EA.one (EV.var 2 (t := tD (dI acc))))))
end
end Rk
/-! part Ly7 -/
namespace Rk
open PySem PySem.Spec L2
section
variable {X : Cx} {Γ : Gm} {e i o a b : Expr} {pos p p2 : Pos}
theorem IV.map {α β : Type} {tg it : Expr} {ut : β → Ty} {g : α → β} {xs : List α} (h : IV X Γ tg it ut (xs.map g)) : IV X Γ tg it (fun a => ut (g a)) xs :=
  PI.imp h fun σ H R ⟨B, sa, q⟩ => ⟨B, sa, fun J H1 B1 Gd Y s1 w hG hY hl => by
    rw [List.length_map] at w hl
    refine q J H1 B1 Gd Y s1 w hG (fun i x H2 H3 B2 e1 e2 y => ?_) hl
    obtain ⟨c, B3, h1, h2, h3⟩ := hY i x H2 H3 B2 e1 e2 y
    rw [List.getElem?_map] at h1
    cases q2 : xs[i]? with
    | none => rw [q2] at h1; cases h1
    | some a =>
      rw [q2] at h1
      have := Option.some.inj h1
      subst this
      exact ⟨a, B3, rfl, h2, h3⟩⟩
/-- zip of two tuples of numbers -/
theorem IV.zipI {ns ms : List Int} {e1 e2 : Expr} {tpos : Pos} {elts : List Expr} {kk : Nat} (hm : X.mg "zip" = none) (h1 : EV X Γ e1 (tD (dT ns))) (h2 : EV X Γ e2 (tD (dT ms))) (hg : Gl X "zip" := by rfl) (hs : starEach [e1, e2] X.env = (false, eval e1 X.env) :: starEach [e2] X.env := by rfl) (hs2 : starEach [e2] X.env = [(false, eval e2 X.env)] := by rfl) (hpl : (backTo pos (starEach [e2] X.env)).any (·.1) = false := by rfl) :
    IV X Γ (.Tuple elts kk tpos) (.Call (.Name "zip" p) [e1, e2] [] pos) (fun a : Int × Int => tD (.tuple [.int a.1, .int a.2])) (ns.zip ms) := by
  have h := IV.zipT (tpos := tpos) (elts := elts) (kk := kk) (p := p) hm h1 h2 hg hs hs2 hpl
  have e : (ns.map PyData.int).zip (ms.map .int) = (ns.zip ms).map fun p => (PyData.int p.1, PyData.int p.2) := by
    rw [List.zip_map]; rfl
  rw [e] at h
  exact h.map
/-- a list made by a comprehension, one's own -/
theorem lc_own {α : Type} {g : TG} {u : α → Ty} {xs : List α} {Γt : α → Gm} {pd : α → Bool} {f : α → PyData} {js vs : List Nat} {σ : St} {H B : Hp} {Q : VK} (hT : TgOk g js u (wipeG Γ vs) Γt) (hj : ∀ j ∈ js, j ∈ vs) (sa : Sa Γ σ H B)
    (q : ∀ D acc H' B', Stp H B H' B' → H D = none → B' D = none → H' D = some (.lst acc) → acc.length ≤ lim → Da B' acc ((xs.filter pd).map f) → Q (.ref D) H') :
    tLc (IVr Γ u xs) g (fun σ H Q => ∃ a, a ∈ xs ∧ rb (Γt a) (pd a) σ H Q) (fun σ H Q => ∃ a, a ∈ xs ∧ pd a = true ∧ rd (Γt a) (tD (f a)) σ H Q) vs σ H Q := by
  refine ⟨B, sa, fun J H1 B1 Gd Y s1 w hG hY hl D hD => lc_it (g := g) (tt := fun σ H Q => ∃ a, a ∈ xs ∧ rb (Γt a) (pd a) σ H Q) (te := fun σ H Q => ∃ a, a ∈ xs ∧ pd a = true ∧ rd (Γt a) (tD (f a)) σ H Q) (vs := vs) (σ := σ) (H1 := H1) (D := D) (Qd := fun H => Q (.ref D) H) w (fun i Hc => ∃ acc Bc, Stp H1 B1 Hc Bc ∧ Bc D = none ∧ Hc D = some (.lst acc) ∧ Da Bc acc (((xs.take i).filter pd).map f)) ?_ ?_ ?_ ?_⟩
  · exact ⟨[], B1, Stp.grow s1.s (same_upd hD), s1.s.free hD, upd_same, by simpa using Da.nil⟩
  · rintro i Hc _ ⟨acc, Bc, st, _⟩
    exact hG Hc Bc st.b st.s
  · rintro i x Hc H2 hi ⟨acc, Bc, st, hb, hd, ha⟩ hy
    obtain ⟨a, B3, hx, s3, rx⟩ := hY i x Hc H2 Bc st.b st.s hy
    have hm : a ∈ xs := List.mem_of_getElem? hx
    have st3 := st.trans s3
    refine hT a x _ _ B3 _ ((sa.mono (s1.trans st3)).wipe vs) rx fun σ' sa' hl' hsame => ⟨?_, a, hm, B3, sa', fun H4 B4 s4 => ?_⟩
    · rw [wipe_eq hl' fun i hi => hsame i fun z => hi (hj i z), wipe_wipe fun v hv => hv]
    · have hb4 : B4 D = none := (s3.trans s4).f D hb (by rw [hd]; exact fun z => nomatch z)
      have hd4 : H4 D = some (.lst acc) := s4.h _ _ (s3.h _ _ hd)
      have hacc : acc.length ≤ i := by
        rw [ha.length, List.length_map]
        exact Nat.le_trans (List.length_filter_le _ _) (by rw [List.length_take]; omega)
      have htk : xs.take (i + 1) = xs.take i ++ [a] := by
        rw [List.take_add_one, hx]; rfl
      cases hp : pd a with
      | true =>
        refine iteT ⟨a, hm, hp, B4, sa'.mono s4, fun v H5 B5 s5 r5 => ⟨acc, s5.h _ _ hd4, lim_lt (by omega), acc ++ [v], B5, ?_, s5.f D hb4 (by rw [hd4]; exact fun z => nomatch z), upd_same, ?_⟩⟩
        · have st5 := st3.trans (s4.trans s5)
          have hb5 : B5 D = none := s5.f D hb4 (by rw [hd4]; exact fun z => nomatch z)
          refine ⟨fun b o e => ?_, st5.b, fun b o e => ?_, st5.f⟩
          · rw [upd_ne (ne_of_none e hD)]; exact st5.h b o e
          · rw [upd_ne (ne_of_none e hb5)]; exact st5.s b o e
        · rw [htk, List.filter_append, List.map_append]
          refine (ha.mono (s3.b.trans (s4.b.trans s5.b))).append ?_
          rw [List.filter_cons, if_pos hp]
          exact .cons r5 .nil
      | false =>
        refine iteF ⟨acc, B4, st3.trans s4, hb4, hd4, ?_⟩
        rw [htk, List.filter_append, List.map_append, List.filter_cons, if_neg (by rw [hp]; decide)]
        simpa using ha.mono (s3.b.trans s4.b)
  · rintro Hc ⟨acc, Bc, st, hb, hd, ha⟩
    rw [List.take_of_length_le (Nat.le_refl _)] at ha
    refine q D acc Hc Bc (s1.trans st) (s1.h.free hD) hb hd ?_ ha
    rw [ha.length, List.length_map]
    exact Nat.le_trans (List.length_filter_le _ _) hl
theorem Ste.takeOwn {H0 B0 Bl H B : Hp} {σ : St} {j : Nat} {D : Addr} {ho : HO} {os : Osp} (s : Ste H0 B0 Bl Γ σ H B) (hj : j < Γ.length) (h0 : H0 D = none) (hB : B D = none) (hH : H D = some ho) (hf : ∀ (m : Nat) (om : Osp), Γ[m]? = some (some (Sl.own om)) → σ[m]? ≠ some (some (.ref D))) (ok : os.ok D ho B) :
    Ste H0 B0 Bl (Γ.set j (some (.own os))) (σ.set j (some (.ref D))) H B := by
  have hil : j < σ.length := by rw [s.sa.ln]; exact hj
  refine ⟨⟨by simp [s.sa.ln], s.sa.sm, fun m t e => ?_⟩, s.sp, s.lb, fun m u e => ?_, fun m k om ok' q e1 e2 e3 e4 => ?_⟩
  · rcases getset e with ⟨_, z⟩ | ⟨hn, z⟩
    · cases z
    · rw [List.getElem?_set_ne (Ne.symm hn)]; exact s.sa.ty m t z
  · rcases getset e with ⟨rfl, z⟩ | ⟨hn, z⟩
    · cases z
      exact ⟨D, ho, by rw [List.getElem?_set_self hil], h0, hB, hH, ok⟩
    · rw [List.getElem?_set_ne (Ne.symm hn)]; exact s.ow m u z
  · rcases getset e1 with ⟨rfl, z⟩ | ⟨hn, z1⟩
    · rcases getset e2 with ⟨rfl, z⟩ | ⟨hn2, z2⟩
      · rfl
      · rw [List.getElem?_set_self hil] at e3; cases e3
        rw [List.getElem?_set_ne (Ne.symm hn2)] at e4
        exact absurd e4 (hf k ok' z2)
    · rcases getset e2 with ⟨rfl, z⟩ | ⟨hn2, z2⟩
      · rw [List.getElem?_set_self hil] at e4; cases e4
        rw [List.getElem?_set_ne (Ne.symm hn)] at e3
        exact absurd e3 (hf m om z1)
      · rw [List.getElem?_set_ne (Ne.symm hn)] at e3
        rw [List.getElem?_set_ne (Ne.symm hn2)] at e4
        exact s.di m k om ok' q z1 z2 e3 e4
/-- x = [..] by a comprehension, one's own from then on (x seen from a block) -/
theorem G1.setLcO {C K : Gm → Prop} {t : Ty} {α : Type} {tg iter elt : Expr} {ifs : List Expr} {scope : Scope} {g : TG} {ut : α → Ty} {xs : List α} {Γt : α → Gm} {pd : α → Bool} {f : α → PyData} {js : List Nat} {y : Str} {py : Pos} (i : Nat) (own : List (Str × Nat)) (hi : IV X Γ tg iter ut xs) (hg : ∀ (s : Shared) (H : Hp) (C : Addr) (cl : List (Str × Addr)) (fp : List Addr), PG (X.blk s H scope (compEnvC scope cl C X.env) fp) tg g)
    (hT : TgOk g js ut (wipeG Γ (own.map (·.2))) Γt)
    (ht : ∀ a ∈ xs, ∀ (s : Shared) (H : Hp) (C : Addr) (cl : List (Str × Addr)) (fp : List Addr), CTs (X.blk s H scope (compEnvC scope cl C X.env) fp) (Γt a) ifs (pd a))
    (he : ∀ a ∈ xs, pd a = true → ∀ (s : Shared) (H : Hp) (C : Addr) (cl : List (Str × Addr)) (fp : List Addr), EV (X.blk s H scope (compEnvC scope cl C X.env) fp) (Γt a) elt (tD (f a)))
    (hN : X.N.Nodup) (hlen : i < Γ.length := by exact Nat.le_of_ble_eq_true rfl) (hy : X.N[i]? = some y := by rfl) (hx : Loc X.env.scope y := by first | exact .inl rfl | exact .inr rfl) (hsw : swapsWith (.ListComp elt [⟨tg, iter, ifs, 0⟩] scope pos) (some (.Name y py)) p.line X.env = pure false := by rfl)
    (hf : X.fn y = true ∨ X.env.scope.names.lookup y = some .local := by first | exact .inl rfl | exact .inr rfl)
    (ok : blkC X.N X.env.scope scope own = true := by kernel_rfl) (hc : X.calm = true := by rfl) (hj : ∀ j ∈ js, j ∈ own.map (·.2) := by decide) (hs : ∀ x, foldedSetIterable iter X.env x = pure x := by intro _; rfl) :
    G1 X Γ (.Assign [.Name y py] (.ListComp elt [⟨tg, iter, ifs, 0⟩] scope pos) p) (· = Γ.set i (some (.own (oL ((xs.filter pd).map f))))) C K t :=
  PS.imp (ps_set hN hy hx (pe_lc (own := own) hc hN hi (blkOk_by ok) hg (fun s H C cl fp => ⟨fun pins s' σ H' Q I ⟨a, hm, q⟩ => (ht a hm s H C cl fp).run pins s' σ H' Q I q⟩) (fun s H C cl fp => ⟨fun pins s' σ H' Q I ⟨a, hm, hp, q⟩ => (he a hm hp s H C cl fp).run pins s' σ H' Q I q⟩) hs) hsw hf)
    fun D σ H ⟨H0, B0, Bl, B, s, n, _⟩ => lc_own hT hj s.sa fun L acc H' B' k h1 h2 h3 h4 h5 => by
      have s' := s.step k
      refine n _ _ _ B' rfl (s'.takeOwn (os := oL ((xs.filter pd).map f)) hlen (s.sp.h.free h1) h2 h3 (fun m om e e2 => ?_) ⟨acc, rfl, h4, h5⟩)
      obtain ⟨q, hh, a1, _, _, a4, _⟩ := s.ow m om e
      rw [e2] at a1; cases a1
      rw [h1] at a4; cases a4
/-! more tests -/
theorem inV_non : ∀ ns : List Int, inV .non (ns.map V.int) = false
  | [] => rfl
  | n :: ns => by
    have ih := inV_non ns
    unfold inV at ih ⊢
    rw [List.map_cons, List.any_cons, ih]; rfl
def optIn (x : Option Int) (ns : List Int) : Bool := match x with
  | none => false
  | some k => decide (k ∈ ns)
theorem o_niO {x : Option Int} {ns : List Int} : Opt X (compareOp .NotIn) (tD (optD x)) (tD (dI ns)) (tB (!optIn x ns)) := by
  cases x with
  | some k => exact o_niL (k := k)
  | none =>
    exact Opt.of op_notIn_seq fun u y H B Q sm rx ry q => by
      cases tN_R rx
      obtain ⟨a, xs, rfl, h1, h2, h3⟩ := tL_R ry
      cases h3.ints
      refine ⟨a, _, rfl, .inl (SqL.of (sm _ _ h1)), rfl, flat_ints ns, q _ _ _ (Stp.refl sm) ?_⟩
      rw [if_pos rfl, inV_non]; exact .bl _
theorem shaped_dI (l : List Int) : SeqAt.shaped (dI l) = true := by
  unfold SeqAt.shaped
  have h1 : PyData.canLay0 (dI l) = true := by
    show PyData.canLay0 (.list (l.map .int)) = true
    simp only [PyData.canLay0]; exact lay_ints l
  have h2 : PyData.depth (dI l) ≤ 64 := by
    have := depth_ints l
    show PyData.depth (.list (l.map .int)) ≤ 64
    simp only [PyData.depth]; omega
  rw [h1, decide_eq_true h2]; rfl
theorem ints_nil (l : List Int) : decide (l.map PyData.int = []) = decide (l = []) := by simp
theorem EV.neNil {ns : List Int} {k : Nat} (hr : Room k X.A) (h : EV X Γ e (tD (dI ns))) (hm : behindInMarks .NotEq (.List [] p2) = false := by rfl) : EV X Γ (.Compare e [.NotEq] [.List [] p2] pos) (tB (!decide (ns = []))) :=
  EV.cast (EV.cmp h (EV.lst (ds := []) EA.nil) (o_neD hr.units (shaped_dI ns) rfl) hm) (by rw [eqv_nil, ints_nil])
theorem EV.eqNil {ns : List Int} {k : Nat} (hr : Room k X.A) (h : EV X Γ e (tD (dI ns))) (hm : behindInMarks .Eq (.List [] p2) = false := by rfl) : EV X Γ (.Compare e [.Eq] [.List [] p2] pos) (tB (decide (ns = []))) :=
  EV.cast (EV.cmp h (EV.lst (ds := []) EA.nil) (o_eqD hr.units (shaped_dI ns) rfl) hm) (by rw [eqv_nil, ints_nil])
theorem CT.eqNil {ns : List Int} {k : Nat} (hr : Room k X.A) (h : EV X Γ e (tD (dI ns))) (hm : behindInMarks .Eq (.List [] p2) = false := by rfl) : CT X Γ (.Compare e [.Eq] [.List [] p2] pos) (decide (ns = [])) :=
  CT.cast (CT.cmp h (EV.lst (ds := []) EA.nil) (o_eqD hr.units (shaped_dI ns) rfl) hm) (by rw [eqv_nil, ints_nil])
theorem CT.neNilI {ns : List Int} {k : Nat} (hr : Room k X.A) (h : EV X Γ e (tD (dI ns))) (hm : behindInMarks .NotEq (.List [] p2) = false := by rfl) : CT X Γ (.Compare e [.NotEq] [.List [] p2] pos) (!decide (ns = [])) :=
  CT.cast (CT.cmp h (EV.lst (ds := []) EA.nil) (o_neD hr.units (shaped_dI ns) rfl) hm) (by rw [eqv_nil, ints_nil])
theorem eqv_dI (a b : List Int) : PyData.eqv (dI a) (dI b) = decide (a = b) := by
  show PyData.eqv (.list (a.map .int)) (.list (b.map .int)) = _
  rw [PyData.eqv]; exact eqv_ints a b
theorem o_eqLI {a b : List Int} {k : Nat} (hr : Room k X.A) : Opt X (compareOp .Eq) (tD (dI a)) (tD (dI b)) (tB (decide (a = b))) := by
  have := o_eqD (X := X) hr.units (shaped_dI a) (shaped_dI b)
  rw [eqv_dI] at this; exact this
end
end Rk
/-! part M12 -/
namespace Rk
/-! ### what can be left; an order that leaves it -/
def isAsc (l : List Int) : Bool := (l.zip l.tail).all fun p => decide (p.1 < p.2)
def isSet (R : Rows) (l : List Int) : Bool := allIn l (keys R) && isAsc l
def rivalsIn (R : Rows) (k : Int) (rows : List Int) : List Int := rows.filter fun o => decide (nw R o = nw R k) && !still R o
def keptRight (R : Rows) (rows : List Int) (k : Int) : Bool :=
  if k ∈ rows then true else if still R k = true then rows.any fun o => decide (nw R o = k) else !decide (rivalsIn R k rows = []) || rows.any fun o => decide (waited R o = some k)
def isLeft (R : Rows) (rows : List Int) : Bool :=
  !(decide ((sset (rows.map (nw R))).length < rows.length) || !(keys R).all (keptRight R rows)) && (rings R).all fun r => !allIn r rows
def arrive0 (R : Rows) (rows : List Int) : List Int := (keys R).filter fun k => !still R k && decide (nw R k ∈ (rows.filter fun k => !still R k).map (nw R))
def arrStep (rows f r : List Int) : List Int := if allIn r f = true then f.erase ((r.filter fun k => !decide (k ∈ rows)).headD 0) else f
def arriving (R : Rows) (rows : List Int) : List Int := (rings R).foldl (arrStep rows) (arrive0 R rows)
def othersOf (R : Rows) (rest : List Int) (k : Int) : List Int := rest.filter fun o => decide (nw R o = nw R k) && !decide (o = k)
def optMem (x : Option Int) (ns : List Int) : Bool := match x with
  | none => false
  | some k => decide (k ∈ ns)
def canGo (R : Rows) (rows rest : List Int) (k : Int) : Bool := !optMem (waited R k) rest && (!decide (k ∈ rows) || decide (othersOf R rest k = []))
def pickGo (R : Rows) (rows rest : List Int) : Int := (rest.find? (canGo R rows rest)).getD (lst rest)
def leaveGo (R : Rows) (rows : List Int) : Nat → List Int → List Int → List Int
  | 0, _, order => order
  | n + 1, rest, order => if rest = [] then order else leaveGo R rows n (rest.filter fun o => !decide (o = pickGo R rows rest)) (order ++ [pickGo R rows rest])
def phaseA (R : Rows) (rows : List Int) : List Int := leaveGo R rows (arriving R rows).length (arriving R rows) []
def orderLeaving (R : Rows) (rows : List Int) : List Int := phaseA R rows ++ (keys R).filter fun k => !decide (k ∈ phaseA R rows)
def rivals (R : Rows) (k : Int) : List Int := (wantsOf R (nw R k)).filter fun o => !decide (o = k)
def fate (R : Rows) (k : Int) : String :=
  if still R k = true then (if rivals R k = [] then "always" else if (rivals R k).any (fun o => decide (waitingFor R o = [])) = true then "never" else "sometimes")
  else if (decide (waitingFor R k = []) && (rivals R k).all (still R)) = true then "always" else "sometimes"
theorem arrive_sub {R : Rows} {rows : List Int} : ∀ k ∈ arriving R rows, k ∈ keys R ∧ still R k = false := by
  have : ∀ (l : List (List Int)) (f : List Int), (∀ k ∈ f, k ∈ keys R ∧ still R k = false) → ∀ k ∈ l.foldl (arrStep rows) f, k ∈ keys R ∧ still R k = false := fun l => by
    induction l with
    | nil => intro f h; exact h
    | cons r l ih =>
      intro f h
      rw [List.foldl_cons]
      refine ih _ fun k hk => ?_
      unfold arrStep at hk
      split at hk
      · exact h k (List.mem_of_mem_erase hk)
      · exact h k hk
  refine this _ _ fun k hk => ?_
  obtain ⟨h1, h2⟩ := List.mem_filter.mp hk
  exact ⟨h1, by have := (Bool.and_eq_true_iff.mp h2).1; simpa using this⟩
theorem arrive_len {R : Rows} {rows : List Int} : (arriving R rows).length ≤ R.length := by
  have : ∀ (l : List (List Int)) (f : List Int), (l.foldl (arrStep rows) f).length ≤ f.length := fun l => by
    induction l with
    | nil => intro f; exact Nat.le_refl _
    | cons r l ih =>
      intro f
      rw [List.foldl_cons]
      refine Nat.le_trans (ih _) ?_
      unfold arrStep
      split
      · exact List.length_erase_le
      · exact Nat.le_refl _
  refine Nat.le_trans (this _ _) ?_
  rw [← keys_len R]
  exact List.length_filter_le _ _
theorem pick_mem {R : Rows} {rows rest : List Int} (h : rest ≠ []) : pickGo R rows rest ∈ rest := by
  unfold pickGo
  cases e : rest.find? (canGo R rows rest) with
  | none => exact lst_mem h
  | some a => exact List.mem_of_find?_eq_some e
end Rk
/-! part D16 -/
namespace Rk
open PySem PySem.Spec L2
section
variable {P : Program} {w : World} {K : PySem.W.Frag} {mg : Str → Option Value} {base : Heap} {X : Cx} {Γ : Gm} {e i o : Expr}
theorem sc_is_ascending : FnScope ["numbers", "one", "later"] ["numbers"] (defScope s_is_ascending) := ⟨rfl, rfl, rfl, by decide +kernel, rfl, by decide +kernel, by decide +kernel⟩
theorem ok_is_ascending (T : Txt K mg) : DefT P w K mg base "is_ascending" 1 (A := List Int) (fun a => [tD (dT a)]) (fun _ => True) (fun a => tB (isAsc a)) := by
  refine DefT.top T 3 19 sc_is_ascending (fun _ _ _ _ _ _ us hl => match us, hl with | [_], _ => rfl) (fun _ => rfl) fun f cdv Ar outer s H E l hp hr => ?_
  refine GS.one (G1.ret (EV.callB (T.free 6) c_allM (EA.one (EV.cast (EV.lc (pd := fun _ => true) (f := fun p : Int × Int => .bool (decide (p.1 < p.2))) [("one", 1), ("later", 2)] (IV.zipI (T.free 8) (EV.var 0 (t := tD (dT l))) (EV.cast (EV.slT (EV.var 0 (t := tD (dT l))) (EO.some EV.int) EO.none) (by rw [cut1]))) (fun s H C cl fp => pg_tup rfl (pgs_cons (pg_name (i := 1) sc_is_ascending.nd rfl (Or.inl rfl)) (pgs_cons (pg_name (i := 2) sc_is_ascending.nd rfl (Or.inl rfl)) pgs_nil))) (TgOk.pair 1 2) (fun p _ s H C cl fp => CTs.nil)
    (fun p _ _ s H C cl fp => EV.cmp (EV.var 1 (t := tI p.1)) (EV.var 2 (t := tI p.2)) o_lt) sc_is_ascending.nd) (by rw [filter_yes])))))
theorem sc_is_set : FnScope ["table", "thing", "key"] ["table", "thing"] (defScope s_is_set) := ⟨rfl, rfl, rfl, by decide +kernel, rfl, by decide +kernel, by decide +kernel⟩
/-- all([k in table for k in thing]) -/
theorem ok_is_set (T : Txt K mg) : DefT P w K mg base "is_set" 4 (A := Rows × List Int) (fun a => [tT K a.1, tD (dT a.2)]) (fun a => WF a.1) (fun a => tB (isSet a.1 a.2)) := by
  refine DefT.top T 9 25 sc_is_set (fun _ _ _ _ _ _ us hl => match us, hl with | [_, _], _ => rfl) (fun _ => rfl) fun f cdv Ar outer s H E a wf hr => ?_
  obtain ⟨R, l⟩ := a
  refine GS.one (G1.ret (EV.cast (EV.and (EV.callB (T.free 0) (c_isiT (n := "tuple") (b := true) (by decide +kernel)) (EA.cons (EV.var 1) (EA.one (EV.tyName (n := "tuple") (T.free 3))))) fun _ => EV.and (EV.callB (T.free 6) c_allM (EA.one (EV.cast (EV.lc (pd := fun _ => true) (f := fun k : Int => .bool (decide (k ∈ keys R))) [("key", 2)] (IV.tup (EV.var 1 (t := tD (dT l)))) (fun s H C cl fp => pg_name (i := 2) sc_is_set.nd rfl (Or.inl rfl)) (TgOk.name 2) (fun p _ s H C cl fp => CTs.nil)
    (fun k _ _ s H C cl fp => EV.cmp (EV.var 2 (t := tI k)) (EV.var 0) (o_inT' T hr wf)) sc_is_set.nd) (by rw [filter_yes])))) fun _ => EV.one (EV.call (ok_is_ascending T) l trivial (hr.mono (by decide)) (EA.one (EV.var 1)))) ?_))
  rfl
theorem sc_need_rows : FnScope ["table", "rows"] ["table", "rows"] (defScope s_need_rows) := ⟨rfl, rfl, rfl, by decide +kernel, rfl, by decide +kernel, by decide +kernel⟩
theorem ok_need_rows (T : Txt K mg) : DefT P w K mg base "need_rows" 5 (A := Rows × List Int) (fun a => [tT K a.1, tD (dT a.2)]) (fun a => WF a.1 ∧ isSet a.1 a.2 = true) (fun a => tN) := by
  refine DefT.top T 10 26 sc_need_rows (fun _ _ _ _ _ _ us hl => match us, hl with | [_, _], _ => rfl) (fun _ => rfl) fun f cdv Ar outer s H E a hp hr => ?_
  refine GS.seq (G1.expr (EV.call (ok_need_table T) a.1 hp.1 (hr.mono (by decide)) (EA.one (EV.var 0)))) ?_
  exact GS.one (G1.ifF (CT.cast (CT.not (CT.val (EV.call (ok_is_set T) a hp.1 hr (EA.cons (EV.var 0) (EA.one (EV.var 1)))))) (by rw [hp.2]; rfl)) (GS.nil rfl))
theorem sc_is_order : FnScope ["table", "thing", "key"] ["table", "thing"] (defScope s_is_order) := ⟨rfl, rfl, rfl, by decide +kernel, rfl, by decide +kernel, by decide +kernel⟩
theorem ok_is_order (T : Txt K mg) : DefT P w K mg base "is_order" 4 (A := Rows × List Int) (fun a => [tT K a.1, tD (dT a.2)]) (fun a => WF a.1 ∧ a.2.Perm (keys a.1)) (fun a => tB true) := by
  refine DefT.top T 11 27 sc_is_order (fun _ _ _ _ _ _ us hl => match us, hl with | [_, _], _ => rfl) (fun _ => rfl) fun f cdv Ar outer s H E a hp hr => ?_
  obtain ⟨R, l⟩ := a
  obtain ⟨wf, hpm⟩ : WF R ∧ l.Perm (keys R) := hp
  have hall : (l.all fun k => decide (k ∈ keys R)) = true := List.all_eq_true.mpr fun k hk => decide_eq_true (hpm.mem_iff.mp hk)
  have hsrt : srt l = keys R := by
    refine (srt_uniq hpm.symm ?_).symm
    unfold keys
    exact List.pairwise_map.mpr (wf.asc.imp fun h => Int.le_of_lt h)
  refine GS.seq (G1.ifF (CT.cast (CW.ct (CW.or (CT.not (CT.val (EV.callB (T.free 0) (c_isiT (n := "tuple") (b := true) (by decide +kernel)) (EA.cons (EV.var 1) (EA.one (EV.tyName (n := "tuple") (T.free 3))))))) fun _ => CW.or1 (CT.not (CT.val (EV.callB (T.free 6) c_allM (EA.one (EV.cast (EV.lc (pd := fun _ => true) (f := fun k : Int => .bool (decide (k ∈ keys R))) [("key", 2)] (IV.tup (EV.var 1 (t := tD (dT l)))) (fun s H C cl fp => pg_name (i := 2) sc_is_order.nd rfl (Or.inl rfl)) (TgOk.name 2) (fun p _ s H C cl fp => CTs.nil)
    (fun k _ _ s H C cl fp => EV.cmp (EV.var 2 (t := tI k)) (EV.var 0) (o_inT' T hr wf)) sc_is_order.nd) (by rw [filter_yes])))))))) ?_) (GS.nil rfl)) ?_
  · rw [hall]; rfl
  exact GS.one (G1.ret (EV.cast (EV.cmp (EV.callB (T.free 9) (c_sortIT (hu16 hr)) (EA.one (EV.var 1 (t := tD (dT l))))) (EV.call (ok_keys_of T) R wf hr (EA.one (EV.var 0))) (o_eqLI hr)) (by rw [hsrt]; simp)))
theorem sc_need_order : FnScope ["table", "order"] ["table", "order"] (defScope s_need_order) := ⟨rfl, rfl, rfl, by decide +kernel, rfl, by decide +kernel, by decide +kernel⟩
theorem ok_need_order (T : Txt K mg) : DefT P w K mg base "need_order" 5 (A := Rows × List Int) (fun a => [tT K a.1, tD (dT a.2)]) (fun a => WF a.1 ∧ a.2.Perm (keys a.1)) (fun a => tN) := by
  refine DefT.top T 12 28 sc_need_order (fun _ _ _ _ _ _ us hl => match us, hl with | [_, _], _ => rfl) (fun _ => rfl) fun f cdv Ar outer s H E a hp hr => ?_
  refine GS.seq (G1.expr (EV.call (ok_need_table T) a.1 hp.1 (hr.mono (by decide)) (EA.one (EV.var 0)))) ?_
  exact GS.one (G1.ifF (CT.not (CT.val (EV.call (ok_is_order T) a hp hr (EA.cons (EV.var 0) (EA.one (EV.var 1)))))) (GS.nil rfl))
theorem sc_is_kept_right : FnScope ["table", "key", "rows", "rivals", "one"] ["table", "key", "rows"] (defScope s_is_kept_right) := ⟨rfl, rfl, rfl, by decide +kernel, rfl, by decide +kernel, by decide +kernel⟩
theorem ok_is_kept_right (T : Txt K mg) : DefT P w K mg base "is_kept_right" 7 (A := Rows × Int × List Int) (fun a => [tT K a.1, tI a.2.1, tD (dT a.2.2)]) (fun a => WF a.1 ∧ a.2.1 ∈ keys a.1 ∧ ∀ k ∈ a.2.2, k ∈ keys a.1) (fun a => tB (keptRight a.1 a.2.2 a.2.1)) := by
  refine DefT.top T 32 48 sc_is_kept_right (fun _ _ _ _ _ _ us hl => match us, hl with | [_, _, _], _ => rfl) (fun _ => rfl) fun f cdv Ar outer s H E a hp hr => ?_
  obtain ⟨R, k, rows⟩ := a
  obtain ⟨wf, hk, hrows⟩ : WF R ∧ k ∈ keys R ∧ ∀ k ∈ rows, k ∈ keys R := hp
  refine GS.ifR (CT.cmp (EV.var 1 (t := tI k)) (EV.var 2 (t := tD (dT rows))) o_inT) (fun h => GS.one (G1.ret (EV.cast EV.bl ?_))) fun h1 => ?_
  · unfold keptRight
    rw [if_pos (by simpa using h)]
  have h1 : k ∉ rows := by simpa using h1
  refine GS.ifR (CT.val (EV.call (ok_is_still T) (R, k) ⟨wf, hk⟩ hr (EA.cons (EV.var 0) (EA.one (EV.var 1))))) (fun h => GS.one (G1.ret (EV.cast (EV.callB (T.free 7) c_anyM (EA.one (EV.cast (EV.lc (pd := fun _ => true) (f := fun o : Int => .bool (decide (nw R o = k))) [("one", 4)] (IV.tup (EV.var 2 (t := tD (dT rows)))) (fun s H C cl fp => pg_name (i := 4) sc_is_kept_right.nd rfl (Or.inl rfl)) (TgOk.name 4) (fun p _ s H C cl fp => CTs.nil)
    (fun o ho _ s H C cl fp => EV.cmp (EV.sub T (hr.mono (by decide)) (EV.var 0) (EV.var 4 (t := tI o)) wf (hrows o ho)) (EV.var 1 (t := tI k)) o_eqI) sc_is_kept_right.nd) (by rw [filter_yes])))) ?_))) fun h2 => ?_
  · unfold keptRight
    rw [if_neg h1, if_pos h]
  refine GS.seq (G1.setLc 3 [("one", 4)] (pd := fun o : Int => decide (nw R o = nw R k) && !still R o) (f := fun o : Int => .int o) (IV.tup (EV.var 2 (t := tD (dT rows)))) (fun s H C cl fp => pg_name (i := 4) sc_is_kept_right.nd rfl (Or.inl rfl)) (TgOk.name 4) (fun o ho s H C cl fp => CTs.one (CW.ct (CW.and (CT.cmp (EV.sub T (hr.mono (by decide)) (EV.var 0) (EV.var 4 (t := tI o)) wf (hrows o ho)) (EV.sub T (hr.mono (by decide)) (EV.var 0) (EV.var 1 (t := tI k)) wf hk) o_eqI) fun _ => CW.and1 (CT.not (CT.val (EV.call (ok_is_still T) (R, o) ⟨wf, hrows o ho⟩ hr (EA.cons (EV.var 0) (EA.one (EV.var 4 (t := tI o)))))))))) (fun o _ _ s H C cl fp => EV.var 4 (t := tI o)) sc_is_kept_right.nd) ?_
  refine GS.one (G1.ret (EV.cast (EV.or (EV.neNil (ns := rivalsIn R k rows) hr (EV.var 3)) fun _ => EV.one (EV.callB (T.free 7) c_anyM (EA.one (EV.cast (EV.lc (pd := fun _ => true) (f := fun o : Int => .bool (decide (waited R o = some k))) [("one", 4)] (IV.tup (EV.var 2 (t := tD (dT rows)))) (fun s H C cl fp => pg_name (i := 4) sc_is_kept_right.nd rfl (Or.inl rfl)) (TgOk.name 4) (fun p _ s H C cl fp => CTs.nil)
    (fun o ho _ s H C cl fp => EV.cmp (EV.call (ok_waited T) (R, o) ⟨wf, hrows o ho⟩ hr (EA.cons (EV.var 0) (EA.one (EV.var 4 (t := tI o))))) (EV.var 1 (t := tI k)) o_eqO) sc_is_kept_right.nd) (by rw [filter_yes]))))) ?_))
  show _ = tB (keptRight R rows k)
  unfold keptRight
  rw [if_neg h1, if_neg (by rw [show still R k = false from h2]; decide)]
theorem sc_is_left : FnScope ["table", "rows", "wanted", "key", "ring"] ["table", "rows"] (defScope s_is_left) := ⟨rfl, rfl, rfl, by decide +kernel, rfl, by decide +kernel, by decide +kernel⟩
theorem ok_is_left (T : Txt K mg) : DefT P w K mg base "is_left" 9 (A := Rows × List Int) (fun a => [tT K a.1, tD (dT a.2)]) (fun a => WF a.1 ∧ (∀ k ∈ a.2, k ∈ keys a.1) ∧ a.2.length ≤ 40) (fun a => tB (isLeft a.1 a.2)) := by
  refine DefT.top T 33 49 sc_is_left (fun _ _ _ _ _ _ us hl => match us, hl with | [_, _], _ => rfl) (fun _ => rfl) fun f cdv Ar outer s H E a hp hr => ?_
  obtain ⟨R, rows⟩ := a
  obtain ⟨wf, hrows, hlen⟩ : WF R ∧ (∀ k ∈ rows, k ∈ keys R) ∧ rows.length ≤ 40 := hp
  refine GS.seq (G1.setLc 2 [("key", 3)] (pd := fun _ => true) (f := fun o : Int => .int (nw R o)) (IV.tup (EV.var 1 (t := tD (dT rows)))) (fun s H C cl fp => pg_name (i := 3) sc_is_left.nd rfl (Or.inl rfl)) (TgOk.name 3) (fun o ho s H C cl fp => CTs.nil) (fun o ho _ s H C cl fp => EV.sub T (hr.mono (by decide)) (EV.var 0) (EV.var 3 (t := tI o)) wf (hrows o ho)) sc_is_left.nd) ?_
  have hw : (rows.filter fun _ => true).map (fun o : Int => PyData.int (nw R o)) = (rows.map (nw R)).map .int := by rw [filter_yes, List.map_map]; rfl
  rw [hw]
  have hwl : (rows.map (nw R)).length ≤ 40 := by rw [List.length_map]; exact hlen
  refine GS.ifR (b := decide ((sset (rows.map (nw R))).length < rows.length) || !(keys R).all (keptRight R rows)) (CW.ct (CW.or (CT.cast (CT.cmp (EV.callB (T.free 5) (c_lenS (ns := rows.map (nw R)) (Nat.lt_of_le_of_lt (sset_len _) (Nat.lt_of_le_of_lt hwl (by decide)))) (EA.one (EV.callT (T.free 10) (c_setL (Nat.le_trans hwl (by decide))) (EA.one (EV.var 2))))) (EV.callB (T.free 5) c_lenL (EA.one (EV.var 2 (t := tD (dI (rows.map (nw R))))))) o_lt) ?_) fun _ => CW.or1 (CT.not (CT.val (EV.callB (T.free 6) c_allM (EA.one (EV.cast (EV.lc (pd := fun _ => true) (f := fun k : Int => .bool (keptRight R rows k)) [("key", 3)] (IV.list (c := fun k : Int => .int k) (xs := keys R) (EV.call (ok_keys_of T) R wf (hr.mono (by decide)) (EA.one (EV.var 0)))) (fun s H C cl fp => pg_name (i := 3) sc_is_left.nd rfl (Or.inl rfl)) (TgOk.name 3) (fun p _ s H C cl fp => CTs.nil)
    (fun k hk _ s H C cl fp => EV.call (ok_is_kept_right T) (R, k, rows) ⟨wf, hk, hrows⟩ (hr.mono (by decide)) (EA.cons (EV.var 0) (EA.cons (EV.var 3 (t := tI k)) (EA.one (EV.var 1))))) sc_is_left.nd) (by rw [filter_yes])))))))) (fun h => GS.one (G1.ret (EV.cast EV.bl ?_))) fun h => ?_
  · rw [List.length_map, List.length_map]
    simp only [decide_eq_decide]; omega
  · show _ = tB (isLeft R rows)
    unfold isLeft
    rw [h]; rfl
  refine GS.one (G1.ret (EV.cast (EV.callB (T.free 6) c_allM (EA.one (EV.cast (EV.lc (pd := fun _ => true) (f := fun r : List Int => .bool (!allIn r rows)) [("ring", 4)] (IV.list (c := fun r : List Int => dT r) (xs := rings R) (EV.call (ok_rings_of T) R wf hr (EA.one (EV.var 0)))) (fun s H C cl fp => pg_name (i := 4) sc_is_left.nd rfl (Or.inl rfl)) (TgOk.name 4) (fun p _ s H C cl fp => CTs.nil)
    (fun r _ _ s H C cl fp => EV.not (EV.callB (T.free 6) c_allM (EA.one (EV.cast (EV.lc (pd := fun _ => true) (f := fun k : Int => .bool (decide (k ∈ rows))) [("key", 3)] (IV.tup (EV.var 4 (t := tD (dT r)))) (fun s H C cl fp => pg_name (i := 3) sc_is_left.nd rfl (Or.inl rfl)) (TgOk.name 3) (fun p _ s H C cl fp => CTs.nil)
      (fun k _ _ s H C cl fp => EV.cmp (EV.var 3 (t := tI k)) (EV.var 1 (t := tD (dT rows))) o_inT) sc_is_left.nd) (by rw [filter_yes]))))) sc_is_left.nd) (by rw [filter_yes])))) ?_))
  show _ = tB (isLeft R rows)
  unfold isLeft
  rw [h]; rfl
theorem sc_can_be_left : FnScope ["table", "rows"] ["table", "rows"] (defScope s_can_be_left) := ⟨rfl, rfl, rfl, by decide +kernel, rfl, by decide +kernel, by decide +kernel⟩
theorem ok_can_be_left (T : Txt K mg) : DefT P w K mg base "can_be_left" 10 (A := Rows × List Int) (fun a => [tT K a.1, tD (dT a.2)]) (fun a => WF a.1 ∧ isSet a.1 a.2 = true ∧ (∀ k ∈ a.2, k ∈ keys a.1) ∧ a.2.length ≤ 40) (fun a => tB (isLeft a.1 a.2)) := by
  refine DefT.top T 34 50 sc_can_be_left (fun _ _ _ _ _ _ us hl => match us, hl with | [_, _], _ => rfl) (fun _ => rfl) fun f cdv Ar outer s H E a hp hr => ?_
  refine GS.seq (G1.expr (EV.call (ok_need_rows T) a ⟨hp.1, hp.2.1⟩ (hr.mono (by decide)) (EA.cons (EV.var 0) (EA.one (EV.var 1))))) ?_
  exact GS.one (G1.ret (EV.call (ok_is_left T) a ⟨hp.1, hp.2.2.1, hp.2.2.2⟩ hr (EA.cons (EV.var 0) (EA.one (EV.var 1)))))
end
end Rk
/-! part D17 -/
namespace Rk
open PySem PySem.Spec L2
section
variable {P : Program} {w : World} {K : PySem.W.Frag} {mg : Str → Option Value} {base : Heap} {X : Cx} {Γ : Gm} {e i o : Expr}
theorem EV.stillR {R : Rows} {k : Int} {p pos : Pos} {es : List Expr} (T : Txt X.K X.mg) (wf : WF R) (hk : k ∈ keys R) (hr : Room 6 X.A) (ha : EA X Γ (e :: es) [tT X.K R, tI k]) (hg : Gl X "is_still" := by rfl) (he : starEach (e :: es) X.env = (false, eval e X.env) :: starEach es X.env := by rfl) (hpl : (backTo pos (starEach es X.env)).any (·.1) = false := by rfl) :
    EV X Γ (.Call (.Name "is_still" p) (e :: es) [] pos) (tB (still R k)) := EV.call (ok_is_still (P := X.prog) (w := X.w) (base := X.base) T) (R, k) ⟨wf, hk⟩ hr ha hg (by decide) he hpl
theorem sc_arriving : FnScope ["table", "rows", "wanted", "found", "ring", "key"] ["table", "rows"] (defScope s_arriving) := ⟨rfl, rfl, rfl, by decide +kernel, rfl, by decide +kernel, by decide +kernel⟩
theorem ok_arriving (T : Txt K mg) : DefT P w K mg base "arriving" 9 (A := Rows × List Int) (fun a => [tT K a.1, tD (dT a.2)]) (fun a => WF a.1 ∧ (∀ k ∈ a.2, k ∈ keys a.1) ∧ (∀ r ∈ rings a.1, allIn r a.2 = false)) (fun a => tD (dI (arriving a.1 a.2))) := by
  refine DefT.top T 35 51 sc_arriving (fun _ _ _ _ _ _ us hl => match us, hl with | [_, _], _ => rfl) (fun _ => rfl) fun f cdv Ar outer s H E a hp hr => ?_
  obtain ⟨R, rows⟩ := a
  obtain ⟨wf, hrows, hring⟩ : WF R ∧ (∀ k ∈ rows, k ∈ keys R) ∧ (∀ r ∈ rings R, allIn r rows = false) := hp
  have hR := wf.len
  refine GS.seq (G1.set 2 (u := tD (dI ((rows.filter fun k => !still R k).map (nw R)))) (EV.cast (EV.lc [("key", 5)] (pd := fun k : Int => !still R k) (f := fun k : Int => .int (nw R k)) (IV.tup (EV.var 1 (t := tD (dT rows)))) (fun s H C cl fp => pg_name (i := 5) sc_arriving.nd rfl (Or.inl rfl)) (TgOk.name 5) (fun k hk s H C cl fp => CTs.one (CT.not (CT.val (EV.stillR T wf (hrows k hk) (hr.mono (by decide)) (EA.cons (EV.var 0) (EA.one (EV.var 5 (t := tI k)))))))) (fun k hk _ s H C cl fp => EV.sub T (hr.mono (by decide)) (EV.var 0) (EV.var 5 (t := tI k)) wf (hrows k hk)) sc_arriving.nd) (by rw [dI, List.map_map]; rfl)) sc_arriving.nd) ?_
  refine GS.cons (N1 := fun Γ => Γ = [some (.ty (tT K R)), some (.ty (tD (dT rows))), some (.ty (tD (dI ((rows.filter fun k => !still R k).map (nw R))))), some (.own (oL ((arrive0 R rows).map .int))), none, none]) (G1.to (G1.setLcO 3 [("key", 5)] (pd := fun k : Int => !still R k && decide (nw R k ∈ (rows.filter fun k => !still R k).map (nw R))) (f := fun k : Int => .int k) (IV.list (c := fun k : Int => .int k) (xs := keys R) (EV.call (ok_keys_of T) R wf (hr.mono (by decide)) (EA.one (EV.var 0)))) (fun s H C cl fp => pg_name (i := 5) sc_arriving.nd rfl (Or.inl rfl)) (TgOk.name 5)
    (fun k hk s H C cl fp => CTs.one (CW.ct (CW.and (CT.not (CT.val (EV.stillR T wf hk (hr.mono (by decide)) (EA.cons (EV.var 0) (EA.one (EV.var 5 (t := tI k))))))) fun _ => CW.and1 (CT.cmp (EV.sub T (hr.mono (by decide)) (EV.var 0) (EV.var 5 (t := tI k)) wf hk) (EV.var 2 (t := tD (dI ((rows.filter fun k => !still R k).map (nw R))))) o_inL)))) (fun k hk _ s H C cl fp => EV.var 5 (t := tI k)) sc_arriving.nd) fun Γ' e => e) ?_
  rintro Γ1 rfl
  let st : Nat → List Int := fun i => ((rings R).take i).foldl (arrStep rows) (arrive0 R rows)
  have stl : ∀ i, (st i).length ≤ 40 := fun i => by
    have : ∀ (l : List (List Int)) (f : List Int), (l.foldl (arrStep rows) f).length ≤ f.length := fun l => by
      induction l with
      | nil => intro f; exact Nat.le_refl _
      | cons r l ih =>
        intro f
        rw [List.foldl_cons]
        refine Nat.le_trans (ih _) ?_
        unfold arrStep
        split
        · exact List.length_erase_le
        · exact Nat.le_refl _
    refine Nat.le_trans (this _ _) (Nat.le_trans ?_ hR)
    rw [← keys_len R]
    exact List.length_filter_le _ _
  let I1 : Nat → Gm → Prop := fun i Γ => ∃ a, Γ = [some (.ty (tT K R)), some (.ty (tD (dT rows))), some (.ty (tD (dI ((rows.filter fun k => !still R k).map (nw R))))), some (.own (oL ((st i).map .int))), a, none]
  refine GS.cons (N1 := I1 (rings R).length) (G1.forN 4 I1 (IV.list (c := fun r : List Int => dT r) (xs := rings R) (EV.call (ok_rings_of T) R wf hr (EA.one (EV.var 0)))) ⟨none, rfl⟩ sc_arriving.nd ?_ fun Γi h => h) ?_
  · rintro i r Γi hi ⟨a, rfl⟩
    have hrm : r ∈ rings R := List.mem_of_getElem? hi
    have hnr := hring r hrm
    have hsucc : st (i + 1) = arrStep rows (st i) r := by
      show ((rings R).take (i + 1)).foldl (arrStep rows) (arrive0 R rows) = _
      rw [take_succ' hi, List.foldl_append]; rfl
    refine GS.one (G1.ifS (b := allIn r (st i)) (CT.val (EV.callB (T.free 6) c_allM (EA.one (EV.cast (EV.lc (pd := fun _ => true) (f := fun k : Int => .bool (decide (k ∈ st i))) [("key", 5)] (IV.tup (EV.var 4 (t := tD (dT r)))) (fun s H C cl fp => pg_name (i := 5) sc_arriving.nd rfl (Or.inl rfl)) (TgOk.name 5) (fun p _ s H C cl fp => CTs.nil)
      (fun k _ _ s H C cl fp => EV.cmp (EV.var 5 (t := tI k)) (EV.var 3 (t := tD (dI (st i)))) o_inL) sc_arriving.nd) (by rw [filter_yes]))))) (fun hb => ?_) fun hb => GS.nil ⟨some (.ty (tD (dT r))), ?_⟩)
    · have hex : (r.filter fun k => !decide (k ∈ rows)) ≠ [] := fun z => by
        have : allIn r rows = true := List.all_eq_true.mpr fun k hk => by
          have := List.filter_eq_nil_iff.mp z k hk
          simpa using this
        rw [hnr] at this; cases this
      obtain ⟨x, t, hx⟩ : ∃ x t, (r.filter fun k => !decide (k ∈ rows)) = x :: t := by
        cases q : (r.filter fun k => !decide (k ∈ rows)) with
        | nil => exact absurd q hex
        | cons x t => exact ⟨x, t, rfl⟩
      have hxr : x ∈ r := (List.mem_filter.mp (by rw [hx]; exact List.mem_cons_self : x ∈ r.filter fun k => !decide (k ∈ rows))).1
      have hxs : x ∈ st i := by
        have := List.all_eq_true.mp hb x hxr
        simpa using this
      refine GS.one (G1.to (G1.remove 3 (ns := st i) (k := x) (EV.ixL (EV.lc [("key", 5)] (pd := fun k : Int => !decide (k ∈ rows)) (f := fun k : Int => .int k) (IV.tup (EV.var 4 (t := tD (dT r)))) (fun s H C cl fp => pg_name (i := 5) sc_arriving.nd rfl (Or.inl rfl)) (TgOk.name 5) (fun k _ s H C cl fp => CTs.one (CT.cmp (EV.var 5 (t := tI k)) (EV.var 1 (t := tD (dT rows))) o_niT)) (fun k _ _ s H C cl fp => EV.var 5 (t := tI k)) sc_arriving.nd) EV.int (by rw [hx]; exact atI_zero _ _)) hxs) fun Γ' e => ⟨some (.ty (tD (dT r))), ?_⟩)
      rw [e, hsucc]
      unfold arrStep
      rw [if_pos hb, hx]; rfl
    · rw [hsucc]
      unfold arrStep
      rw [if_neg (by rw [hb]; decide)]; rfl
  · rintro Γ1 ⟨a, rfl⟩
    refine GS.one (G1.ret (EV.cast (EV.var 3 (t := tD (dI (st (rings R).length)))) ?_))
    show tD (dI (((rings R).take (rings R).length).foldl (arrStep rows) (arrive0 R rows))) = _
    rw [List.take_length]; rfl
theorem sc_order_leaving : FnScope ["table", "rows", "rest", "order", "key", "others", "one"] ["table", "rows"] (defScope s_order_leaving) := ⟨rfl, rfl, rfl, by decide +kernel, rfl, by decide +kernel, by decide +kernel⟩
theorem optIn_mem (x : Option Int) (ns : List Int) : optIn x ns = optMem x ns := by cases x <;> rfl
theorem leaveGo_len {R : Rows} {rows : List Int} : ∀ (n : Nat) (rest order : List Int), (leaveGo R rows n rest order).length ≤ order.length + rest.length
  | 0, rest, order => Nat.le_add_right _ _
  | n + 1, rest, order => by
    unfold leaveGo
    split
    · exact Nat.le_add_right _ _
    · rename_i h
      have h1 := leaveGo_len (R := R) (rows := rows) n (rest.filter fun o => !decide (o = pickGo R rows rest)) (order ++ [pickGo R rows rest])
      have h2 := filter_lt (p := fun o => !decide (o = pickGo R rows rest)) (pick_mem (R := R) (rows := rows) h) (by simp)
      rw [List.length_append, List.length_singleton] at h1
      omega
theorem ok_order_leaving (T : Txt K mg) : DefT P w K mg base "order_leaving" 10 (A := Rows × List Int) (fun a => [tT K a.1, tD (dT a.2)]) (fun a => WF a.1 ∧ isSet a.1 a.2 = true ∧ (∀ k ∈ a.2, k ∈ keys a.1) ∧ a.2.length ≤ 40 ∧ isLeft a.1 a.2 = true) (fun a => tD (dT (orderLeaving a.1 a.2))) := by
  refine DefT.top T 36 52 sc_order_leaving (fun _ _ _ _ _ _ us hl => match us, hl with | [_, _], _ => rfl) (fun _ => rfl) fun f cdv Ar outer s H E a hp hr => ?_
  obtain ⟨R, rows⟩ := a
  obtain ⟨wf, hset, hrows, hlen, hleft⟩ : WF R ∧ isSet R rows = true ∧ (∀ k ∈ rows, k ∈ keys R) ∧ rows.length ≤ 40 ∧ isLeft R rows = true := hp
  have hR := wf.len
  have hnr : ∀ r ∈ rings R, allIn r rows = false := fun r hr => by
    unfold isLeft at hleft
    have := List.all_eq_true.mp (Bool.and_eq_true_iff.mp hleft).2 r hr
    simpa using this
  refine GS.seq (G1.expr (EV.call (ok_need_rows T) (R, rows) ⟨wf, hset⟩ (hr.mono (by decide)) (EA.cons (EV.var 0) (EA.one (EV.var 1))))) ?_
  refine GS.seq (G1.ifF (CT.cast (CT.not (CT.val (EV.call (ok_is_left T) (R, rows) ⟨wf, hrows, hlen⟩ hr (EA.cons (EV.var 0) (EA.one (EV.var 1)))))) (by show (!isLeft R rows) = false; rw [hleft]; rfl)) (GS.nil rfl)) ?_
  refine GS.seq (G1.tupTN 2 3 (EV.call (ok_arriving T) (R, rows) ⟨wf, hrows, hnr⟩ hr (EA.cons (EV.var 0) (EA.one (EV.var 1)))) sc_order_leaving.nd) ?_
  let Iv : Nat → Gm → Prop := fun m Γ => ∃ (rest order : List Int) (a b : Option Sl), Γ = [some (.ty (tT K R)), some (.ty (tD (dT rows))), some (.ty (tD (dI rest))), some (.own (oL (order.map .int))), a, b, none] ∧ rest.length ≤ m ∧ rest.length + order.length ≤ 40 ∧ (∀ k ∈ rest, k ∈ keys R) ∧ leaveGo R rows m rest order = phaseA R rows
  let Nx : Gm → Prop := fun Γ => ∃ (a b c : Option Sl), Γ = [some (.ty (tT K R)), some (.ty (tD (dT rows))), c, some (.own (oL ((phaseA R rows).map .int))), a, b, none]
  refine GS.cons (N1 := Nx) (G1.whileS Iv (arriving R rows).length ⟨arriving R rows, [], none, none, rfl, Nat.le_refl _, by have := arrive_len (R := R) (rows := rows); simp; omega, fun k hk => (arrive_sub k hk).1, rfl⟩ ?_) ?_
  · rintro m Γi ⟨rest, order, a, b, rfl, h1, h2, h3, h4⟩
    refine ⟨_, CT.neNilI hr (EV.var 2 (t := tD (dI rest))), fun hb => ?_, fun hb => ?_⟩
    · have hne : rest ≠ [] := by simpa using hb
      obtain ⟨m, rfl⟩ : ∃ m', m = m' + 1 := by
        cases m with
        | zero => exact absurd (List.eq_nil_of_length_eq_zero (Nat.le_zero.mp h1)) hne
        | succ m => exact ⟨m, rfl⟩
      have hstep : leaveGo R rows m (rest.filter fun o => !decide (o = pickGo R rows rest)) (order ++ [pickGo R rows rest]) = phaseA R rows := by
        rw [← h4]
        conv => rhs; unfold leaveGo
        rw [if_neg hne]
      have hpm := pick_mem (R := R) (rows := rows) hne
      let If : Nat → Gm → Prop := fun i Γ => ∃ (a b : Option Sl), Γ = [some (.ty (tT K R)), some (.ty (tD (dT rows))), some (.ty (tD (dI rest))), some (.own (oL (order.map .int))), a, b, none] ∧ (∀ x ∈ rest.take i, canGo R rows rest x = false) ∧ (0 < i → a = some (.ty (tI (lst (rest.take i)))))
      refine GS.cons (N1 := fun Γ => ∃ b, Γ = [some (.ty (tT K R)), some (.ty (tD (dT rows))), some (.ty (tD (dI rest))), some (.own (oL (order.map .int))), some (.ty (tI (pickGo R rows rest))), b, none]) (G1.forN 4 If (IV.list (c := fun k : Int => .int k) (xs := rest) (EV.var 2 (t := tD (dI rest)))) ⟨a, b, rfl, fun x hx => by simp at hx, fun z => absurd z (Nat.lt_irrefl _)⟩ sc_order_leaving.nd ?_ ?_) ?_
      · rintro i k Γf hi ⟨a, b, rfl, g1, g2⟩
        have hk : k ∈ keys R := h3 k (List.mem_of_getElem? hi)
        refine GS.seq (G1.setLc 5 [("one", 6)] (pd := fun o : Int => decide (nw R o = nw R k) && !decide (o = k)) (f := fun o : Int => .int o) (IV.list (c := fun k : Int => .int k) (xs := rest) (EV.var 2 (t := tD (dI rest)))) (fun s H C cl fp => pg_name (i := 6) sc_order_leaving.nd rfl (Or.inl rfl)) (TgOk.name 6) (fun o ho s H C cl fp => CTs.one (CW.ct (CW.and (CT.cmp (EV.sub T (hr.mono (by decide)) (EV.var 0) (EV.var 6 (t := tI o)) wf (h3 o ho)) (EV.sub T (hr.mono (by decide)) (EV.var 0) (EV.var 4 (t := tI k)) wf hk) o_eqI) fun _ => CW.and1 (CT.cmp (EV.var 6 (t := tI o)) (EV.var 4 (t := tI k)) o_neI)))) (fun o _ _ s H C cl fp => EV.var 6 (t := tI o)) sc_order_leaving.nd) ?_
        refine GS.one (G1.ifS (b := canGo R rows rest k) (CT.cast (CW.ct (CW.and (CT.cmp (EV.call (ok_waited T) (R, k) ⟨wf, hk⟩ (hr.mono (by decide)) (EA.cons (EV.var 0) (EA.one (EV.var 4 (t := tI k))))) (EV.var 2 (t := tD (dI rest))) o_niO) fun _ => CW.and1 (CW.ct (CW.or (CT.cmp (EV.var 4 (t := tI k)) (EV.var 1 (t := tD (dT rows))) o_niT) fun _ => CW.or1 (CT.eqNil (ns := othersOf R rest k) hr (EV.var 5)))))) ?_) (fun hb => ?_) fun hb => GS.nil ⟨some (.ty (tI k)), some (.ty (tD (dI (othersOf R rest k)))), rfl, ?_, fun _ => ?_⟩)
        · rw [optIn_mem]; rfl
        · refine GS.one (G1.brk ⟨some (.ty (tD (dI (othersOf R rest k)))), ?_⟩)
          have : pickGo R rows rest = k := by
            unfold pickGo
            have hf : rest.find? (canGo R rows rest) = some k := by
              refine List.find?_eq_some_iff_getElem.mpr ⟨hb, i, (List.getElem?_eq_some_iff.mp hi).1, (List.getElem?_eq_some_iff.mp hi).2, fun j hj => ?_⟩
              have hjl : j < rest.length := Nat.lt_trans hj (List.getElem?_eq_some_iff.mp hi).1
              have := g1 rest[j] (List.mem_take_iff_getElem.mpr ⟨j, by omega, rfl⟩)
              rw [this]; rfl
            rw [hf]; rfl
          rw [this]; rfl
        · intro x hx
          rw [take_succ' hi] at hx
          rcases List.mem_append.mp hx with hx | hx
          · exact g1 x hx
          · rw [List.mem_singleton.mp hx]; exact hb
        · rw [take_succ' hi, lst_snoc]
      · rintro Γf ⟨a, b, rfl, g1, g2⟩
        rw [List.take_length] at g1 g2
        have ha := g2 (List.length_pos_iff.mpr hne)
        subst ha
        refine ⟨b, ?_⟩
        have : pickGo R rows rest = lst rest := by
          unfold pickGo
          rw [List.find?_eq_none.mpr fun x hx => by rw [g1 x hx]; decide]; rfl
        rw [this]
      · rintro Γf ⟨b, rfl⟩
        refine GS.seq (G1.append 3 (EV.var 4 (t := tI (pickGo R rows rest))) (ds := order.map .int) ?_) ?_
        · rw [List.length_map]
          show order.length < 100000
          omega
        refine GS.one (G1.to (G1.setLc 2 [("one", 6)] (pd := fun o : Int => !decide (o = pickGo R rows rest)) (f := fun o : Int => .int o) (IV.list (c := fun k : Int => .int k) (xs := rest) (EV.var 2 (t := tD (dI rest)))) (fun s H C cl fp => pg_name (i := 6) sc_order_leaving.nd rfl (Or.inl rfl)) (TgOk.name 6) (fun o ho s H C cl fp => CTs.one (CT.cmp (EV.var 6 (t := tI o)) (EV.var 4 (t := tI (pickGo R rows rest))) o_neI)) (fun o _ _ s H C cl fp => EV.var 6 (t := tI o)) sc_order_leaving.nd) fun Γ' e => ⟨m, Nat.lt_succ_self _, rest.filter fun o => !decide (o = pickGo R rows rest), order ++ [pickGo R rows rest], some (.ty (tI (pickGo R rows rest))), b, ?_, ?_, ?_, fun k hk => h3 k (List.mem_filter.mp hk).1, hstep⟩)
        · rw [e, List.map_append]; rfl
        · have := filter_lt (p := fun o => !decide (o = pickGo R rows rest)) hpm (by simp)
          omega
        · have := filter_lt (p := fun o => !decide (o = pickGo R rows rest)) hpm (by simp)
          rw [List.length_append, List.length_singleton]; omega
    · have hnil : rest = [] := by simpa using hb
      have : order = phaseA R rows := by
        rw [← h4, hnil]
        cases m with
        | zero => rfl
        | succ m => unfold leaveGo; rw [if_pos rfl]
      exact ⟨a, b, some (.ty (tD (dI rest))), by rw [← this]⟩
  · rintro Γ1 ⟨a, b, c, rfl⟩
    have hpl : (phaseA R rows).length ≤ 40 := by
      have h1 := leaveGo_len (R := R) (rows := rows) (arriving R rows).length (arriving R rows) []
      have h2 := arrive_len (R := R) (rows := rows)
      have h1 : (phaseA R rows).length ≤ 0 + (arriving R rows).length := h1
      omega
    refine GS.one (G1.ret (EV.cast (EV.callT (T.free 3) c_tupL (EA.one (EV.bin (EV.var 3 (t := tD (dI (phaseA R rows)))) (EV.lc [("key", 4)] (pd := fun k : Int => !decide (k ∈ phaseA R rows)) (f := fun k : Int => .int k) (IV.list (c := fun k : Int => .int k) (xs := keys R) (EV.call (ok_keys_of T) R wf (hr.mono (by decide)) (EA.one (EV.var 0)))) (fun s H C cl fp => pg_name (i := 4) sc_order_leaving.nd rfl (Or.inl rfl)) (TgOk.name 4) (fun k _ s H C cl fp => CTs.one (CT.cmp (EV.var 4 (t := tI k)) (EV.var 3 (t := tD (dI (phaseA R rows)))) o_niL)) (fun k _ _ s H C cl fp => EV.var 4 (t := tI k)) sc_order_leaving.nd) (o_catL ?_)))) ?_))
    · rw [List.length_map, List.length_map]
      have := List.length_filter_le (fun k => !decide (k ∈ phaseA R rows)) (keys R)
      rw [keys_len] at this
      show _ ≤ 100000
      omega
    · show _ = tD (.tuple ((phaseA R rows ++ (keys R).filter fun k => !decide (k ∈ phaseA R rows)).map .int))
      rw [List.map_append]
end
end Rk
/-! part M13 -/
namespace Rk
def mostLeft (R : Rows) : List Int := (wanted R).filter fun k => !decide (k ∈ (pures R).map lmax)
def pieceKeys (R : Rows) (p : List Int) : List Int := sset (p ++ p.map (nw R))
def isPiece (R : Rows) (t : List Int) : Bool := !(decide (t = []) || !allIn t (keys R)) && (decide (t.length = 1) || (decide (t.length % 2 = 1) && decide (t ∈ rings R)))
def halves (l : List (List Int)) : List Int := l.map fun r => ((r.length : Int) + 1).fdiv 2
/-- what shows that no fewer can be held -/
structure Shows (R : Rows) (ks : List Int) (ps : List (List Int)) : Prop where
  key : ∀ k ∈ ks, inB k
  asc : isAsc ks = true
  cov : isCover R ks = true
  pcs : ∀ p ∈ ps, isPiece R p = true
  nod : ps.Nodup
  srt : srtT ps = ps
  len : ps.length ≤ 50
  low : ∀ p ∈ ps, p.length ≤ 40
  dis : (ps.flatMap (pieceKeys R)).Nodup
  sum : (halves ps).sum = ks.length
  few : (ps.flatMap (pieceKeys R)).length ≤ 3000
theorem pieceKeys_len (R : Rows) (p : List Int) : (pieceKeys R p).length ≤ 2 * p.length := by
  have := sset_len (p ++ p.map (nw R))
  rw [List.length_append, List.length_map] at this
  unfold pieceKeys; omega
end Rk
/-! part D18 -/
namespace Rk
open PySem PySem.Spec L2
theorem foldl_max (l : List Int) : ∀ n : Int, (n :: l).foldl max n = l.foldl max n ∧ l.foldl max n ∈ n :: l ∧ ∀ y ∈ n :: l, y ≤ l.foldl max n := by
  induction l with
  | nil => intro n; simp
  | cons a l ih =>
    intro n
    obtain ⟨_, h1, h2⟩ := ih (max n a)
    refine ⟨by simp, ?_, fun y hy => ?_⟩
    · rw [List.foldl_cons]
      rcases List.mem_cons.mp h1 with e | h
      · rw [e]
        rcases Int.le_total n a with h | h
        · rw [Int.max_eq_right h]; simp
        · rw [Int.max_eq_left h]; simp
      · exact List.mem_cons_of_mem _ (List.mem_cons_of_mem _ h)
    · rw [List.foldl_cons]
      have h3 := h2 (max n a) List.mem_cons_self
      rcases List.mem_cons.mp hy with rfl | hy
      · exact Int.le_trans (Int.le_max_left _ _) h3
      · rcases List.mem_cons.mp hy with rfl | hy
        · exact Int.le_trans (Int.le_max_right _ _) h3
        · exact h2 y (List.mem_cons_of_mem _ hy)
section
variable {P : Program} {w : World} {K : PySem.W.Frag} {mg : Str → Option Value} {base : Heap} {X : Cx} {Γ : Gm} {e i o : Expr}
/-- max of a tuple of numbers -/
theorem c_maxT {ns : List Int} (h : ns ≠ []) (hu : X.A.units + 16 < cLine) (hc : X.calm = true := by rfl) : Clt X (.builtin "max") [tD (dT ns)] (tI (lmax ns)) := by
  rintro pins s σ H xs us Q I r ⟨B, sm, ar, q⟩
  obtain ⟨v, rfl, h'⟩ := ar.one
  obtain ⟨a, xs, rfl, h1, h2, h3⟩ := tT_R h'
  cases h3.ints
  obtain ⟨its, rv, pl, hz⟩ := I.tuple (SqT.of (sm _ _ h1))
  rw [Vals.ref1 r]
  cases ns with
  | nil => exact absurd rfl h
  | cons n ns =>
    obtain ⟨as, ra⟩ := Dp.readsAll I _ _ _ (Da.dp ((Da.ofInts (n :: ns) : Da B _ _).mono sm)) rv
    refine PySem.W.max_tuple_data (I.ok.hd hc) pl (x := .int n) (xs := ns.map .int) (as := as) (by simpa using ra) ?_ ?_ fun j v' h' tk bs hv hr hk => ?_
    · refine ⟨fun x hx y hy => ?_, fun x hx => ?_⟩
      · rw [← List.map_cons] at hx hy
        obtain ⟨x', _, rfl⟩ := List.mem_map.mp hx
        obtain ⟨y', _, rfl⟩ := List.mem_map.mp hy
        rfl
      · rw [← List.map_cons] at hx
        obtain ⟨x', _, rfl⟩ := List.mem_map.mp hx
        exact fun z => nomatch z
    · have := depth_ints (n :: ns)
      rw [List.map_cons] at this
      omega
    · rw [PySem.W.maxD_ints] at hr
      cases hr
      have : ns.foldl max n = lmax (n :: ns) := ((lmax_of (foldl_max ns n).2.1 (foldl_max ns n).2.2)).symm
      refine ⟨.int (lmax (n :: ns)), H, I.kept (t' := tk) hk, ⟨_, by rw [← this]⟩, q _ _ _ (Stp.refl sm) (.int _)⟩
theorem sc_left_fate : FnScope ["table", "key", "rivals", "one"] ["table", "key"] (defScope s_left_fate) := ⟨rfl, rfl, rfl, by decide +kernel, rfl, by decide +kernel, by decide +kernel⟩
theorem ok_left_fate (T : Txt K mg) : DefT P w K mg base "left_fate" 8 (A := Rows × Int) (fun a => [tT K a.1, tI a.2]) (fun a => WF a.1 ∧ a.2 ∈ keys a.1) (fun a => tS (Str.ofString (fate a.1 a.2))) := by
  refine DefT.top T 37 53 sc_left_fate (fun _ _ _ _ _ _ us hl => match us, hl with | [_, _], _ => rfl) (fun _ => rfl) fun f cdv Ar outer s H E a hp hr => ?_
  obtain ⟨R, k⟩ := a
  obtain ⟨wf, hk⟩ : WF R ∧ k ∈ keys R := hp
  have hwant : wantsOf R (nw R k) ≠ [] := fun z => by
    have : k ∈ wantsOf R (nw R k) := mem_wantsOf.mpr (mem_nw hk)
    rw [z] at this; cases this
  have hriv : ∀ o ∈ rivals R k, o ∈ keys R := fun o ho => by
    have := (List.mem_filter.mp ho).1
    exact mem_keys.mpr ⟨_, mem_wantsOf.mp this⟩
  refine GS.seq (G1.expr (EV.call (ok_need_row T) (R, k) ⟨wf, hk⟩ (hr.mono (by decide)) (EA.cons (EV.var 0) (EA.one (EV.var 1))))) ?_
  refine GS.seq (G1.setLc 2 [("one", 3)] (pd := fun o : Int => !decide (o = k)) (f := fun o : Int => .int o) (IV.list (c := fun k : Int => .int k) (xs := wantsOf R (nw R k)) (EV.dget (f := fun k => (dBy R).lookup k) (hu_of hr) (EV.imp (EV.call (ok_by_new T) R wf (hr.mono (by decide)) (EA.one (EV.var 0))) fun v B h => tDo_dk h) (EV.sub T (hr.mono (by decide)) (EV.var 0) (EV.var 1) wf hk) (dBy_look hwant))) (fun s H C cl fp => pg_name (i := 3) sc_left_fate.nd rfl (Or.inl rfl)) (TgOk.name 3) (fun o ho s H C cl fp => CTs.one (CT.cmp (EV.var 3 (t := tI o)) (EV.var 1 (t := tI k)) o_neI)) (fun o _ _ s H C cl fp => EV.var 3 (t := tI o)) sc_left_fate.nd) ?_
  refine GS.ifR (CT.val (EV.call (ok_is_still T) (R, k) ⟨wf, hk⟩ (hr.mono (by decide)) (EA.cons (EV.var 0) (EA.one (EV.var 1))))) (fun h1 => ?_) fun h1 => ?_
  · refine GS.ifR (CT.eqNil (ns := rivals R k) hr (EV.var 2)) (fun h2 => GS.one (G1.ret (EV.cast EV.str ?_))) fun h2 => GS.one (G1.ret (EV.ifE (CT.val (EV.callB (T.free 7) (c_anyM (f := fun o : Int => decide (waitingFor R o = [])) (l := rivals R k)) (EA.one (EV.cast (EV.lc (pd := fun _ => true) (f := fun o : Int => .bool (decide (waitingFor R o = []))) [("one", 3)] (IV.list (c := fun k : Int => .int k) (xs := rivals R k) (EV.var 2)) (fun s H C cl fp => pg_name (i := 3) sc_left_fate.nd rfl (Or.inl rfl)) (TgOk.name 3) (fun p _ s H C cl fp => CTs.nil)
      (fun o _ _ s H C cl fp => EV.eqNil hr (EV.call (ok_waiting_for T) (R, o) wf (hr.mono (by decide)) (EA.cons (EV.var 0) (EA.one (EV.var 3 (t := tI o)))))) sc_left_fate.nd) (by rw [filter_yes]))))) (fun h3 => EV.cast EV.str ?_) fun h3 => EV.cast EV.str ?_))
    · unfold fate
      rw [if_pos (show still R k = true from h1), if_pos (by simpa using h2)]
    · unfold fate
      rw [if_pos (show still R k = true from h1), if_neg (by simpa using h2), if_pos h3]
    · unfold fate
      rw [if_pos (show still R k = true from h1), if_neg (by simpa using h2), if_neg (by rw [h3]; decide)]
  · have h1 : ¬ still R k = true := by rw [show still R k = false from h1]; decide
    refine GS.ifR (b := decide (waitingFor R k = []) && (rivals R k).all (still R)) (CW.ct (CW.and (CT.eqNil hr (EV.call (ok_waiting_for T) (R, k) wf (hr.mono (by decide)) (EA.cons (EV.var 0) (EA.one (EV.var 1))))) fun _ => CW.and1 (CT.val (EV.callB (T.free 6) c_allM (EA.one (EV.cast (EV.lc (pd := fun _ => true) (f := fun o : Int => .bool (still R o)) [("one", 3)] (IV.list (c := fun k : Int => .int k) (xs := rivals R k) (EV.var 2)) (fun s H C cl fp => pg_name (i := 3) sc_left_fate.nd rfl (Or.inl rfl)) (TgOk.name 3) (fun p _ s H C cl fp => CTs.nil)
      (fun o ho _ s H C cl fp => EV.stillR T wf (hriv o ho) (hr.mono (by decide)) (EA.cons (EV.var 0) (EA.one (EV.var 3 (t := tI o))))) sc_left_fate.nd) (by rw [filter_yes]))))))) (fun h2 => GS.one (G1.ret (EV.cast EV.str ?_))) fun h2 => GS.one (G1.ret (EV.cast EV.str ?_))
    · unfold fate
      rw [if_neg h1, if_pos h2]
    · unfold fate
      rw [if_neg h1, if_neg (by rw [h2]; decide)]
theorem sc_can_be_held : FnScope ["table", "keys", "key"] ["table", "keys"] (defScope s_can_be_held) := ⟨rfl, rfl, rfl, by decide +kernel, rfl, by decide +kernel, by decide +kernel⟩
theorem isK_true {k : Int} (h : inB k) : isK k = true := by unfold isK; rw [decide_eq_true h.1, decide_eq_true h.2]; rfl
theorem ok_can_be_held (T : Txt K mg) : DefT P w K mg base "can_be_held" 11 (A := Rows × List Int) (fun a => [tT K a.1, tD (dT a.2)]) (fun a => WF a.1 ∧ (∀ k ∈ a.2, inB k) ∧ isAsc a.2 = true) (fun a => tB (isCover a.1 a.2)) := by
  refine DefT.top T 38 54 sc_can_be_held (fun _ _ _ _ _ _ us hl => match us, hl with | [_, _], _ => rfl) (fun _ => rfl) fun f cdv Ar outer s H E a hp hr => ?_
  obtain ⟨R, ks⟩ := a
  obtain ⟨wf, hb, hasc⟩ : WF R ∧ (∀ k ∈ ks, inB k) ∧ isAsc ks = true := hp
  have hall : (ks.all fun k => isK k) = true := List.all_eq_true.mpr fun k hk => isK_true (hb k hk)
  refine GS.seq (G1.expr (EV.call (ok_need_table T) R wf (hr.mono (by decide)) (EA.one (EV.var 0)))) ?_
  refine GS.seq (G1.ifF (CT.cast (CW.ct (CW.or (CT.not (CT.val (EV.callB (T.free 0) (c_isiT (n := "tuple") (b := true) (by decide +kernel)) (EA.cons (EV.var 1) (EA.one (EV.tyName (n := "tuple") (T.free 3))))))) fun _ => CW.or (CT.not (CT.val (EV.callB (T.free 6) c_allM (EA.one (EV.cast (EV.lc (pd := fun _ => true) (f := fun k : Int => .bool (isK k)) [("key", 2)] (IV.tup (EV.var 1 (t := tD (dT ks)))) (fun s H C cl fp => pg_name (i := 2) sc_can_be_held.nd rfl (Or.inl rfl)) (TgOk.name 2) (fun p _ s H C cl fp => CTs.nil)
    (fun k _ _ s H C cl fp => EV.call (ok_is_key T) k trivial (hr.mono (by decide)) (EA.one (EV.var 2 (t := tI k)))) sc_can_be_held.nd) (by rw [filter_yes])))))) fun _ => CW.or1 (CT.not (CT.val (EV.call (ok_is_ascending T) ks trivial (hr.mono (by decide)) (EA.one (EV.var 1))))))) ?_) (GS.nil rfl)) ?_
  · rw [hall, hasc]; rfl
  exact GS.one (G1.ret (EV.call (ok_is_cover T) (R, ks) wf hr (EA.cons (EV.var 0) (EA.one (EV.var 1)))))
theorem sc_count_held : FnScope ["table"] ["table"] (defScope s_count_held) := ⟨rfl, rfl, rfl, by decide +kernel, rfl, by decide +kernel, by decide +kernel⟩
theorem ok_count_held (T : Txt K mg) : DefT P w K mg base "count_held" 11 (A := Rows) (fun a => [tT K a]) (fun a => WF a) (fun a => tI (countCovers a)) := by
  refine DefT.top T 39 55 sc_count_held (fun _ _ _ _ _ _ us hl => match us, hl with | [_], _ => rfl) (fun _ => rfl) fun f cdv Ar outer s H E R wf hr => ?_
  refine GS.seq (G1.expr (EV.call (ok_need_table T) R wf (hr.mono (by decide)) (EA.one (EV.var 0)))) ?_
  exact GS.one (G1.ret (EV.call (ok_count_covers T) R wf hr (EA.one (EV.var 0))))
theorem sc_most_left : FnScope ["table", "missing", "ring", "key"] ["table"] (defScope s_most_left) := ⟨rfl, rfl, rfl, by decide +kernel, rfl, by decide +kernel, by decide +kernel⟩
theorem ok_most_left (T : Txt K mg) : DefT P w K mg base "most_left" 10 (A := Rows) (fun a => [tT K a]) (fun a => WF a) (fun a => tD (dT (mostLeft a))) := by
  refine DefT.top T 40 56 sc_most_left (fun _ _ _ _ _ _ us hl => match us, hl with | [_], _ => rfl) (fun _ => rfl) fun f cdv Ar outer s H E R wf hr => ?_
  refine GS.seq (G1.expr (EV.call (ok_need_table T) R wf (hr.mono (by decide)) (EA.one (EV.var 0)))) ?_
  refine GS.seq (G1.set 1 (u := tD (dI ((pures R).map lmax))) (EV.cast (EV.lc [("ring", 2)] (pd := fun _ => true) (f := fun r : List Int => .int (lmax r)) (IV.list (c := fun r : List Int => dT r) (xs := pures R) (EV.call (ok_pure_rings T) R wf hr (EA.one (EV.var 0)))) (fun s H C cl fp => pg_name (i := 2) sc_most_left.nd rfl (Or.inl rfl)) (TgOk.name 2) (fun r _ s H C cl fp => CTs.nil) (fun r hm _ s H C cl fp => EV.callB (T.free 12) (c_maxT (mem_rings.mp (List.mem_filter.mp hm).1).ne (hu16 hr)) (EA.one (EV.var 2 (t := tD (dT r))))) sc_most_left.nd) (by rw [filter_yes, dI, List.map_map]; rfl)) sc_most_left.nd) ?_
  exact GS.one (G1.ret (EV.callT (T.free 3) c_tupL (EA.one (EV.lc [("key", 3)] (pd := fun k : Int => !decide (k ∈ (pures R).map lmax)) (f := fun k : Int => .int k) (IV.list (c := fun k : Int => .int k) (xs := wanted R) (EV.call (ok_wanted_keys T) R wf (hr.mono (by decide)) (EA.one (EV.var 0)))) (fun s H C cl fp => pg_name (i := 3) sc_most_left.nd rfl (Or.inl rfl)) (TgOk.name 3) (fun k _ s H C cl fp => CTs.one (CT.cmp (EV.var 3 (t := tI k)) (EV.var 1 (t := tD (dI ((pures R).map lmax)))) o_niL)) (fun k _ _ s H C cl fp => EV.var 3 (t := tI k)) sc_most_left.nd))))
theorem sc_fewest_left : FnScope ["table"] ["table"] (defScope s_fewest_left) := ⟨rfl, rfl, rfl, by decide +kernel, rfl, by decide +kernel, by decide +kernel⟩
abbrev dFew (ks : List Int) (ps : List (List Int)) : PyData := .tuple [dT ks, .tuple (dF ps)]
theorem ok_fewest_left (T : Txt K mg) : DefT P w K mg base "fewest_left" 11 (A := Rows) (fun a => [tT K a]) (fun a => WF a) (fun a => tD (dFew (firstCover a) (piecesOf a))) := by
  refine DefT.top T 41 57 sc_fewest_left (fun _ _ _ _ _ _ us hl => match us, hl with | [_], _ => rfl) (fun _ => rfl) fun f cdv Ar outer s H E R wf hr => ?_
  refine GS.seq (G1.expr (EV.call (ok_need_table T) R wf (hr.mono (by decide)) (EA.one (EV.var 0)))) ?_
  exact GS.one (G1.ret (EV.tup (ds := [dT (firstCover R), .tuple (dF (piecesOf R))]) (EA.cons (EV.call (ok_first_cover T) R wf hr (EA.one (EV.var 0))) (EA.one (EV.call (ok_pieces_of T) R wf (hr.mono (by decide)) (EA.one (EV.var 0)))))))
theorem sc_keys_of_piece : FnScope ["table", "piece", "key"] ["table", "piece"] (defScope s_keys_of_piece) := ⟨rfl, rfl, rfl, by decide +kernel, rfl, by decide +kernel, by decide +kernel⟩
theorem ok_keys_of_piece (T : Txt K mg) : DefT P w K mg base "keys_of_piece" 6 (A := Rows × List Int) (fun a => [tT K a.1, tD (dT a.2)]) (fun a => WF a.1 ∧ (∀ k ∈ a.2, k ∈ keys a.1) ∧ a.2.length ≤ 40 ∧ (pieceKeys a.1 a.2).length < 64) (fun a => tD (dI (pieceKeys a.1 a.2))) := by
  refine DefT.top T 42 58 sc_keys_of_piece (fun _ _ _ _ _ _ us hl => match us, hl with | [_, _], _ => rfl) (fun _ => rfl) fun f cdv Ar outer s H E a hp hr => ?_
  obtain ⟨R, p⟩ := a
  obtain ⟨wf, hk, hl, hs⟩ : WF R ∧ (∀ k ∈ p, k ∈ keys R) ∧ p.length ≤ 40 ∧ (pieceKeys R p).length < 64 := hp
  refine GS.one (G1.ret (EV.callB (T.free 9) (c_sortS (ns := p ++ p.map (nw R)) hs) (EA.one (EV.callT (T.free 10) (c_setL (by rw [List.length_append, List.length_map]; omega)) (EA.one (EV.cast (EV.bin (EV.callT (T.free 4) c_lstT (EA.one (EV.var 1 (t := tD (dT p))))) (EV.lc [("key", 2)] (pd := fun _ => true) (f := fun k : Int => .int (nw R k)) (IV.tup (EV.var 1 (t := tD (dT p)))) (fun s H C cl fp => pg_name (i := 2) sc_keys_of_piece.nd rfl (Or.inl rfl)) (TgOk.name 2) (fun k _ s H C cl fp => CTs.nil) (fun k hk' _ s H C cl fp => EV.sub T hr (EV.var 0) (EV.var 2 (t := tI k)) wf (hk k hk')) sc_keys_of_piece.nd) (o_catL ?_)) ?_))))))
  · rw [filter_yes, List.length_map, List.length_map]
    show _ ≤ 100000
    omega
  · rw [filter_yes]
    show _ = tD (.list ((p ++ p.map (nw R)).map .int))
    rw [List.map_append, List.map_map]; rfl
theorem sc_is_piece : FnScope ["table", "thing", "key"] ["table", "thing"] (defScope s_is_piece) := ⟨rfl, rfl, rfl, by decide +kernel, rfl, by decide +kernel, by decide +kernel⟩
theorem ok_is_piece (T : Txt K mg) : DefT P w K mg base "is_piece" 9 (A := Rows × List Int) (fun a => [tT K a.1, tD (dT a.2)]) (fun a => WF a.1) (fun a => tB (isPiece a.1 a.2)) := by
  refine DefT.top T 43 59 sc_is_piece (fun _ _ _ _ _ _ us hl => match us, hl with | [_, _], _ => rfl) (fun _ => rfl) fun f cdv Ar outer s H E a wf hr => ?_
  obtain ⟨R, t⟩ := a
  refine GS.ifR (b := decide (t = []) || !allIn t (keys R)) (CT.cast (CW.ct (CW.or (CT.not (CT.val (EV.callB (T.free 0) (c_isiT (n := "tuple") (b := true) (by decide +kernel)) (EA.cons (EV.var 1) (EA.one (EV.tyName (n := "tuple") (T.free 3))))))) fun _ => CW.or (CT.cast (y := decide (t = [])) (CT.cmp (EV.var 1 (t := tD (dT t))) (EV.tup (ds := []) EA.nil) (o_eqD hr.units (shaped_dT t) rfl)) (eqv_dT t [])) fun _ => CW.or1 (CT.not (CT.val (EV.callB (T.free 6) c_allM (EA.one (EV.cast (EV.lc (pd := fun _ => true) (f := fun k : Int => .bool (decide (k ∈ keys R))) [("key", 2)] (IV.tup (EV.var 1 (t := tD (dT t)))) (fun s H C cl fp => pg_name (i := 2) sc_is_piece.nd rfl (Or.inl rfl)) (TgOk.name 2) (fun p _ s H C cl fp => CTs.nil)
    (fun k _ _ s H C cl fp => EV.cmp (EV.var 2 (t := tI k)) (EV.var 0) (o_inT' T (hr.mono (by decide)) wf)) sc_is_piece.nd) (by rw [filter_yes])))))))) ?_) (fun h => GS.one (G1.ret (EV.cast EV.bl ?_))) fun h => ?_
  · rfl
  · show _ = tB (isPiece R t)
    unfold isPiece
    rw [h]; rfl
  refine GS.one (G1.ret (EV.cast (EV.or (EV.cmp (EV.callB (T.free 5) c_lenT (EA.one (EV.var 1 (t := tD (dT t))))) EV.int o_eqI) fun _ => EV.one (EV.and (EV.cmp (EV.bin (EV.callB (T.free 5) c_lenT (EA.one (EV.var 1 (t := tD (dT t))))) EV.int (o_modN (by decide))) EV.int o_eqI) fun _ => EV.one (EV.inLT (r := t) (l := rings R) hr (EV.var 1) (EV.call (ok_rings_of T) R wf hr (EA.one (EV.var 0)))))) ?_))
  show _ = tB (isPiece R t)
  unfold isPiece
  rw [h, List.length_map]
  have e1 : decide ((t.length : Int) = 1) = decide (t.length = 1) := by simp only [decide_eq_decide]; omega
  have e2 : decide (Int.fmod (t.length : Int) 2 = 1) = decide (t.length % 2 = 1) := by
    rw [Int.fmod_eq_emod_of_nonneg _ (by decide)]
    simp only [decide_eq_decide]; omega
  rw [e1, e2]; rfl
end
end Rk
/-! part D19 -/
namespace Rk
open PySem PySem.Spec L2
section
variable {P : Program} {w : World} {K : PySem.W.Frag} {mg : Str → Option Value} {base : Heap} {X : Cx} {Γ : Gm} {e i o : Expr}
theorem sc_shows_fewest : FnScope ["table", "thing", "keys", "pieces", "found", "piece", "key"] ["table", "thing"] (defScope s_shows_fewest) := ⟨rfl, rfl, rfl, by decide +kernel, rfl, by decide +kernel, by decide +kernel⟩
theorem isPiece_keys {R : Rows} {p : List Int} (h : isPiece R p = true) : p ≠ [] ∧ ∀ k ∈ p, k ∈ keys R := by
  unfold isPiece at h
  have h1 := (Bool.and_eq_true_iff.mp h).1
  have h2 : p ≠ [] ∧ allIn p (keys R) = true := by simpa using h1
  exact ⟨h2.1, fun k hk => by have := List.all_eq_true.mp h2.2 k hk; simpa using this⟩
theorem isPiece_few {R : Rows} (wf : WF R) {p : List Int} (h : isPiece R p = true) (hl : p.length ≤ 40) : (pieceKeys R p).length < 64 := by
  unfold isPiece at h
  have h2 := (Bool.and_eq_true_iff.mp h).2
  have h3 : p.length = 1 ∨ (p.length % 2 = 1 ∧ p ∈ rings R) := by simpa using h2
  rcases h3 with h3 | ⟨_, h3⟩
  · have := pieceKeys_len R p; omega
  · have g := mem_rings.mp h3
    have : (pieceKeys R p).length ≤ p.length := by
      refine (sset_nodup _).length_le_of_subset fun x hx => ?_
      rcases List.mem_append.mp (mem_sset.mp hx) with hx | hx
      · exact hx
      · obtain ⟨y, hy, rfl⟩ := List.mem_map.mp hx
        obtain ⟨j, hj, hw⟩ := g.succ hy
        rw [← (waited_some hw).1]; exact hj
    omega
theorem ok_shows_fewest (T : Txt K mg) : DefT P w K mg base "shows_fewest" 11 (A := Rows × List Int × List (List Int)) (fun a => [tT K a.1, tD (dFew a.2.1 a.2.2)]) (fun a => WF a.1 ∧ Shows a.1 a.2.1 a.2.2) (fun a => tB true) := by
  refine DefT.top T 44 60 sc_shows_fewest (fun _ _ _ _ _ _ us hl => match us, hl with | [_, _], _ => rfl) (fun _ => rfl) fun f cdv Ar outer s H E a hp hr => ?_
  obtain ⟨R, ks, ps⟩ := a
  obtain ⟨wf, S⟩ : WF R ∧ Shows R ks ps := hp
  have hall : (ks.all fun k => isK k) = true := List.all_eq_true.mpr fun k hk => isK_true (S.key k hk)
  have hpall : (ps.all fun p => isPiece R p) = true := List.all_eq_true.mpr fun p hp => S.pcs p hp
  refine GS.seq (G1.expr (EV.call (ok_need_table T) R wf (hr.mono (by decide)) (EA.one (EV.var 0)))) ?_
  refine GS.seq (G1.ifF (CT.cast (CW.ct (CW.or (CT.not (CT.val (EV.callB (T.free 0) (c_isiT (n := "tuple") (b := true) (by decide +kernel)) (EA.cons (EV.var 1 (t := tD (dFew ks ps))) (EA.one (EV.tyName (n := "tuple") (T.free 3))))))) fun _ => CW.or (CT.cast (y := false) (CT.cmp (EV.callB (T.free 5) c_lenT (EA.one (EV.var 1 (t := tD (dFew ks ps))))) EV.int o_neI) (by rfl)) fun _ => CW.or1 (CT.not (CT.val (EV.callB (T.free 0) (c_isiT (ds := ks.map .int) (n := "tuple") (b := true) (by decide +kernel)) (EA.cons (EV.ixT (EV.var 1 (t := tD (dFew ks ps))) EV.int (atI_zero _ _)) (EA.one (EV.tyName (n := "tuple") (T.free 3))))))))) (by rfl)) (GS.nil rfl)) ?_
  refine GS.seq (G1.unp2 (u1 := tD (dT ks)) (u2 := tD (.tuple (dF ps))) 2 3 (EV.asTu (ds := [dT ks, .tuple (dF ps)]) (EV.var 1)) sc_shows_fewest.nd) ?_
  refine GS.seq (G1.ifF (CT.cast (CW.ct (CW.or (CT.not (CT.val (EV.callB (T.free 6) c_allM (EA.one (EV.cast (EV.lc (pd := fun _ => true) (f := fun k : Int => .bool (isK k)) [("key", 6)] (IV.tup (EV.var 2 (t := tD (dT ks)))) (fun s H C cl fp => pg_name (i := 6) sc_shows_fewest.nd rfl (Or.inl rfl)) (TgOk.name 6) (fun p _ s H C cl fp => CTs.nil)
    (fun k _ _ s H C cl fp => EV.call (ok_is_key T) k trivial (hr.mono (by decide)) (EA.one (EV.var 6 (t := tI k)))) sc_shows_fewest.nd) (by rw [filter_yes])))))) fun _ => CW.or (CT.not (CT.val (EV.call (ok_is_ascending T) ks trivial (hr.mono (by decide)) (EA.one (EV.var 2 (t := tD (dT ks))))))) fun _ => CW.or1 (CT.not (CT.val (EV.call (ok_is_cover T) (R, ks) wf hr (EA.cons (EV.var 0) (EA.one (EV.var 2 (t := tD (dT ks)))))))))) ?_) (GS.nil rfl)) ?_
  · rw [hall, S.asc, S.cov]; rfl
  refine GS.seq (G1.ifF (CT.cast (CW.ct (CW.or (CT.not (CT.val (EV.callB (T.free 0) (c_isiT (ds := dF ps) (n := "tuple") (b := true) (by decide +kernel)) (EA.cons (EV.var 3) (EA.one (EV.tyName (n := "tuple") (T.free 3))))))) fun _ => CW.or1 (CT.not (CT.val (EV.callB (T.free 6) c_allM (EA.one (EV.cast (EV.lc (pd := fun _ => true) (f := fun p : List Int => .bool (isPiece R p)) [("piece", 5)] (IV.tup (c := fun r : List Int => dT r) (xs := ps) (EV.var 3)) (fun s H C cl fp => pg_name (i := 5) sc_shows_fewest.nd rfl (Or.inl rfl)) (TgOk.name 5) (fun p _ s H C cl fp => CTs.nil)
    (fun p _ _ s H C cl fp => EV.call (ok_is_piece T) (R, p) wf (hr.mono (by decide)) (EA.cons (EV.var 0) (EA.one (EV.var 5 (t := tD (dT p)))))) sc_shows_fewest.nd) (by rw [filter_yes])))))))) ?_) (GS.nil rfl)) ?_
  · rw [hpall]; rfl
  have hne : ∀ r ∈ ps, r ≠ [] := fun r hr => (isPiece_keys (S.pcs r hr)).1
  have hps : ps.length < 64 := Nat.lt_of_le_of_lt S.len (by decide)
  refine GS.seq (G1.ifF (CT.cast (CT.cmp (EV.callT (T.free 4) c_lstT (EA.one (EV.var 3 (t := tD (.tuple (dF ps)))))) (EV.cast (EV.callB (T.free 9) (c_sortST (l := ps) S.nod hne hps (hu16 hr)) (EA.one (EV.callT (T.free 10) (c_setTT (l := ps) hps (hu16 hr)) (EA.one (EV.var 3))))) (by rw [S.srt])) (o_neD (d := dLT ps) (f := dLT ps) hr.units (shaped_dLT ps) (shaped_dLT ps))) ?_) (GS.nil rfl)) ?_
  · rw [SeqAt.eqv_refl _ (SeqAt.canLay_of_shaped (shaped_dLT ps))]; rfl
  refine GS.seq (G1.newL 4 sc_shows_fewest.nd) ?_
  let I1 : Nat → Gm → Prop := fun i Γ => ∃ a, Γ = [some (.ty (tT K R)), some (.ty (tD (dFew ks ps))), some (.ty (tD (dT ks))), some (.ty (tD (.tuple (dF ps)))), some (.own (oL (((ps.take i).flatMap (pieceKeys R)).map .int))), a, none]
  refine GS.cons (N1 := I1 ps.length) (G1.forN 5 I1 (IV.tup (c := fun r : List Int => dT r) (xs := ps) (EV.var 3)) ⟨none, rfl⟩ sc_shows_fewest.nd ?_ fun Γi h => h) ?_
  · rintro i p Γi hi ⟨a, rfl⟩
    have hpm : p ∈ ps := List.mem_of_getElem? hi
    have hpl := S.low p hpm
    have hk := isPiece_keys (S.pcs p hpm)
    have hnext : (ps.take (i + 1)).flatMap (pieceKeys R) = (ps.take i).flatMap (pieceKeys R) ++ pieceKeys R p := by
      rw [take_succ' hi, List.flatMap_append, List.flatMap_cons, List.flatMap_nil, List.append_nil]
    have hle : ((ps.take i).flatMap (pieceKeys R) ++ pieceKeys R p).length ≤ 3000 := by
      rw [← hnext]
      refine Nat.le_trans ?_ S.few
      conv => rhs; rw [← List.take_append_drop (i + 1) ps]
      rw [List.flatMap_append, List.length_append]
      exact Nat.le_add_right _ _
    refine GS.one (G1.to (G1.extend 4 (fs := (pieceKeys R p).map .int) (EV.call (ok_keys_of_piece T) (R, p) ⟨wf, hk.2, hpl, isPiece_few wf (S.pcs p hpm) hpl⟩ (hr.mono (by decide)) (EA.cons (EV.var 0) (EA.one (EV.var 5 (t := tD (dT p)))))) (ds := ((ps.take i).flatMap (pieceKeys R)).map .int) ?_) fun Γ' e => ⟨some (.ty (tD (dT p))), ?_⟩)
    · rw [List.length_map, List.length_map, ← List.length_append]
      exact Nat.le_trans hle (by decide)
    · rw [e, hnext, List.map_append]; rfl
  · rintro Γ1 ⟨a, rfl⟩
    rw [List.take_length]
    have hfew := S.few
    have hss : (sset (ps.flatMap (pieceKeys R))).length = (ps.flatMap (pieceKeys R)).length := by rw [sset_of_nodup S.dis, srt_len]
    refine GS.one (G1.ret (EV.cast (EV.and (EV.cmp (EV.callB (T.free 5) (c_lenS (ns := ps.flatMap (pieceKeys R)) (by omega)) (EA.one (EV.callT (T.free 10) (c_setL (by omega)) (EA.one (EV.var 4))))) (EV.callB (T.free 5) c_lenL (EA.one (EV.var 4 (t := tD (dI (ps.flatMap (pieceKeys R))))))) o_eqI) fun _ => EV.one (EV.cmp (EV.callB (T.free 11) (c_sum (ns := halves ps)) (EA.one (EV.cast (EV.lc (pd := fun _ => true) (f := fun r : List Int => .int (((r.length : Int) + 1).fdiv 2)) [("piece", 5)] (IV.tup (c := fun r : List Int => dT r) (xs := ps) (EV.var 3 (t := tD (.tuple (dF ps))))) (fun s H C cl fp => pg_name (i := 5) sc_shows_fewest.nd rfl (Or.inl rfl)) (TgOk.name 5) (fun p _ s H C cl fp => CTs.nil)
      (fun r _ _ s H C cl fp => EV.bin (EV.bin (EV.cast (EV.callB (T.free 5) c_lenT (EA.one (EV.var 5 (t := tD (dT r))))) (by rw [List.length_map])) EV.int o_add) EV.int (o_fdivN ⟨by decide, by decide⟩)) sc_shows_fewest.nd) ?_))) (EV.callB (T.free 5) c_lenT (EA.one (EV.var 2 (t := tD (dT ks))))) o_eqI)) ?_))
    · rw [filter_yes]
      show _ = tD (.list ((ps.map fun r => ((r.length : Int) + 1).fdiv 2).map .int))
      rw [List.map_map]; rfl
    · rw [List.length_map, List.length_map, hss, S.sum]; simp
end
end Rk
/-! part M14 -/
namespace Rk
/-! ### rows as they are given -/
structure Good (l : Rows) : Prop where
  nd : (keys l).Nodup
  bnd : ∀ r ∈ l, inB r.1 ∧ inB r.2
  len : l.length ≤ 40
def tbl (l : Rows) : Rows := srtP l
theorem tbl_wf {l : Rows} (g : Good l) : WF (tbl l) := by
  have p := srtP_perm l
  refine ⟨?_, fun r hr => g.bnd r (p.mem_iff.mp hr), by show (srtP l).length ≤ 40; rw [p.length_eq]; exact g.len⟩
  have hn : ((srtP l).map (·.1)).Nodup := (p.map _).nodup_iff.mpr g.nd
  have h1 := srtP_le l
  have h2 : (srtP l).Pairwise fun a b => a.1 ≠ b.1 := List.pairwise_map.mp hn
  refine (h1.and h2).imp fun {a b} h => ?_
  have := h.1
  simp only [leP, decide_eq_true_eq] at this
  have := h.2
  omega
theorem lookup_snoc {l : Rows} {k n m : Int} (h : k ∉ keys l) : (l ++ [(k, n)]).lookup m = if m = k then some n else l.lookup m := by
  induction l with
  | nil =>
    rw [List.nil_append, List.lookup_cons]
    by_cases e : m = k
    · subst e; simp
    · have : (m == k) = false := by simpa using e
      rw [this, if_neg e]
  | cons r l ih =>
    simp only [keys, List.map_cons, List.mem_cons, not_or] at h
    rw [List.cons_append, List.lookup_cons, List.lookup_cons]
    by_cases e : m = r.1
    · subst e
      have : ¬ r.1 = k := fun z => h.1 z.symm
      simp [this]
    · have : (m == r.1) = false := by simpa using e
      rw [this]; exact ih h.2
end Rk
/-! part D20 -/
namespace Rk
open PySem PySem.Spec L2
/-! ### instance + tuple, by its own __add__ -/
theorem tup_type {M : Model} {h : Heap} {b : Addr} {its : Array Value} (hb : h.IsTuple b its) : PySem.W.Looks M h (typeOf (.ref b)) (.type "tuple") := by
  obtain ⟨o, ho, hc, _⟩ := hb
  exact (PySem.W.Looks.ld ho).andThen (by rw [hc]; exact .now)
theorem add_own {prog : Program} {w : World} {A : Around} {E : Value → Shared → Prop} {s : Shared} {K : PySem.W.Frag} {x C L f : Addr} {h₀ : Heap} {m : Str → Option Value} {ox : Obj} {od : Option Obj} {b : Addr} {its : Array Value} {Q : Value → Shared → Prop} (F : PyProof.Rows.Fr h₀ L s.heap m) (X₀ : K.In h₀) (I : PySem.W.InstAt s.heap x ox C od) (hb : s.heap.IsTuple b its) (hc : PySem.W.selfFirst K C = true)
    (hs : PySem.W.findIn K (.ref C) "__add__" = some (some (.ref f))) (hf : PySem.W.isFn K (.ref f) = true)
    (h : wpAny (model prog w) A (call (.ref f) [.ref x, .ref b]) (PySem.W.CmpBack Q) E s) : wpAny (model prog w) A (binaryOp .Add (.ref x) (.ref b)) Q E s := by
  have X := X₀.keeps F.keep
  obtain ⟨cd, rest, hcd, hm⟩ := PySem.W.ksp_first hc
  have one := PySem.W.ksp_try X I hs hf h
  have t1 := I.type (M := model prog w)
  have t2 := tup_type (M := model prog w) hb
  have t3 := PySem.W.fills_K (M := model prog w) (nm := "add") X hcd hm hs
  have hne : (Value.ref C == Value.type "tuple") = false := Bool.eq_false_iff.mpr fun q => by cases beq_iff_eq.mp q
  simp only [binaryOp, Operator.info]
  apply wpAny_holding
  apply wpAny_bind
  unfold binaryOp1
  refine wpAny_bind (t1.here (wpAny_bind (t2.here (wpAny_bind (t3.here ?_)))))
  simp only [hne, Bool.false_eq_true, if_false]
  rw [noFill_tuple_add]
  apply wpAny_bind
  apply wpAny_pure
  simp only [Bool.and_false, Bool.false_eq_true, if_false, Bool.false_and]
  refine wpAny_bind (wpAny_pure ?_)
  simp only [Bool.false_eq_true, if_false]
  refine wpAny_bind (wpAny_mono one (fun r s' hr => ?_) fun _ _ e => e)
  obtain ⟨v, rfl, hq⟩ := hr
  exact wpAny_pure (wpAny_pure hq)
section
variable {P : Program} {w : World} {K : PySem.W.Frag} {mg : Str → Option Value} {base : Heap} {X : Cx} {Γ : Gm} {e i o : Expr} {C f : Addr} {R R' : Rows}
theorem o_addT {ds : List PyData} {A : Type} {n : Nat} {ts : A → List Ty} {pre : A → Prop} {tc : A → Ty} (m : Meth X.K C "__add__" f) (F : FnT X f n ts pre tc) (hr : Room n X.A) (a : A) (hp : pre a) (hts : ts a = [tTab C R, tD (.tuple ds)]) (htc : tc a = tTab C R') (hsf : PySem.W.selfFirst X.K C = true) : Opt X (binaryOp .Add) (tTab C R) (tD (.tuple ds)) (tTab C R') := by
  rintro pins s σ H x y v u Q I rx ry ⟨B, sm, tx, ty, q⟩
  obtain ⟨ad, od, rfl, rfl, dx, J⟩ := tab_inst I sm (tab_r _ _ tx) rx
  obtain ⟨b, xs, rfl, h1, h2, h3⟩ := tT_R ty
  obtain rfl : u = Value.ref b := ry
  obtain ⟨its, rv, pl, hz⟩ := I.tuple (SqT.of (sm _ _ h1))
  obtain ⟨mm, fr⟩ := I.fr
  refine add_own fr I.ok.mod.kin J pl hsf m.at_ m.fn (thn (F.go (vs := [V.ref ad, V.ref b]) hr I.env0 I (Paired.cons (show RelV (V.ref ad) (Value.ref ad) from rfl) (Paired.cons (show RelV (V.ref b) (Value.ref b) from rfl) Paired.nil)) a hp sm (by rw [hts]; exact .cons tx (.cons ty .nil)) (Q := fun v H' => (∃ z, v = .ref z) ∧ Q v H') fun v H' B' s1 r1 => ⟨?_, q v H' B' s1 (htc ▸ r1)⟩) fun r s' ⟨v', H', I', rv', ⟨z, e⟩, q'⟩ => ?_)
  · rw [htc] at r1
    obtain ⟨_, z, _, _, _, e, _⟩ := r1
    exact ⟨z, e⟩
  · subst e
    obtain rfl : r = Value.ref z := rv'
    exact ⟨.ref z, H', I', rfl, q'⟩
/-! ### the rows are checked -/
theorem sc_is_row : FnScope ["thing"] ["thing"] (defScope s_is_row) := ⟨rfl, rfl, rfl, by decide +kernel, rfl, by decide +kernel, by decide +kernel⟩
theorem ok_is_row (T : Txt K mg) : DefT P w K mg base "is_row" 3 (A := Int × Int) (fun a => [tD (dP a)]) (fun a => inB a.1 ∧ inB a.2) (fun _ => tB true) := by
  refine DefT.top T 2 18 sc_is_row (fun _ _ _ _ _ _ us hl => match us, hl with | [_], _ => rfl) (fun _ => rfl) fun f cdv Ar outer s H E r hp hr => ?_
  refine GS.one (G1.ret (EV.cast (EV.and (EV.callB (T.free 0) (c_isiT (n := "tuple") (b := true) (by decide +kernel)) (EA.cons (EV.var 0 (t := tD (.tuple [.int r.1, .int r.2]))) (EA.one (EV.tyName (n := "tuple") (T.free 3))))) fun _ => EV.and (EV.cmp (EV.callB (T.free 5) c_lenT (EA.one (EV.var 0 (t := tD (.tuple [.int r.1, .int r.2]))))) EV.int o_eqI) fun _ => EV.and (EV.call (ok_is_key T) r.1 trivial hr (EA.one (EV.ixT (EV.var 0 (t := tD (.tuple [.int r.1, .int r.2]))) EV.int (atI_zero _ _)))) fun _ => EV.one (EV.call (ok_is_key T) r.2 trivial hr (EA.one (EV.ixT (EV.var 0 (t := tD (.tuple [.int r.1, .int r.2]))) EV.int rfl)))) ?_))
  rw [isK_true hp.1, isK_true hp.2]; rfl
abbrev dW (l : Rows) : List (Int × PyData) := l.map fun p => (p.1, .int p.2)
theorem putA_dW {l : Rows} {k n : Int} (h : k ∉ keys l) : putA (dW l) k (.int n) = dW (l ++ [(k, n)]) := by
  unfold putA dW
  rw [if_neg]
  · rw [List.map_append]; rfl
  · intro z
    obtain ⟨p, hp, hq⟩ := List.any_eq_true.mp z
    obtain ⟨q, hq', rfl⟩ := List.mem_map.mp hp
    have : q.1 = k := by simpa using hq
    exact h (List.mem_map.mpr ⟨q, hq', this⟩)
theorem look_dW (l : Rows) (k : Int) : (dW l).lookup k = (l.lookup k).map .int := look_map PyData.int k l
theorem sc_checked_rows : FnScope ["rows", "row", "wants", "key", "new"] ["rows"] (defScope s_checked_rows) := ⟨rfl, rfl, rfl, by decide +kernel, rfl, by decide +kernel, by decide +kernel⟩
theorem ok_checked_rows (T : Txt K mg) : DefT P w K mg base "checked_rows" 4 (A := Rows) (fun a => [tD (dR a)]) (fun a => Good a) (fun a => tDo (dW a)) := by
  refine DefT.top T 4 20 sc_checked_rows (fun _ _ _ _ _ _ us hl => match us, hl with | [_], _ => rfl) (fun _ => rfl) fun f cdv Ar outer s H E l g hr => ?_
  have g : Good l := g
  let I1 : Nat → Gm → Prop := fun i Γ => ∃ a, Γ = [some (.ty (tD (dR l))), a, none, none, none]
  refine GS.cons (N1 := I1 l.length) (G1.forN 1 I1 (IV.list (c := dP) (xs := l) (EV.var 0 (t := tD (dR l)))) ⟨none, rfl⟩ sc_checked_rows.nd ?_ fun Γi h => h) ?_
  · rintro i r Γi hi ⟨a, rfl⟩
    exact GS.one (G1.ifF (CT.not (CT.val (EV.call (ok_is_row T) r (g.bnd r (List.mem_of_getElem? hi)) hr (EA.one (EV.var 1 (t := tD (dP r))))))) (GS.nil ⟨_, rfl⟩))
  rintro Γ1 ⟨a, rfl⟩
  refine GS.seq (G1.newD 2 sc_checked_rows.nd) ?_
  let I2 : Nat → Gm → Prop := fun i Γ => ∃ b c, Γ = [some (.ty (tD (dR l))), a, some (.own (oD (dW (l.take i)))), b, c]
  refine GS.cons (N1 := I2 l.length) (G1.forP (c1 := fun r : Int × Int => .int r.1) (c2 := fun r : Int × Int => .int r.2) 3 4 I2 (IV.list (c := dP) (xs := l) (EV.var 0 (t := tD (dR l)))) ⟨none, none, rfl⟩ sc_checked_rows.nd ?_ fun Γi h => h) ?_
  · rintro i r Γi hi ⟨b, c, rfl⟩
    have hil : i < l.length := (List.getElem?_eq_some_iff.mp hi).1
    have hnk : r.1 ∉ keys (l.take i) := fun z => by
      have hn := g.nd
      have e1 : keys l = keys (l.take i) ++ r.1 :: keys (l.drop (i + 1)) := by
        unfold keys
        conv => lhs; rw [← List.take_append_drop i l, List.drop_eq_getElem_cons hil]
        rw [List.map_append, List.map_cons, (List.getElem?_eq_some_iff.mp hi).2]
      rw [e1] at hn
      exact (List.nodup_append.mp hn).2.2 r.1 z r.1 (by simp) rfl
    have hl40 := g.len
    refine GS.seq (G1.ifF (CT.cast (CT.din (f := fun k => (dW (l.take i)).lookup k) (hu_of hr) (EV.var 3 (t := tI r.1)) (EV.imp (EV.var 2 (t := tDo (dW (l.take i)))) fun v B h => tDo_dk h)) ?_) (GS.nil rfl)) ?_
    · rw [look_dW, lookup_none.mpr hnk]; rfl
    refine GS.one (G1.to (G1.dset (d := .int r.2) (k := r.1) 2 (hu_of hr) (EV.var 3 (t := tI r.1)) (EV.var 4 (t := tI r.2)) ?_) fun Γ' e => ⟨some (.ty (tI r.1)), some (.ty (tI r.2)), ?_⟩)
    · rw [List.length_map, List.length_take]
      show _ < 100000
      omega
    · rw [e, take_succ' hi, putA_dW hnk]; rfl
  rintro Γ2 ⟨b, c, rfl⟩
  rw [List.take_length]
  obtain ⟨t, hK⟩ := T.int 75 (x := "MOST_ROWS")
  refine GS.seq (G1.ifF (CT.cast (CT.cmp (EV.callB (T.free 5) c_lenL (EA.one (EV.var 0 (t := tD (dR l))))) (EV.gint hK ⟨t, rfl⟩) o_gt) ?_) (GS.nil rfl)) ?_
  · rw [List.length_map]
    have := g.len
    exact decide_eq_false (by omega)
  exact GS.one (G1.ret (EV.var 2 (t := tDo (dW l))))
/-! ### a table is made -/
theorem dW_tab {B : Hp} : ∀ {l : Rows} {kv : List (Key × V)}, kv.map (·.1) = (dW l).map (fun p => (Sum.inl p.1 : Key)) → Da B (kv.map (·.2)) ((dW l).map (·.2)) → kv = tabK l
  | [], [], _, _ => rfl
  | [], _ :: _, e, _ => by cases e
  | _ :: _, [], e, _ => by cases e
  | r :: l, (q1, q2) :: kv, e, h => by
    simp only [dW, List.map_cons] at e h
    obtain ⟨e1, e2⟩ := List.cons.inj e
    cases h with
    | cons h1 h2 =>
      have i1 := tI_R (show (tI r.2).R q2 B from h1)
      have ih := dW_tab (l := l) (kv := kv) e2 h2
      rw [ih, i1, e1]; rfl
abbrev cT (K : PySem.W.Frag) : Addr := He.ga K "Table"
abbrev fTI (K : PySem.W.Frag) : Addr := He.ma K (He.ga K "Table") "__init__"
/-- Table.__init__ -/
def spI (K : PySem.W.Frag) : Sp := fun vs H Q _ => ∃ (x dx t : Addr) (l : Rows) (B : Hp), vs = [.ref x, .ref t] ∧ Same B H ∧ H x = some (.ins (cT K) dx []) ∧ B x = none ∧ (tD (.tuple (l.map dP))).R (.ref t) B ∧ Good l ∧
  ∀ H' B' d, Stp H B H' B' → B' x = none → (tDo (dW l)).R (.ref d) B' → Q .non (upd H' x (.ins (cT K) dx [("wants", .ref d)]))
def spS (K : PySem.W.Frag) : Sp := fun vs H Q E => ∃ ws rest, vs = ws ++ rest ∧ ws.length = ["self"].length ∧ rest.length ≤ sizeLine ∧ ∀ p, H p = none → spI K (ws ++ [V.ref p]) (upd H p (.tup rest)) Q E
theorem sc_Table_init : FnScope ["self", "rows"] ([("self" : Str)] ++ [("rows" : Str)]) (defScope s_Table_init) := ⟨rfl, rfl, rfl, by decide +kernel, rfl, by decide +kernel, by decide +kernel⟩
theorem ok_Table_init (T : Txt K mg) : FnR P w K mg base CX0 5 (fTI K) (spS K) := by
  obtain ⟨fd, F⟩ := T.def_ 55 (at_ := fun K => He.ma K (He.ga K "Table") "__init__") (nm := "__init__") (q := "Table.__init__") (st := s_Table_init)
  obtain ⟨oc, od, kV, doc, pm, an, cdv, ct, osl, rfl, lk, hcd⟩ := F.ex
  refine StX.fn_star (k := 4) (sp := spI K) (ps := ["self"]) (pv := "rows") lk hcd sc_Table_init StX.cxUp_none (StX.bind_star1 (B := fun us => bindArgs (PySem.W.fnOf "__init__" "Table.__init__" (defArgs s_Table_init) (defBody s_Table_init) (defScope s_Table_init) .none kV doc pm an cdv ct) ⟨us, []⟩) (p1 := "self") (pv := "rows") (fun a => rfl) fun a r rs => rfl) fun Ar outer s H vs Q E hr hsp => ?_
  obtain ⟨x, dx, t, l, B, rfl, sm, hx, hBx, ht, g, q⟩ := hsp
  let Γ : Gm := [none, some (.ty (tD (.tuple (l.map dP))))]
  have sa : Sa Γ (start ["self", "rows"] [.ref x, .ref t]) H B := ⟨rfl, sm, fun i u e => by
    match i, e with
    | 0, e => cases e
    | 1, e => cases e; exact ⟨_, rfl, ht⟩
    | i + 2, e => simp [Γ] at e⟩
  refine ⟨_, pss_one (ps_fld (pe_var (i := 0) rfl (Or.inl rfl)) (EV.call (Γ := Γ) (ok_checked_rows T) l g hr (EA.one (EV.callT (T.free 4) c_lstT (EA.one (EV.var 1 (t := tD (.tuple (l.map dP)))))))) rfl), ?_⟩
  refine ⟨B, sa, fun y H1 B1 s1 r1 => ⟨.ref x, rfl, x, cT K, dx, [], rfl, s1.h _ _ hx, T.cls, T.wants, by decide, ?_⟩⟩
  obtain ⟨d, kv, rfl, h1, h2, h3, h4⟩ := id r1
  exact q H1 B1 d s1 (s1.f _ hBx (by rw [hx]; exact fun z => nomatch z)) r1
theorem Txt.mkT (T : Txt K mg) : Mk K (cT K) (fTI K) := He.mkr_ok (T.s.a.fact 81 (f := .mkr "Table"))
end
end Rk
/-! part D21 -/
namespace Rk
open PySem PySem.Spec L2
section
variable {P : Program} {w : World} {K : PySem.W.Frag} {mg : Str → Option Value} {base : Heap} {X : Cx} {Γ : Gm} {e i o : Expr} {C f : Addr} {R R' : Rows} {l : Rows}
/-- what the new table is -/
theorem made {K : PySem.W.Frag} {H B : Hp} {xs : List V} {Q : VK} {x dx : Addr} (sm : Same B H) (hx : H x = none) (hdx : H dx = none) (hne : dx ≠ x) (hxs : Da B xs (l.map dP)) (hl : xs.length ≤ lim) (g : Good l)
    (q : ∀ v H' B', Stp H B H' B' → (tT K (tbl l)).R v B' → Q v H') : spS K (V.ref x :: xs) (upd (upd H dx (.own x)) x (.ins (cT K) dx [])) (fun v H2 => v = .non ∧ Q (.ref x) H2) E0 := by
  refine ⟨[.ref x], xs, rfl, rfl, lim_le hl, fun p hp => ?_⟩
  have hpx : p ≠ x := fun z => by rw [z, upd_same] at hp; cases hp
  rw [upd_ne hpx] at hp
  have hpd : p ≠ dx := fun z => by rw [z, upd_same] at hp; cases hp
  rw [upd_ne hpd] at hp
  have hBp : B p = none := sm.free hp
  have hBx : B x = none := sm.free hx
  have hBd : B dx = none := sm.free hdx
  let H1 := upd (upd (upd H dx (.own x)) x (.ins (cT K) dx [])) p (.tup xs)
  have e1 : Same H H1 := fun a o e => by
    have a1 : a ≠ dx := ne_of_none e hdx
    have a2 : a ≠ x := ne_of_none e hx
    have a3 : a ≠ p := ne_of_none e hp
    show upd (upd (upd H dx (.own x)) x (.ins (cT K) dx [])) p (.tup xs) a = _
    rw [upd_ne a3, upd_ne a2, upd_ne a1]; exact e
  have hx1 : H1 x = some (.ins (cT K) dx []) := by
    show upd _ p _ x = _
    rw [upd_ne (Ne.symm hpx)]; exact upd_same
  have sm1 : Same (upd B p (.tup xs)) H1 := fun a o e => by
    by_cases ha : a = p
    · subst ha; rw [upd_same] at e; rw [← e]; exact upd_same
    · rw [upd_ne ha] at e; exact e1 a o (sm a o e)
  refine ⟨x, dx, p, l, upd B p (.tup xs), rfl, sm1, hx1, by rw [upd_ne (Ne.symm hpx)]; exact hBx, .tup upd_same hl (hxs.mono (same_upd hBp)), g, fun H' B' d st hBx' rd => ⟨rfl, ?_⟩⟩
  obtain ⟨d', kv, e2, h1, h2, h3, h4⟩ := rd
  cases e2
  have hkv := dW_tab h3 h4
  have hdx' : d ≠ x := fun z => by rw [z] at h1; rw [h1] at hBx'; cases hBx'
  refine q (.ref x) _ (upd B' x (.ins (cT K) dx [("wants", .ref d)])) ⟨fun a o e => ?_, fun a o e => ?_, fun a o e => ?_, fun a h5 h6 => ?_⟩ ⟨tbl_wf g, x, dx, d, l, rfl, upd_same, by rw [upd_ne hdx', h1, hkv], (srtP_perm l).symm⟩
  · rw [upd_ne (ne_of_none e hx)]; exact st.h a o (e1 a o e)
  · rw [upd_ne (ne_of_none e hBx)]; exact st.b a o (by rw [upd_ne (ne_of_none e hBp)]; exact e)
  · by_cases ha : a = x
    · subst ha; rw [upd_same] at e ⊢; exact e
    · rw [upd_ne ha] at e ⊢; exact st.s a o e
  · have a2 : a ≠ x := fun z => h6 (z ▸ hx)
    have a3 : a ≠ p := fun z => h6 (z ▸ hp)
    rw [upd_ne a2]
    refine st.f a (by rw [upd_ne a3]; exact h5) fun z => ?_
    cases q1 : H a with
    | none => exact h6 q1
    | some o => exact absurd ((e1 a o q1).symm.trans z) fun z => nomatch z
theorem tbl_nil : tbl [] = [] := by unfold tbl srtP; simp
theorem tab_R (R : Rows) (wf : WF R) : tbl R = R := srtP_rows (List.Perm.refl R) wf
/-- Table(*e) -/
theorem EV.mkTabS {p sp_ pos : Pos} (T : Txt X.K X.mg) (hr : Room 6 X.A) (he : EV X Γ e (tD (dR l))) (g : Good l) (hg : Gl X "Table" := by rfl) (hst : starEach [.Starred e sp_] X.env = [(true, eval e X.env)] := by rfl) : EV X Γ (.Call (.Name "Table" p) [.Starred e sp_] [] pos) (tT X.K (tbl l)) := by
  refine ⟨fun pins s σ H Q I ⟨B, sa, q⟩ => ?_⟩
  refine wpAny_Call_Name_kw (ld_glob I hg (T.glo 71) ?_ (by decide))
  refine PySem.W.callWith_S (h₀ := X.base) I.ok.mod.kin T.mkT.kp (thn (he.run pins s σ H (fun y H1 => ∃ a xs B1, y = V.ref a ∧ H1 a = some (.lst xs) ∧ xs.length ≤ lim ∧ Stp H B H1 B1 ∧ Da B1 xs (l.map dP)) I ⟨B, sa, fun v H1 B1 s1 r1 => ?_⟩) fun v s1 ⟨y, H1, I1, ry, a, xs, B1, ey, h1, h2, st, h3⟩ => ?_) hst
  · obtain ⟨a, xs, rfl, h1, h2, h3⟩ := tL_R r1
    exact ⟨a, xs, B1, rfl, s1.s _ _ h1, h2, s1, h3⟩
  · subst ey
    obtain rfl : v = Value.ref a := ry
    exact StX.star_any I1 (.inr (SqL.of h1)) fun us s2 I2 rv => ⟨I2.kIn, StX.run_makeR (E := E0) T.mkT (ok_Table_init (P := X.prog) (w := X.w) (base := X.base) T) hr (fun _ _ _ _ _ _ _ z => z.elim) I2 rv fun x dx hx hdx hne => made st.s hx hdx hne h3 h2 g fun v H' B' s3 r3 => q v H' B' (st.trans s3) r3⟩
/-- Table() -/
theorem EV.mkTab0 {p pos : Pos} (T : Txt X.K X.mg) (hr : Room 6 X.A) (hg : Gl X "Table" := by rfl) : EV X Γ (.Call (.Name "Table" p) [] [] pos) (tT X.K []) := by
  refine ⟨fun pins s σ H Q I ⟨B, sa, q⟩ => ?_⟩
  refine wpAny_Call_Name_kw (ld_glob I hg (T.glo 71) ?_ (by decide))
  refine PySem.W.callWith_K0 I.kIn T.mkT.kp (StX.run_makeR (us := []) (vs := []) (E := E0) T.mkT (ok_Table_init (P := X.prog) (w := X.w) (base := X.base) T) hr (fun _ _ _ _ _ _ _ z => z.elim) I .nil fun x dx hx hdx hne => made (l := []) sa.sm hx hdx hne .nil (Nat.zero_le _) ⟨List.nodup_nil, (fun r h => nomatch h), Nat.zero_le _⟩ fun v H' B' s3 r3 => q v H' B' s3 (tbl_nil ▸ r3))
theorem sc_more_rows : FnScope ["other"] ["other"] (defScope s_more_rows) := ⟨rfl, rfl, rfl, by decide +kernel, rfl, by decide +kernel, by decide +kernel⟩
theorem ok_more_rows (T : Txt K mg) : DefT P w K mg base "more_rows" 1 (A := Rows) (fun a => [tD (.tuple (a.map dP))]) (fun _ => True) (fun a => tD (dR a)) := by
  refine DefT.top T 5 21 sc_more_rows (fun _ _ _ _ _ _ us hl => match us, hl with | [_], _ => rfl) (fun _ => rfl) fun f cdv Ar outer s H E l g hr => ?_
  refine GS.seq (G1.ifF (CT.val (EV.callB (T.free 0) (c_isTabT (ds := l.map dP) T) (EA.cons (EV.var 0) (EA.one (EV.clsName (T.glo 71)))))) (GS.nil rfl)) ?_
  refine GS.cons (N1 := nev) (G1.ifS (b := true) (CT.val (EV.callB (T.free 0) (c_isiT (ds := l.map dP) (n := "tuple") (b := true) (by decide +kernel)) (EA.cons (EV.var 0) (EA.one (EV.tyName (n := "tuple") (T.free 3)))))) (fun _ => GS.one (G1.ret (EV.callT (T.free 4) c_lstT (EA.one (EV.var 0 (t := tD (.tuple (l.map dP)))))))) fun h => (nomatch h)) fun _ z => z.elim
abbrev fTA (K : PySem.W.Frag) : Addr := He.ma K (He.ga K "Table") "__add__"
theorem Txt.mAdd (T : Txt K mg) : Meth K (He.ga K "Table") "__add__" (fTA K) := He.meth_ok (T.s.a.fact 85 (f := .meth "Table" "__add__"))
theorem sc_Table_add : FnScope ["self", "other", "rows"] ["self", "other"] (defScope s_Table_add) := ⟨rfl, rfl, rfl, by decide +kernel, rfl, by decide +kernel, by decide +kernel⟩
theorem ok_Table_add (T : Txt K mg) : FnR P w K mg base CX0 7 (fTA K) (spT (A := Rows × Rows) (fun a => [tT K a.1, tD (.tuple (a.2.map dP))]) (fun a => WF a.1 ∧ Good (a.1 ++ a.2)) (fun a => tT K (tbl (a.1 ++ a.2)))) := by
  refine FnT.top T 59 sc_Table_add (fun _ _ _ _ _ _ us hl => match us, hl with | [_, _], _ => rfl) (fun _ => rfl) fun f cdv Ar outer s H E a hp hr => ?_
  obtain ⟨R, l⟩ := a
  obtain ⟨wf, g⟩ : WF R ∧ Good (R ++ l) := hp
  have hlen := g.len
  rw [List.length_append] at hlen
  refine GS.seq (G1.set 2 (u := tD (dR (R ++ l))) (EV.cast (EV.bin (EV.callT (T.free 4) c_lstT (EA.one (EV.rows T (hr.mono (by decide)) (EV.var 0) wf))) (EV.call (ok_more_rows T) l trivial (hr.mono (by decide)) (EA.one (EV.var 1))) (o_catL (by rw [List.length_map, List.length_map]; show _ ≤ 100000; omega))) (by rw [dR, List.map_append])) sc_Table_add.nd) ?_
  exact GS.one (G1.ret (EV.mkTabS T hr (EV.var 2 (t := tD (dR (R ++ l)))) g))
theorem o_addTab (T : Txt X.K X.mg) (hr : Room 7 X.A) (wf : WF R) (g : Good (R ++ l)) : Opt X (binaryOp .Add) (tT X.K R) (tD (.tuple (l.map dP))) (tT X.K (tbl (R ++ l))) :=
  o_addT T.mAdd (ok_Table_add (P := X.prog) (w := X.w) (base := X.base) T) hr (R, l) ⟨wf, g⟩ rfl rfl T.ex.s1
end
end Rk
/-! part M15 -/
namespace Rk
/-! ### Replace, run over an order -/
abbrev Pl := List (Int × Option Int)
def pAt (p : Pl) (k : Int) : Option Int := (p.lookup k).getD none
def holder (p : Pl) (k : Int) : Option Int := (p.find? fun q => decide (q.2 = some k)).map (·.1)
def putP (p : Pl) (k : Int) (v : Option Int) : Pl := p.map fun q => if q.1 = k then (q.1, v) else q
def runStep (R : Rows) (p : Pl) (row : Int) : Pl :=
  if pAt p row = none ∨ nw R row = row then p else match holder p (nw R row) with
    | none => putP p row (some (nw R row))
    | some h => putP (putP p h none) row (some (nw R row))
def startP (order : List Int) : Pl := order.map fun k => (k, some k)
def runP (R : Rows) (order : List Int) : Pl := order.foldl (runStep R) (startP order)
def endsOf (p : Pl) : Rows := srtP (p.filterMap fun q => q.2.map fun k => (q.1, k))
theorem putP_keys (p : Pl) (k : Int) (v : Option Int) : (putP p k v).map (·.1) = p.map (·.1) := by
  unfold putP
  rw [List.map_map]
  refine List.map_congr_left fun q _ => ?_
  show (if q.1 = k then (q.1, v) else q).1 = q.1
  split <;> rfl
theorem runStep_keys (R : Rows) (p : Pl) (row : Int) : (runStep R p row).map (·.1) = p.map (·.1) := by
  unfold runStep
  split
  · rfl
  · split
    · exact putP_keys _ _ _
    · rw [putP_keys, putP_keys]
theorem startP_keys (order : List Int) : (startP order).map (·.1) = order := by
  unfold startP
  rw [List.map_map]
  conv => rhs; rw [← List.map_id order]
  rfl
theorem foldl_keys (R : Rows) : ∀ (l : List Int) (p : Pl), (l.foldl (runStep R) p).map (·.1) = p.map (·.1)
  | [], p => rfl
  | r :: l, p => by rw [List.foldl_cons, foldl_keys R l, runStep_keys]
theorem runP_keys (R : Rows) (order : List Int) : (runP R order).map (·.1) = order := by
  unfold runP
  rw [foldl_keys, startP_keys]
theorem holder_mem {p : Pl} {k h : Int} (e : holder p k = some h) : (h, some k) ∈ p := by
  unfold holder at e
  cases q : p.find? fun q => decide (q.2 = some k) with
  | none => rw [q] at e; cases e
  | some r =>
    rw [q] at e
    have h1 := List.find?_some q
    have h2 := List.mem_of_find?_eq_some q
    have h3 : r.2 = some k := by simpa using h1
    have h4 : r.1 = h := Option.some.inj e
    rw [← h4, ← h3]; exact h2
end Rk
/-! part D22 -/
namespace Rk
open PySem PySem.Spec L2
abbrev encP (p : Pl) : List (Int × PyData) := p.map fun q => (q.1, optD q.2)
theorem look_encP (p : Pl) (k : Int) : (encP p).lookup k = (p.lookup k).map optD := look_map optD k p
theorem look_pl {p : Pl} {k : Int} (h : k ∈ p.map (·.1)) : (encP p).lookup k = some (optD (pAt p k)) := by
  rw [look_encP]
  unfold pAt
  cases e : p.lookup k with
  | some v => rfl
  | none =>
    exfalso
    induction p with
    | nil => cases h
    | cons r p ih =>
      rw [List.lookup_cons] at e
      by_cases hk : k = r.1
      · subst hk; simp at e
      · have : (k == r.1) = false := by simpa using hk
        rw [this] at e
        exact ih ((List.mem_cons.mp h).resolve_left hk) e
section
variable {P : Program} {w : World} {K : PySem.W.Frag} {mg : Str → Option Value} {base : Heap} {X : Cx} {Γ : Gm} {e i o : Expr} {t : Ty} {st : Stmt} {ss : List Stmt} {N C K1 : Gm → Prop}
/-- a statement that walks a dict -/
theorem G1.lockD {l : List (Int × PyData)} {fact : Prop} (h : G1 X (some (.ty (tFz l)) :: Γ) st (fun Γ' => Γ'.length = Γ.length + 1 ∧ fact) nev nev t) (sc : Sc t) (hs : ∀ (i : Nat) (u : Ty), Γ[i]? = some (some (.ty u)) → Sc u) (no : noOwn Γ = true) : G1 X (some (.ty (tDo l)) :: Γ) st (fun Γ' => Γ' = List.replicate (Γ.length + 1) none ∧ fact) C K1 t := by
  refine PS.imp (ps_lock h) ?_
  rintro D σ H ⟨H0, B0, Bl, B, s, n, ct, bk, rt⟩
  obtain ⟨v, e1, d, kv, rfl, h1, h2, h3, h4⟩ := s.sa.ty 0 _ rfl
  have hH := s.sa.sm _ _ h1
  have stp : ∀ {od : Obj} {H' B' : Hp}, Stp (upd H d (.frz od (.dK kv))) (upd B d (.frz od (.dK kv))) H' B' → H' d = some (.frz od (.dK kv)) ∧ Stp H B (upd H' d (.dK kv)) (upd B' d (.dK kv)) := fun {od H' B'} st => by
    refine ⟨st.h _ _ upd_same, fun a o e => ?_, fun a o e => ?_, fun a o e => ?_, fun a e1 e2 => ?_⟩
    · by_cases ha : a = d
      · subst ha; rw [upd_same, ← e, hH]
      · rw [upd_ne ha]; exact st.h a o (by rw [upd_ne ha]; exact e)
    · by_cases ha : a = d
      · subst ha; rw [upd_same, ← e, h1]
      · rw [upd_ne ha]; exact st.b a o (by rw [upd_ne ha]; exact e)
    · by_cases ha : a = d
      · subst ha; rw [upd_same] at e ⊢; exact e
      · rw [upd_ne ha] at e ⊢; exact st.s a o e
    · have ha : a ≠ d := fun z => by rw [z, h1] at e1; cases e1
      rw [upd_ne ha]
      exact st.f a (by rw [upd_ne ha]; exact e1) (by rw [upd_ne ha]; exact e2)
  refine ⟨d, _, hH, trivial, fun od => ⟨upd H d (.frz od (.dK kv)), upd B d (.frz od (.dK kv)), upd B d (.frz od (.dK kv)), upd B d (.frz od (.dK kv)), ⟨⟨s.sa.ln, ?_, ?_⟩, Stp.refl ?_, .refl _, fun i o e => (no_own (Γ := some (.ty (tFz l)) :: Γ) no i o e).elim, fun i j oi _ _ e => (no_own (Γ := some (.ty (tFz l)) :: Γ) no i oi e).elim⟩, ?_, fun _ _ _ _ z => z.elim, fun _ _ _ _ z => z.elim, ?_⟩⟩
  · intro a o e
    by_cases ha : a = d
    · subst ha; rw [upd_same] at e ⊢; exact e
    · rw [upd_ne ha] at e ⊢; exact s.sa.sm _ _ e
  · intro i u e
    cases i with
    | zero =>
      simp only [List.getElem?_cons_zero, Option.some.injEq, Sl.ty.injEq] at e
      subst e
      exact ⟨_, e1, d, od, kv, rfl, upd_same, h2, h3, Da.unl (B := B) h1 (fun _ z => nomatch z) (fun _ z => nomatch z) h4⟩
    | succ i =>
      have e' : Γ[i]? = some (some (Sl.ty u)) := by simpa using e
      obtain ⟨v, e2, r⟩ := s.sa.ty (i + 1) u (by simpa using e')
      exact ⟨v, e2, hs i u e' _ _ _ r⟩
  · intro a o e
    by_cases ha : a = d
    · subst ha; rw [upd_same] at e ⊢; exact e
    · rw [upd_ne ha] at e ⊢; exact s.sa.sm _ _ e
  · rintro Γ' σ' H' B' ⟨hl, hf⟩ s'
    obtain ⟨k1, k2⟩ := stp s'.sp
    refine ⟨k1, n _ σ' _ (upd B' d (.dK kv)) ⟨rfl, hf⟩ ⟨⟨?_, k2.s, fun i u e => ?_⟩, s.sp.trans k2, s.lb.trans k2.b, fun i o e => ?_, fun i j oi _ _ e => ?_⟩⟩
    · rw [s'.sa.ln, hl, List.length_replicate]
    · rw [List.getElem?_replicate] at e; split at e <;> cases e
    · rw [List.getElem?_replicate] at e; split at e <;> cases e
    · rw [List.getElem?_replicate] at e; split at e <;> cases e
  · intro v H' B' k r
    obtain ⟨k1, k2⟩ := stp k
    exact ⟨k1, rt v _ _ (s.sp.trans k2) (sc _ _ _ r)⟩
/-- one's own objects, from here on only read -/
theorem pk_noOwn : ∀ Γ : Gm, noOwn (pk Γ) = true := fun Γ => by
  unfold noOwn pk
  refine List.all_eq_true.mpr fun x hx => ?_
  obtain ⟨y, _, rfl⟩ := List.mem_map.mp hx
  cases y with
  | none => rfl
  | some y => cases y <;> rfl
theorem GS.freeze (h : GS X (pk Γ) ss N C K1 t) : GS X Γ ss N C K1 t := PSs.imp h fun D σ H ⟨H0, B0, Bl, B, s, n, r⟩ => by
  obtain ⟨B2, sa2, sp2, b2⟩ := s.peek
  exact ⟨H0, B0, Bl, B2, ⟨sa2, sp2, s.lb.trans b2, fun i o e => (no_own (pk_noOwn Γ) i o e).elim, fun i j oi _ _ e => (no_own (pk_noOwn Γ) i oi e).elim⟩, n, r⟩
theorem sc_holder_of : FnScope ["places", "key", "row"] ["places", "key"] (defScope s_holder_of) := ⟨rfl, rfl, rfl, by decide +kernel, rfl, by decide +kernel, by decide +kernel⟩
theorem lookup_nodup {α : Type} {l : List (Int × α)} (h : (l.map (·.1)).Nodup) {p : Int × α} (hp : p ∈ l) : l.lookup p.1 = some p.2 := by
  induction l with
  | nil => cases hp
  | cons r l ih =>
    rw [List.map_cons, List.nodup_cons] at h
    rw [List.lookup_cons]
    rcases List.mem_cons.mp hp with rfl | hp
    · simp
    · have : (p.1 == r.1) = false := by
        simp only [beq_eq_false_iff_ne]
        intro z
        exact h.1 (z ▸ List.mem_map.mpr ⟨p, hp, rfl⟩)
      rw [this]; exact ih h.2 hp
theorem ok_holder_of (T : Txt K mg) : DefT P w K mg base "holder_of" 1 (A := Pl × Int) (fun a => [tDo (encP a.1), tI a.2]) (fun a => (a.1.map (·.1)).Nodup) (fun a => tD (optD (holder a.1 a.2))) := by
  refine DefT.top T 45 61 sc_holder_of (fun _ _ _ _ _ _ us hl => match us, hl with | [_, _], _ => rfl) (fun _ => rfl) fun f cdv Ar outer s H E a hn hr => ?_
  obtain ⟨p, k⟩ := a
  have hn : (p.map (·.1)).Nodup := hn
  have hn2 : ((encP p).map (·.1)).Nodup := by unfold encP; rw [List.map_map]; exact hn
  let I1 : Nat → Gm → Prop := fun i Γ => (∃ a, Γ = [some (.ty (tFz (encP p))), some (.ty (tI k)), a]) ∧ ∀ q ∈ p.take i, q.2 ≠ some k
  refine GS.cons (G1.lockD (fact := holder p k = none) (C := nev) (K1 := nev) (Γ := [some (.ty (tI k)), none]) (G1.forN 2 I1 (IV.keys (l := encP p) (EV.var 0)) ⟨⟨none, rfl⟩, fun q hq => by simp at hq⟩ sc_holder_of.nd ?_ ?_) (sc_opt _) ?_ rfl) ?_
  · rintro i a Γi hi ⟨⟨b, rfl⟩, hq⟩
    obtain ⟨q, hqi, rfl⟩ : ∃ q, p[i]? = some q ∧ a = (q.1, optD q.2) := by
      rw [List.getElem?_map] at hi
      cases z : p[i]? with
      | none => rw [z] at hi; cases hi
      | some q => rw [z] at hi; exact ⟨q, rfl, (Option.some.inj hi).symm⟩
    have hqm : q ∈ p := List.mem_of_getElem? hqi
    have hlk : (encP p).lookup q.1 = some (optD q.2) := lookup_nodup (l := encP p) hn2 (p := (q.1, optD q.2)) (List.mem_map.mpr ⟨q, hqm, rfl⟩)
    refine GS.one (G1.ifS (CT.cmp (EV.fget (l := encP p) (hu_of hr) (EV.var 0) (EV.var 2 (t := tI q.1)) hlk) (EV.var 1 (t := tI k)) o_eqO) (fun hb => GS.one (G1.ret (EV.cast (EV.var 2 (t := tI q.1)) ?_))) fun hb => GS.nil ⟨⟨_, rfl⟩, ?_⟩)
    · have h2 : q.2 = some k := by simpa using hb
      have : holder p k = some q.1 := by
        unfold holder
        have hf : p.find? (fun q => decide (q.2 = some k)) = some q := by
          refine List.find?_eq_some_iff_getElem.mpr ⟨by simp [h2], i, (List.getElem?_eq_some_iff.mp hqi).1, (List.getElem?_eq_some_iff.mp hqi).2, fun j hj => ?_⟩
          have hjl : j < p.length := Nat.lt_trans hj (List.getElem?_eq_some_iff.mp hqi).1
          have := hq p[j] (List.mem_take_iff_getElem.mpr ⟨j, by omega, rfl⟩)
          simp [this]
        rw [hf]; rfl
      show tI q.1 = tD (optD (holder p k))
      rw [this]; rfl
    · intro x hx
      rw [take_succ' hqi] at hx
      rcases List.mem_append.mp hx with hx | hx
      · exact hq x hx
      · rw [List.mem_singleton.mp hx]
        simpa using hb
  · rintro Γi ⟨⟨b, rfl⟩, hq⟩
    refine ⟨rfl, ?_⟩
    rw [List.length_map, List.take_length] at hq
    unfold holder
    rw [List.find?_eq_none.mpr fun x hx => by simpa using hq x hx]; rfl
  · intro i u hi
    match i, hi with
    | 0, hi => cases hi; exact sc_int k
    | 1, hi => cases hi
    | i + 2, hi => simp at hi
  · rintro Γ1 ⟨rfl, hf⟩
    exact GS.one (G1.ret (EV.cast EV.non (by show tN = tD (optD (holder p k)); rw [hf]; rfl)))
end
end Rk
/-! part D23 -/
namespace Rk
open PySem PySem.Spec L2
/-! ### outcomes -/
abbrev cO (K : PySem.W.Frag) : Addr := He.ga K "Outcome"
abbrev cR (K : PySem.W.Frag) : Addr := He.ga K "Replace"
def trO (R ends : Rows) : PyData := .tuple [.tuple (R.map dP), .tuple [], .tuple (ends.map dP)]
def tOut (K : PySem.W.Frag) (R ends : Rows) : Ty := ⟨fun v H => ∃ a dx u, v = .ref a ∧ H a = some (.ins (cO K) dx [("triple", u)]) ∧ Dv H u (trO R ends), fun e ⟨a, dx, u, h1, h2, h3⟩ => ⟨a, dx, u, h1, e _ _ h2, h3.mono e⟩⟩
def tRep (K : PySem.W.Frag) : Ty := ⟨fun v H => ∃ a dx, v = .ref a ∧ H a = some (.ins (cR K) dx []), fun e ⟨a, dx, h1, h2⟩ => ⟨a, dx, h1, e _ _ h2⟩⟩
section
variable {P : Program} {w : World} {K : PySem.W.Frag} {mg : Str → Option Value} {base : Heap} {X : Cx} {Γ : Gm} {e i o : Expr} {t : Ty} {st : Stmt} {ss : List Stmt} {N C K1 : Gm → Prop} {R ends : Rows} {pos p : Pos}
theorem Txt.clsO (T : Txt K mg) : Cls K (cO K) := He.cls_ok (T.s.a.fact 77 (f := .cls "Outcome"))
theorem Txt.clsR (T : Txt K mg) : Cls K (cR K) := He.cls_ok (T.s.a.fact 78 (f := .cls "Replace"))
theorem Txt.triple (T : Txt K mg) : NoAttr K (cO K) "triple" := He.noat_ok (T.s.a.fact 80 (f := .noat "Outcome" "triple"))
theorem EV.triple (h : EV X Γ e (tOut X.K R ends)) (T : Txt X.K X.mg) (hb : attributeBase e "triple" X.env (eval e X.env) = eval e X.env := by rfl) : EV X Γ (.Attribute e "triple" pos) (tD (trO R ends)) :=
  EV.of (pe_fld h hb) fun σ H B Q sa q => ⟨B, sa, fun v H' B' s r => by
    obtain ⟨a, dx, u, rfl, h1, h2⟩ := r
    exact ⟨a, _, dx, _, u, rfl, s.s _ _ h1, T.clsO, T.triple, rfl, q _ _ _ s h2⟩⟩
theorem sc_Outcome_left : FnScope ["self", "row", "key"] ["self"] (defScope s_Outcome_left) := ⟨rfl, rfl, rfl, by decide +kernel, rfl, by decide +kernel, by decide +kernel⟩
theorem ok_left (T : Txt K mg) : ∃ fd, FnOk P w K mg base CX0 1 (He5.wf K (cO K) "property" "left") fd ["self"] (spT (A := Rows × Rows) (fun a => [tOut K a.1 a.2]) (fun a => True) (fun a => tD (dT (keys a.2)))) ∧ Binds K fd ["self"] [] := by
  obtain ⟨fd, F, h⟩ := T.typed (P := P) (w := w) (base := base) (k := 0) (A := Rows × Rows) (ts := fun a => [tOut K a.1 a.2]) (pre := fun a => True) (tc := fun a => tD (dT (keys a.2))) 61 sc_Outcome_left (fun _ => rfl) rfl fun f cdv Ar outer s H E a hp hr => by
    refine GS.one (G1.ret (EV.callT (T.free 3) c_tupL (EA.one (EV.cast (EV.lc (pd := fun _ => true) (f := fun r : Int × Int => .int r.1) [("row", 1), ("key", 2)] (IV.tup (c := dP) (xs := a.2) (EV.ixT (EV.triple (EV.var 0 (t := tOut K a.1 a.2)) T) EV.int rfl)) (fun s H C cl fp => pg_tup rfl (pgs_cons (pg_name (i := 1) sc_Outcome_left.nd rfl (Or.inl rfl)) (pgs_cons (pg_name (i := 2) sc_Outcome_left.nd rfl (Or.inl rfl)) pgs_nil))) (TgOk.pair 1 2) (fun p _ s H C cl fp => CTs.nil) (fun r _ _ s H C cl fp => EV.var 1 (t := tI r.1)) sc_Outcome_left.nd) ?_))))
    rw [filter_yes]
    show _ = tD (.list ((a.2.map (·.1)).map .int))
    rw [List.map_map]; rfl
  exact ⟨fd, h, F.binds fun _ _ _ _ _ _ us hl => match us, hl with | [_], _ => rfl⟩
theorem sc_Outcome_held : FnScope ["self", "row", "key"] ["self"] (defScope s_Outcome_held) := ⟨rfl, rfl, rfl, by decide +kernel, rfl, by decide +kernel, by decide +kernel⟩
theorem ok_held (T : Txt K mg) : ∃ fd, FnOk P w K mg base CX0 1 (He5.wf K (cO K) "property" "held") fd ["self"] (spT (A := Rows × Rows) (fun a => [tOut K a.1 a.2]) (fun a => True) (fun a => tD (dT (srt (a.2.map (·.2)))))) ∧ Binds K fd ["self"] [] := by
  obtain ⟨fd, F, h⟩ := T.typed (P := P) (w := w) (base := base) (k := 0) (A := Rows × Rows) (ts := fun a => [tOut K a.1 a.2]) (pre := fun a => True) (tc := fun a => tD (dT (srt (a.2.map (·.2))))) 62 sc_Outcome_held (fun _ => rfl) rfl fun f cdv Ar outer s H E a hp hr => by
    refine GS.one (G1.ret (EV.callT (T.free 3) c_tupL (EA.one (EV.callB (T.free 9) c_sortedL (EA.one (EV.cast (EV.lc (pd := fun _ => true) (f := fun r : Int × Int => .int r.2) [("row", 1), ("key", 2)] (IV.tup (c := dP) (xs := a.2) (EV.ixT (EV.triple (EV.var 0 (t := tOut K a.1 a.2)) T) EV.int rfl)) (fun s H C cl fp => pg_tup rfl (pgs_cons (pg_name (i := 1) sc_Outcome_held.nd rfl (Or.inl rfl)) (pgs_cons (pg_name (i := 2) sc_Outcome_held.nd rfl (Or.inl rfl)) pgs_nil))) (TgOk.pair 1 2) (fun p _ s H C cl fp => CTs.nil) (fun r _ _ s H C cl fp => EV.var 2 (t := tI r.2)) sc_Outcome_held.nd) ?_))))))
    rw [filter_yes]
    show _ = tD (.list ((a.2.map (·.2)).map .int))
    rw [List.map_map]; rfl
  exact ⟨fd, h, F.binds fun _ _ _ _ _ _ us hl => match us, hl with | [_], _ => rfl⟩
theorem out_ins (v : V) (B : Hp) (h : (tOut K R ends).R v B) : ∃ a dx fs, v = .ref a ∧ B a = some (.ins (cO K) dx fs) := let ⟨a, dx, u, h1, h2, _⟩ := h; ⟨a, dx, _, h1, h2⟩
theorem EV.left (T : Txt X.K X.mg) (hr : Room 2 X.A) (h : EV X Γ e (tOut X.K R ends)) (hab : attributeBase e "left" X.env (eval e X.env) = eval e X.env := by rfl) : EV X Γ (.Attribute e "left" pos) (tD (dT (keys ends))) := by
  obtain ⟨fd, F, hb⟩ := ok_left (P := X.prog) (w := X.w) (base := X.base) T
  exact EV.prop h (fun v B => out_ins v B) T.clsO (propOf T.ex.p2) F hb hr (R, ends) trivial rfl hab
theorem EV.held (T : Txt X.K X.mg) (hr : Room 2 X.A) (h : EV X Γ e (tOut X.K R ends)) (hab : attributeBase e "held" X.env (eval e X.env) = eval e X.env := by rfl) : EV X Γ (.Attribute e "held" pos) (tD (dT (srt (ends.map (·.2))))) := by
  obtain ⟨fd, F, hb⟩ := ok_held (P := X.prog) (w := X.w) (base := X.base) T
  exact EV.prop h (fun v B => out_ins v B) T.clsO (propOf T.ex.p3) F hb hr (R, ends) trivial rfl hab
abbrev fOL (K : PySem.W.Frag) : Addr := He.ma K (He.ga K "Outcome") "__len__"
theorem Txt.mLen (T : Txt K mg) : Meth K (cO K) "__len__" (fOL K) := He.meth_ok (T.s.a.fact 86 (f := .meth "Outcome" "__len__"))
theorem sc_Outcome_len : FnScope ["self"] ["self"] (defScope s_Outcome_len) := ⟨rfl, rfl, rfl, by decide +kernel, rfl, by decide +kernel, by decide +kernel⟩
theorem ok_Outcome_len (T : Txt K mg) : FnR P w K mg base CX0 1 (fOL K) (spT (A := Rows × Rows) (fun a => [tOut K a.1 a.2]) (fun a => True) (fun a => tI (a.2.length : Nat))) := by
  refine FnT.top T 63 sc_Outcome_len (fun _ _ _ _ _ _ us hl => match us, hl with | [_], _ => rfl) (fun _ => rfl) fun f cdv Ar outer s H E a hp hr => ?_
  exact GS.one (G1.ret (EV.cast (EV.callB (T.free 5) c_lenT (EA.one (EV.ixT (EV.triple (EV.var 0 (t := tOut K a.1 a.2)) T) EV.int (d := .tuple (a.2.map dP)) rfl))) (by rw [List.length_map])))
end
end Rk
/-! part D24 -/
namespace Rk
open PySem PySem.Spec L2
section
variable {P : Program} {w : World} {K : PySem.W.Frag} {mg : Str → Option Value} {base : Heap} {X : Cx} {Γ : Gm} {e i o e1 e2 e3 : Expr} {t : Ty} {st : Stmt} {ss : List Stmt} {N C K1 : Gm → Prop} {R ends : Rows} {pos p : Pos}
/-- len of an outcome -/
theorem c_lenO (T : Txt X.K X.mg) (hr : Room 2 X.A) (hl : ends.length ≤ 1000) : Clt X (.builtin "len") [tOut X.K R ends] (tI (ends.length : Nat)) := by
  rintro pins s σ H xs us Q I r ⟨B, sm, ar, q⟩
  obtain ⟨v, rfl, hv⟩ := ar.one
  obtain ⟨ad, dx, u, rfl, h1, h2⟩ := id hv
  rw [Vals.ref1 r]
  obtain ⟨mA, O, _⟩ := ins_get I.hok (sm _ _ h1)
  obtain ⟨od, J, _⟩ := O.look
  obtain ⟨mm, fr⟩ := I.fr
  refine PySem.W.len_K fr I.ok.mod.kin J T.mLen.at_ T.mLen.fn (wpAny_mono (FnT.go (ok_Outcome_len (P := X.prog) (w := X.w) (base := X.base) T) (Ar := X.A.in1) (vs := [V.ref ad]) hr.in1 I.env0.in1 I (Paired.cons (show RelV (V.ref ad) (Value.ref ad) from rfl) Paired.nil) (R, ends) trivial sm (.cons hv .nil) (Q := fun v H' => v = .int (ends.length : Nat) ∧ Q v H') fun v H' B' s1 r1 => ⟨tI_R r1, q v H' B' s1 r1⟩) (fun r s' hr' => ?_) fun _ _ z => z)
  obtain ⟨v', H', I', rv', e, q'⟩ := hr'
  subst e
  obtain ⟨tk, rfl⟩ := rv'
  refine ⟨⟨by omega, by omega⟩, .int (ends.length : Nat), H', I'.tok _, ⟨_, rfl⟩, q'⟩
/-! ### an outcome is made -/
abbrev fOI (K : PySem.W.Frag) : Addr := He.ma K (He.ga K "Outcome") "__init__"
def spO (K : PySem.W.Frag) : Sp := fun vs H Q _ => ∃ (x dx : Addr) (a b c : V) (R ends : Rows) (B : Hp), vs = [.ref x, a, b, c] ∧ Same B H ∧ H x = some (.ins (cO K) dx []) ∧ B x = none ∧ Dv B a (.tuple (R.map dP)) ∧ Dv B b (.tuple []) ∧ Dv B c (.tuple (ends.map dP)) ∧
  ∀ H' B' u, Stp H B H' B' → B' x = none → Dv B' u (trO R ends) → Q .non (upd H' x (.ins (cO K) dx [("triple", u)]))
theorem sc_Outcome_init : FnScope ["self", "rows", "stop", "ends"] ["self", "rows", "stop", "ends"] (defScope s_Outcome_init) := ⟨rfl, rfl, rfl, by decide +kernel, rfl, by decide +kernel, by decide +kernel⟩
theorem ok_Outcome_init (T : Txt K mg) : FnR P w K mg base CX0 1 (fOI K) (spO K) := by
  obtain ⟨fd, F⟩ := T.def_ 60 (at_ := fun K => He.ma K (He.ga K "Outcome") "__init__") (nm := "__init__") (q := "Outcome.__init__") (st := s_Outcome_init)
  have h : FnOk P w K mg base CX0 1 (fOI K) fd ["self", "rows", "stop", "ends"] (spO K) := F.ok (k := 0) sc_Outcome_init (fun vs H Q E h => ?_) fun cdv A outer s H vs Q E hr h => ?_
  · exact (h.raw (F.binds fun _ _ _ _ _ _ us hl => match us, hl with | [_, _, _, _], _ => rfl) .nil).imp fun vs H Q E z => by rw [List.append_nil]; exact z
  · obtain ⟨x, dx, a, b, c, R, ends, B, rfl, _⟩ := h
    rfl
  · obtain ⟨x, dx, a, b, c, R, ends, B, rfl, sm, hx, hBx, ha, hb, hc, q⟩ := h
    let Γ : Gm := [none, some (.ty (tD (.tuple (R.map dP)))), some (.ty (tD (.tuple []))), some (.ty (tD (.tuple (ends.map dP))))]
    have sa : Sa Γ (start ["self", "rows", "stop", "ends"] [.ref x, a, b, c]) H B := ⟨rfl, sm, fun i u e => by
      match i, e with
      | 0, e => cases e
      | 1, e => cases e; exact ⟨_, rfl, ha⟩
      | 2, e => cases e; exact ⟨_, rfl, hb⟩
      | 3, e => cases e; exact ⟨_, rfl, hc⟩
      | i + 4, e => simp [Γ] at e⟩
    refine ⟨_, pss_one (ps_fld (pe_var (i := 0) rfl (Or.inl rfl)) (EV.tup (Γ := Γ) (ds := [.tuple (R.map dP), .tuple [], .tuple (ends.map dP)]) (EA.cons (EV.var 1) (EA.cons (EV.var 2) (EA.one (EV.var 3))))) rfl), ?_⟩
    refine ⟨B, sa, fun y H1 B1 s1 r1 => ⟨.ref x, rfl, x, cO K, dx, [], rfl, s1.h _ _ hx, T.clsO, T.triple, by decide, ?_⟩⟩
    exact q H1 B1 y s1 (s1.f _ hBx (by rw [hx]; exact fun z => nomatch z)) r1
theorem Txt.mkO (T : Txt K mg) : Mk K (cO K) (fOI K) := He.mkr_ok (T.s.a.fact 82 (f := .mkr "Outcome"))
theorem EV.mkOut {pp : Pos} (T : Txt X.K X.mg) (hr : Room 2 X.A) (h1 : EV X Γ e1 (tD (.tuple (R.map dP)))) (h2 : EV X Γ e2 (tD (.tuple []))) (h3 : EV X Γ e3 (tD (.tuple (ends.map dP)))) (hg : Gl X "Outcome" := by rfl)
    (he1 : starEach [e1, e2, e3] X.env = (false, eval e1 X.env) :: starEach [e2, e3] X.env := by rfl) (he2 : starEach [e2, e3] X.env = (false, eval e2 X.env) :: starEach [e3] X.env := by rfl) (he3 : starEach [e3] X.env = (false, eval e3 X.env) :: starEach [] X.env := by rfl) (hpl : (backTo pos (starEach [e2, e3] X.env)).any (·.1) = false := by rfl) :
    EV X Γ (.Call (.Name "Outcome" pp) [e1, e2, e3] [] pos) (tOut X.K R ends) := by
  refine EV.of (StX.pe_makeR (E := E0) T.mkO (ok_Outcome_init (P := X.prog) (w := X.w) (base := X.base) T) hr hg (T.glo 72) (fun _ _ _ _ _ _ _ z => z.elim) (EA.cons h1 (EA.cons h2 (EA.one h3 he3) he2) he1) (by decide) he1 hpl) fun σ H B Q sa q => ⟨B, sa, fun vs H1 B1 s1 r1 => ?_⟩
  obtain ⟨a, b, c, rfl, ra, rb, rc⟩ := r1.three
  intro x dx hx hdx hne
  have hBx : B1 x = none := s1.s.free hx
  have e1 : Same H1 (upd (upd H1 dx (.own x)) x (.ins (cO X.K) dx [])) := fun a o e => by
    rw [upd_ne (ne_of_none e hx), upd_ne (ne_of_none e hdx)]; exact e
  refine ⟨x, dx, a, b, c, R, ends, B1, rfl, s1.s.trans e1, upd_same, hBx, ra, rb, rc, fun H' B' u st hBx' du => ⟨rfl, ?_⟩⟩
  refine q (.ref x) _ (upd B' x (.ins (cO X.K) dx [("triple", u)])) (s1.trans ⟨fun a o e => ?_, fun a o e => ?_, fun a o e => ?_, fun a h5 h6 => ?_⟩) ⟨x, dx, u, rfl, upd_same, du.mono (same_upd hBx')⟩
  · rw [upd_ne (ne_of_none e hx)]; exact st.h a o (e1 a o e)
  · rw [upd_ne (ne_of_none e hBx)]; exact st.b a o e
  · by_cases ha : a = x
    · subst ha; rw [upd_same] at e ⊢; exact e
    · rw [upd_ne ha] at e ⊢; exact st.s a o e
  · have a2 : a ≠ x := fun z => h6 (z ▸ hx)
    rw [upd_ne a2]
    refine st.f a h5 fun z => ?_
    cases q1 : H1 a with
    | none => exact h6 q1
    | some o => exact absurd ((e1 a o q1).symm.trans z) fun z => nomatch z
/-! ### Replace's own methods -/
abbrev fRh (K : PySem.W.Frag) : Addr := He.ma K (He.ga K "Replace") "halts"
abbrev fRs (K : PySem.W.Frag) : Addr := He.ma K (He.ga K "Replace") "settle"
abbrev fRc (K : PySem.W.Frag) : Addr := He.ma K (He.ga K "Replace") "__call__"
theorem Txt.mHalts (T : Txt K mg) : Meth K (cR K) "halts" (fRh K) := He.meth_ok (T.s.a.fact 87 (f := .meth "Replace" "halts"))
theorem Txt.mSettle (T : Txt K mg) : Meth K (cR K) "settle" (fRs K) := He.meth_ok (T.s.a.fact 88 (f := .meth "Replace" "settle"))
theorem Txt.mCall (T : Txt K mg) : Meth K (cR K) "__call__" (fRc K) := He.meth_ok (T.s.a.fact 89 (f := .meth "Replace" "__call__"))
theorem Txt.keepR (T : Txt K mg) : PySem.W.keepIn K (.ref (cR K)) = true := He.keep_ok (T.s.a.fact 90 (f := .keep "Replace"))
theorem sc_halts : FnScope ["self"] ["self"] (defScope s_Continues_halts) := ⟨rfl, rfl, rfl, by decide +kernel, rfl, by decide +kernel, by decide +kernel⟩
theorem ok_halts (T : Txt K mg) : ∃ fd, FnOk P w K mg base CX0 1 (fRh K) fd ["self"] (spT (A := Unit) (fun _ => [tRep K]) (fun _ => True) (fun _ => tB false)) ∧ Binds K fd ["self"] [] := by
  obtain ⟨fd, F, h⟩ := T.typed (P := P) (w := w) (base := base) (k := 0) (A := Unit) (ts := fun _ => [tRep K]) (pre := fun _ => True) (tc := fun _ => tB false) 64 sc_halts (fun _ => rfl) rfl fun f cdv Ar outer s H E a hp hr => by
    exact GS.one (G1.ret EV.bl)
  exact ⟨fd, h, F.binds fun _ _ _ _ _ _ us hl => match us, hl with | [_], _ => rfl⟩
/-- self.halts() -/
theorem EV.halts {ap : Pos} {pl : Sem Bool} (T : Txt X.K X.mg) (hr : Room 1 X.A) (h : EV X Γ e (tRep X.K)) (ht : eval (.Call (.Attribute e "halts" ap) [] [] pos) X.env = (do
      let ov ← eval e X.env
      standAt ap.atName
      let (f, first) ← holding [ov] (getMethod ov "halts" pl)
      callWith pos f first (backTo pos (starEach [] X.env)) (backToKw pos (keywordEach [] X.env))) := by rfl) : EV X Γ (.Call (.Attribute e "halts" ap) [] [] pos) (tB false) := by
  obtain ⟨fd, F, hb⟩ := ok_halts (P := X.prog) (w := X.w) (base := X.base) T
  refine EV.of (pe_meth0 (E := E0) h T.clsR T.mHalts F hr hb .nil (fun _ _ _ _ _ _ _ z => z.elim) ht) fun σ H B Q sa q => ⟨B, sa, fun v H1 B1 s1 r1 => ?_⟩
  obtain ⟨a, dx, rfl, h1⟩ := id r1
  exact ⟨a, dx, [], rfl, s1.s _ _ h1, rfl, (), B1, trivial, s1.s, .cons r1 .nil, fun v H2 B2 s2 r2 => q v H2 B2 (s1.trans s2) r2⟩
def spSe : Sp := fun vs H Q _ => ∃ (self : V) (d : Addr) (kv : List (Key × V)) (row holder new : Int), vs = [self, .ref d, .int row, .int holder, .int new] ∧ H d = some (.dK kv) ∧ kv.length + 2 < sizeLine ∧ Q .non (upd H d (.dK (putK (putK kv (Sum.inl holder) .non) (Sum.inl row) (.int new))))
theorem sc_settle : FnScope ["self", "places", "row", "holder", "new"] ["self", "places", "row", "holder", "new"] (defScope s_Removes_settle) := ⟨rfl, rfl, rfl, by decide +kernel, rfl, by decide +kernel, by decide +kernel⟩
theorem upd_upd (H : Hp) (a : Addr) (x y : HO) : upd (upd H a x) a y = upd H a y := by
  funext b
  by_cases h : b = a
  · subst h; rw [upd_same, upd_same]
  · rw [upd_ne h, upd_ne h, upd_ne h]
theorem ok_settle (T : Txt K mg) : ∃ fd, FnOk P w K mg base CX0 1 (fRs K) fd ["self", "places", "row", "holder", "new"] spSe ∧ Binds K fd ["self", "places", "row", "holder", "new"] [] := by
  obtain ⟨fd, F⟩ := T.def_ 65 (at_ := fun K => He.ma K (He.ga K "Replace") "settle") (nm := "settle") (q := "Removes.settle") (st := s_Removes_settle)
  refine ⟨fd, F.ok (k := 0) sc_settle (fun vs H Q E h => ?_) (fun cdv A outer s H vs Q E hr h => ?_), F.binds fun _ _ _ _ _ _ us hl => match us, hl with | [_, _, _, _, _], _ => rfl⟩
  · obtain ⟨self, d, kv, row, holder, new, rfl, _⟩ := h
    rfl
  · obtain ⟨self, d, kv, row, holder, new, rfl, hd, hl, q⟩ := h
    refine ⟨_, pss_cons (ps_dput (hu_of hr) (pe_var (i := 1) rfl (Or.inl rfl)) (pe_var (i := 3) rfl (Or.inl rfl)) pe_non rfl) (pss_one (ps_dput (hu_of hr) (pe_var (i := 1) rfl (Or.inl rfl)) (pe_var (i := 2) rfl (Or.inl rfl)) (pe_var (i := 4) rfl (Or.inl rfl)) rfl)), ?_⟩
    refine ⟨_, rfl, _, rfl, d, _, rfl, .inl ⟨kv, Sum.inl holder, hd, rfl, by omega, rfl⟩, ?_⟩
    have h1 := length_putK kv (Sum.inl holder : Key) .non
    refine ⟨_, rfl, _, rfl, _, rfl, d, _, rfl, .inl ⟨_, Sum.inl row, upd_same, rfl, by omega, rfl⟩, ?_⟩
    show Q .non _
    rw [upd_upd]; exact q
end
end Rk
/-! part D25 -/
namespace Rk
open PySem PySem.Spec L2
theorem putA_new {l : List (Int × PyData)} {k : Int} {d : PyData} (h : k ∉ l.map (·.1)) : putA l k d = l ++ [(k, d)] := by
  unfold putA
  rw [if_neg]
  intro z
  obtain ⟨p, hp, e⟩ := List.any_eq_true.mp z
  exact h (List.mem_map.mpr ⟨p, hp, of_decide_eq_true e⟩)
section
variable {J : It} {n : Nat} {G : Hp → Prop} {Y : Nat → Hp → V → Hp → Prop}
theorem dc_it (w : Walk J n G Y) {g : TG} {tt : TT} {tk tv : TE} {vs : List Nat} {σ : St} {H1 : Hp} {D : Addr} {Qd : Hp → Prop} (Pv : Nat → Hp → Prop) (h0 : Pv 0 (upd H1 D (.dK []))) (hG : ∀ i H, i ≤ n → Pv i H → G H)
    (hs : ∀ i x H H', i < n → Pv i H → Y i H x H' → g x (wipe σ vs) H' fun σ2 H2 => wipe σ2 vs = wipe σ vs ∧ tt σ2 H2 fun b H3 =>
      if b = true then tk σ2 H3 fun y H4 => tv σ2 H4 fun z H5 => ∃ kvs k, y = kV k ∧ H5 D = some (.dK kvs) ∧ kvs.length < sizeLine ∧ Pv (i + 1) (upd H5 D (.dK (putK kvs k z))) else Pv (i + 1) H3) (hd : ∀ H, Pv n H → Qd H) :
    ∃ W : Nat → Nat → Hp → Prop, (∃ m, W 0 m (upd H1 D (.dK []))) ∧ ∀ i m H, W i m H →
      (J.stop i H ∧ Qd H) ∨ (J.go i H ∧ ∃ Nx : Hp → Prop, (∀ H', Nx H' → ∃ m', m' < m ∧ W (i + 1) m' H') ∧ ∀ x H', J.yld i H x H' → g x (wipe σ vs) H' fun σ2 H2 => wipe σ2 vs = wipe σ vs ∧ tt σ2 H2 fun b H3 =>
        if b = true then tk σ2 H3 fun y H4 => tv σ2 H4 fun z H5 => ∃ kvs k, y = kV k ∧ H5 D = some (.dK kvs) ∧ kvs.length < sizeLine ∧ Nx (upd H5 D (.dK (putK kvs k z))) else Nx H3) := by
  refine ⟨fun i m H => m = n - i ∧ i ≤ n ∧ Pv i H, ⟨n, by simp, Nat.zero_le _, h0⟩, ?_⟩
  rintro i m H ⟨rfl, hi, p⟩
  have q := hG i H hi p
  by_cases hlt : i < n
  · exact .inr ⟨w.goes i H hlt q, Pv (i + 1), fun H' p' => ⟨n - (i + 1), by omega, rfl, hlt, p'⟩, fun x H' y => hs i x H H' hlt p (w.yields i H x H' hlt q y)⟩
  · have e : i = n := by omega
    subst e
    exact .inl ⟨w.stops H q, hd H p⟩
end
section
variable {P : Program} {w : World} {K : PySem.W.Frag} {mg : Str → Option Value} {base : Heap} {X : Cx} {Γ : Gm} {e i o e1 e2 e3 : Expr} {t : Ty} {st : Stmt} {ss : List Stmt} {N C K1 : Gm → Prop} {R ends : Rows} {pos p px py pt pt2 : Pos} {x y : Str} {kt k2 : Nat}
theorem dc_own {α : Type} {g : TG} {u : α → Ty} {xs : List α} {Γt : α → Gm} {kf : α → Int} {df : α → PyData} {js vs : List Nat} {σ : St} {H B : Hp} {Q : VK} (hT : TgOk g js u (wipeG Γ vs) Γt) (hj : ∀ j ∈ js, j ∈ vs) (sa : Sa Γ σ H B) (nd : (xs.map kf).Nodup)
    (q : ∀ D ho H' B', Stp H B H' B' → H D = none → B' D = none → H' D = some ho → (oD (xs.map fun a => (kf a, df a))).ok D ho B' → Q (.ref D) H') :
    tDc (IVr Γ u xs) g (fun σ H Q => ∃ a, a ∈ xs ∧ rb (Γt a) true σ H Q) (fun σ H Q => ∃ a, a ∈ xs ∧ rd (Γt a) (tI (kf a)) σ H Q) (fun σ H Q => ∃ a, a ∈ xs ∧ rd (Γt a) (tD (df a)) σ H Q) vs σ H Q := by
  refine ⟨B, sa, fun J H1 B1 Gd Y s1 w hG hY hl D hD => dc_it (g := g) (tt := fun σ H Q => ∃ a, a ∈ xs ∧ rb (Γt a) true σ H Q) (tk := fun σ H Q => ∃ a, a ∈ xs ∧ rd (Γt a) (tI (kf a)) σ H Q) (tv := fun σ H Q => ∃ a, a ∈ xs ∧ rd (Γt a) (tD (df a)) σ H Q) (vs := vs) (σ := σ) (H1 := H1) (D := D) (Qd := fun H => Q (.ref D) H) w (fun i Hc => ∃ kv Bc, Stp H1 B1 Hc Bc ∧ Bc D = none ∧ Hc D = some (.dK kv) ∧ (oD ((xs.take i).map fun a => (kf a, df a))).ok D (.dK kv) Bc) ?_ ?_ ?_ ?_⟩
  · exact ⟨[], B1, Stp.grow s1.s (same_upd hD), s1.s.free hD, upd_same, [], rfl, Nat.zero_le _, by simp, by simpa using Da.nil⟩
  · rintro i Hc _ ⟨kv, Bc, st, _⟩
    exact hG Hc Bc st.b st.s
  · rintro i x Hc H2 hi ⟨kv, Bc, st, hb, hd, ha⟩ hy
    obtain ⟨a, B3, hx, s3, rx⟩ := hY i x Hc H2 Bc st.b st.s hy
    have hm : a ∈ xs := List.mem_of_getElem? hx
    have st3 := st.trans s3
    refine hT a x _ _ B3 _ ((sa.mono (s1.trans st3)).wipe vs) rx fun σ' sa' hl' hsame => ⟨?_, a, hm, B3, sa', fun H4 B4 s4 => ?_⟩
    · rw [wipe_eq hl' fun i hi => hsame i fun z => hi (hj i z), wipe_wipe fun v hv => hv]
    · have hb4 : B4 D = none := (s3.trans s4).f D hb (by rw [hd]; exact fun z => nomatch z)
      have hd4 : H4 D = some (.dK kv) := s4.h _ _ (s3.h _ _ hd)
      have hlt : i < xs.length := (List.getElem?_eq_some_iff.mp hx).1
      have htk : xs.take (i + 1) = xs.take i ++ [a] := by
        rw [List.take_add_one, hx]; rfl
      have hnew : kf a ∉ ((xs.take i).map fun a => (kf a, df a)).map (·.1) := by
        intro z
        rw [List.map_map] at z
        obtain ⟨b, hb1, hb2⟩ := List.mem_map.mp z
        have h2 : ((xs.take (i + 1)).map kf).Nodup := by
          rw [List.map_take]
          exact nd.sublist (List.take_sublist _ _)
        rw [htk, List.map_append, List.nodup_append] at h2
        exact h2.2.2 (kf b) (List.mem_map.mpr ⟨b, hb1, rfl⟩) (kf a) (by simp) hb2
      refine iteT ⟨a, hm, B4, sa'.mono s4, fun v H5 B5 s5 r5 => ⟨a, hm, B5, (sa'.mono s4).mono s5, fun v6 H6 B6 s6 r6 => ?_⟩⟩
      cases tI_R r5
      have hb5 : B5 D = none := s5.f D hb4 (by rw [hd4]; exact fun z => nomatch z)
      have hd5 : H5 D = some (.dK kv) := s5.h _ _ hd4
      have hb6 : B6 D = none := s6.f D hb5 (by rw [hd5]; exact fun z => nomatch z)
      have st6 := st3.trans (s4.trans (s5.trans s6))
      obtain ⟨kv', e, h1, h2, h3⟩ := ha
      cases e
      have hkl : kv.length = i := by
        have := congrArg List.length h2
        simp only [List.length_map, List.length_take] at this
        omega
      refine ⟨kv, Sum.inl (kf a), rfl, s6.h _ _ hd5, lim_lt (by omega), putK kv (Sum.inl (kf a)) v6, B6, ?_, hb6, upd_same, ?_⟩
      · refine ⟨fun b o e => ?_, st6.b, fun b o e => ?_, st6.f⟩
        · rw [upd_ne (ne_of_none e hD)]; exact st6.h b o e
        · rw [upd_ne (ne_of_none e hb6)]; exact st6.s b o e
      · have := putA_ok (p := D) (k := kf a) r6 (by omega : kv.length < lim) h2 (h3.mono (s3.b.trans (s4.b.trans (s5.b.trans s6.b))))
        rw [putA_new hnew] at this
        rw [htk, List.map_append]
        exact this
  · rintro Hc ⟨kv, Bc, st, hb, hd, ha⟩
    rw [List.take_of_length_le (Nat.le_refl _)] at ha
    exact q D _ Hc Bc (s1.trans st) (s1.h.free hD) hb hd ha
/-- a, b = {..: .. for ..}, e; a one's own dict from then on -/
theorem G1.tupDc {α : Type} {kx vx tg iter : Expr} {scope : Scope} {g : TG} {ut : α → Ty} {xs : List α} {Γt : α → Gm} {kf : α → Int} {df : α → PyData} {js : List Nat} {u1 : Ty} (i j : Nat) (own : List (Str × Nat)) (hi : IV X Γ tg iter ut xs) (hgb : ∀ (s : Shared) (H : Hp) (C : Addr) (cl : List (Str × Addr)) (fp : List Addr), PG (X.blk s H scope (compEnvC scope cl C X.env) fp) tg g)
    (hT : TgOk g js ut (wipeG Γ (own.map (·.2))) Γt) (hnd : (xs.map kf).Nodup)
    (hkx : ∀ a ∈ xs, ∀ (s : Shared) (H : Hp) (C : Addr) (cl : List (Str × Addr)) (fp : List Addr), EV (X.blk s H scope (compEnvC scope cl C X.env) fp) (Γt a) kx (tI (kf a)))
    (hvx : ∀ a ∈ xs, ∀ (s : Shared) (H : Hp) (C : Addr) (cl : List (Str × Addr)) (fp : List Addr), EV (X.blk s H scope (compEnvC scope cl C X.env) fp) (Γt a) vx (tD (df a)))
    (h1 : EV X Γ e1 u1) (nd : X.N.Nodup) (hlen : i < Γ.length := by exact Nat.le_of_ble_eq_true rfl) (hij : i ≠ j := by decide) (hs : swapsWithSole [.Tuple [.Name x px, .Name y py] kt pt] (.Tuple [.DictComp kx vx [⟨tg, iter, [], 0⟩] scope p, e1] k2 pt2) pos.line X.env = pure false := by rfl) (hw : swappedStores [.Tuple [.Name x px, .Name y py] kt pt] (.Tuple [.DictComp kx vx [⟨tg, iter, [], 0⟩] scope p, e1] k2 pt2) X.env = pure none := by rfl)
    (hxi : X.N[i]? = some x := by rfl) (hyj : X.N[j]? = some y := by rfl) (hx : Loc X.env.scope x := by first | exact .inl rfl | exact .inr rfl) (hy : Loc X.env.scope y := by first | exact .inl rfl | exact .inr rfl)
    (hfx : X.fn x = true ∨ X.env.scope.names.lookup x = some .local := by first | exact .inl rfl | exact .inr rfl) (hfy : X.fn y = true ∨ X.env.scope.names.lookup y = some .local := by first | exact .inl rfl | exact .inr rfl) (hc : X.calm = true := by rfl) (hh1 : (assignEach [.Tuple [.Name x px, .Name y py] kt pt] X.env).map (·.2) = [assign (.Tuple [.Name x px, .Name y py] kt pt) X.env] := by rfl)
    (h2 : (assignEach [.Name x px, .Name y py] X.env).map (·.2) = assign (.Name x px) X.env :: (assignEach [.Name y py] X.env).map (·.2) := by rfl) (h3 : (assignEach [.Name y py] X.env).map (·.2) = assign (.Name y py) X.env :: (assignEach [] X.env).map (·.2) := by rfl)
    (h4 : (assignEach [.Name x px, .Name y py] X.env).length = 2 := by rfl) (h5 : (assignEach [.Name x px, .Name y py] X.env).findIdx? (·.1) = none := by rfl)
    (hst : starEach [.DictComp kx vx [⟨tg, iter, [], 0⟩] scope p, e1] X.env = (false, eval (.DictComp kx vx [⟨tg, iter, [], 0⟩] scope p) X.env) :: starEach [e1] X.env := by rfl) (hst2 : starEach [e1] X.env = (false, eval e1 X.env) :: starEach [] X.env := by rfl)
    (ok : blkC X.N X.env.scope scope own = true := by kernel_rfl) (hj : ∀ j ∈ js, j ∈ own.map (·.2) := by decide) (hsf : ∀ x, foldedSetIterable iter X.env x = pure x := by intro _; rfl) :
    G1 X Γ (.Assign [.Tuple [.Name x px, .Name y py] kt pt] (.Tuple [.DictComp kx vx [⟨tg, iter, [], 0⟩] scope p, e1] k2 pt2) pos) (· = (Γ.set i (some (.own (oD (xs.map fun a => (kf a, df a)))))).set j (some (.ty u1))) C K1 t := by
  have hdc := pe_dc (X := X) (kx := kx) (vx := vx) (pos := p) (own := own) (g := g) (tt := fun σ H Q => ∃ a, a ∈ xs ∧ rb (Γt a) true σ H Q) (tk := fun σ H Q => ∃ a, a ∈ xs ∧ rd (Γt a) (tI (kf a)) σ H Q) (tv := fun σ H Q => ∃ a, a ∈ xs ∧ rd (Γt a) (tD (df a)) σ H Q) hc nd hi (blkOk_by ok) hgb
    (fun s H C cl fp => ⟨fun pins s' σ H' Q I ⟨a, hm, q⟩ => (CTs.nil (Γ := Γt a)).run pins s' σ H' Q I q⟩)
    (fun s H C cl fp => ⟨fun pins s' σ H' Q I ⟨a, hm, q⟩ => (hkx a hm s H C cl fp).run pins s' σ H' Q I q⟩) (fun s H C cl fp => ⟨fun pins s' σ H' Q I ⟨a, hm, q⟩ => (hvx a hm s H C cl fp).run pins s' σ H' Q I q⟩) hsf
  refine PS.imp (ps_asg (pe_tup (pa_cons hdc (pa_cons h1 pa_nil hst2) hst)) (pg_tup hc (pgs_cons (pg_name nd hxi hx hfx) (pgs_cons (pg_name nd hyj hy hfy) pgs_nil h3) h2) h4 h5) hs hw hh1) ?_
  rintro D σ H ⟨H0, B0, Bl, B, s, n, _⟩
  unfold tAsg tTup tCons
  refine dc_own (df := df) hT hj s.sa hnd fun L ho H' B' k g1 g2 g3 g4 => ?_
  have s' := s.step k
  refine ⟨B', s'.sa, fun v H1 B1 s1 r1 => ⟨by show 2 ≤ sizeLine; decide, fun a ha => ?_⟩⟩
  have s2 := s'.step s1
  have s3 := s2.takeOwn (j := i) (os := oD (xs.map fun a => (kf a, df a))) (D := L) hlen (s.sp.h.free g1) (s1.f _ g2 (by rw [g3]; exact fun z => nomatch z)) (s1.h _ _ g3) (fun m om e e2 => ?_) ((oD _).st s1.b g4)
  · exact ⟨a, _, rfl, SqT.of upd_same, rfl, _, _, rfl, _, _, rfl, rfl, n _ _ _ B1 rfl ((s3.set (i := j) r1).look (same_upd ha))⟩
  · obtain ⟨q, hh, a1, _, _, a4, _⟩ := s.ow m om e
    rw [e2] at a1; cases a1
    rw [g1] at a4; cases a4
end
end Rk
/-! part D26 -/
namespace Rk
open PySem PySem.Spec L2
theorem encP_put (p : Pl) (k : Int) (v : Option Int) (h : k ∈ p.map (·.1)) : putA (encP p) k (optD v) = encP (putP p k v) := by
  unfold putA
  rw [if_pos]
  · unfold encP putP
    rw [List.map_map, List.map_map]
    refine List.map_congr_left fun q _ => ?_
    show (if q.1 = k then (q.1, optD v) else (q.1, optD q.2)) = _
    show _ = ((if q.1 = k then (q.1, v) else q).1, optD (if q.1 = k then (q.1, v) else q).2)
    split <;> rfl
  · obtain ⟨q, hq, e⟩ := List.mem_map.mp h
    exact List.any_eq_true.mpr ⟨(q.1, optD q.2), List.mem_map.mpr ⟨q, hq, rfl⟩, decide_eq_true e⟩
def runTo (R : Rows) (order : List Int) (i : Nat) : Pl := (order.take i).foldl (runStep R) (startP order)
theorem runTo_keys (R : Rows) (order : List Int) (i : Nat) : (runTo R order i).map (·.1) = order := by
  unfold runTo
  rw [foldl_keys, startP_keys]
theorem runTo_zero (R : Rows) (order : List Int) : runTo R order 0 = startP order := rfl
theorem runTo_succ {R : Rows} {order : List Int} {i : Nat} {r : Int} (h : order[i]? = some r) : runTo R order (i + 1) = runStep R (runTo R order i) r := by
  unfold runTo
  rw [List.take_add_one, h, List.foldl_append]; rfl
theorem runTo_all (R : Rows) (order : List Int) : runTo R order order.length = runP R order := by
  unfold runTo runP
  rw [List.take_length]
theorem endsOf_eq (p : Pl) : ((p.filter fun q => !decide (q.2 = none)).map fun q => PyData.tuple [.int q.1, optD q.2]) = (p.filterMap fun q => q.2.map fun k => (q.1, k)).map dP := by
  induction p with
  | nil => rfl
  | cons q p ih =>
    obtain ⟨a, b⟩ := q
    cases b with
    | none => simpa using ih
    | some b =>
      rw [List.filter_cons, if_pos (by simp), List.map_cons, ih, List.filterMap_cons]
      rfl
theorem lock_one {Γ : Gm} {σ : St} {H B : Hp} {l : List (Int × PyData)} (i : Nat) (sa : Sa Γ σ H B) (hi : Γ[i]? = some (some (.ty (tDo l)))) :
    ∃ d kv, B d = some (.dK kv) ∧ ∀ od, Sa ((List.replicate Γ.length none).set i (some (.ty (tFz l)))) σ (upd H d (.frz od (.dK kv))) (upd B d (.frz od (.dK kv))) := by
  obtain ⟨v2, h6, d, kv, rfl, h7, h8, h9, h10⟩ := sa.ty i _ hi
  refine ⟨d, kv, h7, fun od => ⟨by rw [List.length_set, List.length_replicate]; exact sa.ln, fun a o e => ?_, fun j t e => ?_⟩⟩
  · by_cases ha : a = d
    · subst ha; rw [upd_same] at e ⊢; exact e
    · rw [upd_ne ha] at e ⊢; exact sa.sm _ _ e
  · rcases getset e with ⟨rfl, z⟩ | ⟨hn, z⟩
    · cases z
      exact ⟨_, h6, d, od, kv, rfl, upd_same, h8, h9, Da.unl (B := B) h7 (fun _ z => nomatch z) (fun _ z => nomatch z) h10⟩
    · rw [List.getElem?_replicate] at z; split at z <;> cases z
section
variable {P : Program} {w : World} {K : PySem.W.Frag} {mg : Str → Option Value} {base : Heap} {X : Cx} {Γ : Gm} {e i o e1 e2 e3 : Expr} {t : Ty} {st : Stmt} {ss : List Stmt} {N C K1 : Gm → Prop} {R ends : Rows} {pos p p0 p1 p2 p3 p4 p5 p6 ap : Pos}
/-- self.settle(places, row, holder, new) -/
theorem G1.settle {n0 n1 n2 n3 n4 : Str} {l : List (Int × PyData)} {row holder new : Int} (T : Txt X.K X.mg) (hr : Room 1 X.A) (i0 i1 i2 i3 i4 : Nat)
    (g0 : Γ[i0]? = some (some (.ty (tRep X.K))) := by rfl) (g1 : Γ[i1]? = some (some (.own (oD l))) := by rfl) (g2 : Γ[i2]? = some (some (.ty (tI row))) := by rfl) (g3 : Γ[i3]? = some (some (.ty (tI holder))) := by rfl) (g4 : Γ[i4]? = some (some (.ty (tI new))) := by rfl)
    (hl : l.length + 2 < lim)
    (h0 : PE X (.Name n0 p0) (tVar i0)) (h1 : PE X (.Name n1 p1) (tVar i1)) (h2 : PE X (.Name n2 p2) (tVar i2)) (h3 : PE X (.Name n3 p3) (tVar i3)) (h4 : PE X (.Name n4 p4) (tVar i4)) {pl : Sem Bool}
    (s1 : starEach [.Name n1 p1, .Name n2 p2, .Name n3 p3, .Name n4 p4] X.env = (false, eval (.Name n1 p1) X.env) :: starEach [.Name n2 p2, .Name n3 p3, .Name n4 p4] X.env := by rfl)
    (s2 : starEach [.Name n2 p2, .Name n3 p3, .Name n4 p4] X.env = (false, eval (.Name n2 p2) X.env) :: starEach [.Name n3 p3, .Name n4 p4] X.env := by rfl)
    (s3 : starEach [.Name n3 p3, .Name n4 p4] X.env = (false, eval (.Name n3 p3) X.env) :: starEach [.Name n4 p4] X.env := by rfl)
    (s4 : starEach [.Name n4 p4] X.env = (false, eval (.Name n4 p4) X.env) :: starEach [] X.env := by rfl)
    (hpl : (backTo pos (starEach [.Name n2 p2, .Name n3 p3, .Name n4 p4] X.env)).any (·.1) = false := by rfl)
    (ht : eval (.Call (.Attribute (.Name n0 p0) "settle" ap) [.Name n1 p1, .Name n2 p2, .Name n3 p3, .Name n4 p4] [] pos) X.env = (do
      let ov ← eval (.Name n0 p0) X.env
      standAt ap.atName
      let (f, first) ← holding [ov] (getMethod ov "settle" pl)
      callWith pos f first (backTo pos (starEach [.Name n1 p1, .Name n2 p2, .Name n3 p3, .Name n4 p4] X.env)) (backToKw pos (keywordEach [] X.env))) := by rfl)
    (hs : swapsWith (.Call (.Attribute (.Name n0 p0) "settle" ap) [.Name n1 p1, .Name n2 p2, .Name n3 p3, .Name n4 p4] [] pos) none p6.line X.env = pure false := by rfl) :
    G1 X Γ (.Expr (.Call (.Attribute (.Name n0 p0) "settle" ap) [.Name n1 p1, .Name n2 p2, .Name n3 p3, .Name n4 p4] [] pos) p6) (· = Γ.set i1 (some (.own (oD (putA (putA l holder .none) row (.int new)))))) C K1 t := by
  obtain ⟨fd, F, hb⟩ := ok_settle (P := X.prog) (w := X.w) (base := X.base) T
  refine PS.imp (ps_expr (pe_meth (E := E0) h0 T.clsR T.mSettle F hr hb .nil (fun _ _ _ _ _ _ _ z => z.elim) (pa_cons h1 (pa_cons h2 (pa_cons h3 (pa_cons h4 pa_nil s4) s3) s2) s1) s1 hpl ht) hs) fun D σ H ⟨H0, B0, Bl, B, s, n, _⟩ => ?_
  obtain ⟨v0, a0, r0⟩ := s.sa.ty i0 _ g0
  obtain ⟨a, dx, rfl, hh⟩ := id r0
  obtain ⟨v2, a2, r2⟩ := s.sa.ty i2 _ g2
  obtain ⟨v3, a3, r3⟩ := s.sa.ty i3 _ g3
  obtain ⟨v4, a4, r4⟩ := s.sa.ty i4 _ g4
  cases tI_R r2; cases tI_R r3; cases tI_R r4
  obtain ⟨q, h, b1, b2, b3, b4, b5⟩ := s.ow i1 _ g1
  obtain ⟨kv, rfl, c1, c2, c3⟩ := id b5
  have hkl : kv.length = l.length := by simpa using congrArg List.length c2
  refine ⟨_, a0, a, dx, [], rfl, s.sa.sm _ _ hh, rfl, _, b1, _, a2, _, a3, _, a4, ?_⟩
  obtain ⟨kv2, e2, d1, d2, d3⟩ := putA_ok (p := q) (k := holder) (d := .none) (v := .non) (B := B) .non (by omega : kv.length < lim) c2 c3
  have e2 := HO.dK.inj e2
  have hk2 : kv2.length ≤ kv.length + 1 := by rw [← e2]; exact length_putK kv (Sum.inl holder : Key) .non
  refine ⟨_, q, kv, row, holder, new, rfl, b4, by unfold lim at hl; unfold sizeLine; omega, ?_⟩
  rw [e2]
  exact n _ _ _ B rfl (s.store (o' := oD (putA (putA l holder .none) row (.int new))) g1 b1 (putA_ok (.int _) (by omega) d2 d3))
theorem sc_call : FnScope ["self", "table", "order", "places", "stop", "row", "new", "holder", "ends", "key"] ["self", "table", "order"] (defScope s_Rule_call) := ⟨rfl, rfl, rfl, by decide +kernel, rfl, by decide +kernel, by decide +kernel⟩
end
end Rk
/-! part D27 -/
namespace Rk
open PySem PySem.Spec L2
section
variable {P : Program} {w : World} {K : PySem.W.Frag} {mg : Str → Option Value} {base : Heap} {X : Cx} {Γ : Gm}
theorem ok_Rule_call (T : Txt K mg) : ∃ fd, FnOk P w K mg base CX0 6 (fRc K) fd ["self", "table", "order"] (spT (A := Rows × List Int) (fun a => [tRep K, tT K a.1, tD (dT a.2)]) (fun a => WF a.1 ∧ a.2.Perm (keys a.1)) (fun a => tOut K a.1 (endsOf (runP a.1 a.2)))) ∧ Binds K fd ["self", "table", "order"] [] := by
  obtain ⟨fd, F, h⟩ := T.typed (P := P) (w := w) (base := base) (k := 5) (A := Rows × List Int) (ts := fun a => [tRep K, tT K a.1, tD (dT a.2)]) (pre := fun a => WF a.1 ∧ a.2.Perm (keys a.1)) (tc := fun a => tOut K a.1 (endsOf (runP a.1 a.2))) 66 sc_call (fun _ => rfl) rfl fun f cdv Ar outer s H E a hp hr => by
    obtain ⟨R, order⟩ := a
    obtain ⟨wf, hperm⟩ : WF R ∧ order.Perm (keys R) := hp
    have hnd : order.Nodup := hperm.nodup_iff.mpr wf.nodup
    have hlen : order.length ≤ 40 := by rw [hperm.length_eq]; unfold keys; rw [List.length_map]; exact wf.len
    refine GS.seq (G1.expr (EV.call (ok_need_order T) (R, order) ⟨wf, hperm⟩ hr (EA.cons (EV.var 1) (EA.one (EV.var 2))))) ?_
    refine GS.seq (G1.tupDc (kf := fun k : Int => k) (df := fun k : Int => .int k) (u1 := tD (.tuple [])) 3 4 [("key", 9)] (IV.tup (c := fun k : Int => .int k) (xs := order) (EV.var 2)) (fun s H C cl fp => pg_name (i := 9) sc_call.nd rfl (Or.inl rfl)) (TgOk.name 9) (by simpa using hnd) (fun k _ s H C cl fp => EV.var 9 (t := tI k)) (fun k _ s H C cl fp => EV.var 9 (t := tI k)) (EV.tup (ds := []) EA.nil) sc_call.nd) ?_
    let Iv : Nat → Gm → Prop := fun i Γ => ∃ a b c, Γ = [some (.ty (tRep K)), some (.ty (tT K R)), some (.ty (tD (dT order))), some (.own (oD (encP (runTo R order i)))), some (.ty (tD (.tuple []))), a, b, c, none, none]
    refine GS.cons (N1 := Iv order.length) (G1.forN 5 Iv (IV.tup (c := fun k : Int => .int k) (xs := order) (EV.var 2)) ?_ sc_call.nd ?_ fun _ h => h) ?_
    · refine ⟨none, none, none, ?_⟩
      rw [runTo_zero]
      have : encP (startP order) = order.map fun k => (k, PyData.int k) := by
        unfold encP startP
        rw [List.map_map]; rfl
      rw [this]; rfl
    · rintro i row Γi hi ⟨b1, b2, b3, rfl⟩
      have hmem : row ∈ order := List.mem_of_getElem? hi
      have hkey : row ∈ keys R := hperm.mem_iff.mp hmem
      have hmp : row ∈ (runTo R order i).map (·.1) := by rw [runTo_keys]; exact hmem
      have hndp : ((runTo R order i).map (·.1)).Nodup := by rw [runTo_keys]; exact hnd
      have hlp : (runTo R order i).length ≤ 40 := by
        have := congrArg List.length (runTo_keys R order i)
        rw [List.length_map] at this
        omega
      have hsucc := runTo_succ (R := R) hi
      have fin : ∀ {Γ' : Gm} (q : Pl), runTo R order (i + 1) = q → (∃ a b c, Γ' = [some (.ty (tRep K)), some (.ty (tT K R)), some (.ty (tD (dT order))), some (.own (oD (encP q))), some (.ty (tD (.tuple []))), a, b, c, none, none]) → Iv (i + 1) Γ' := fun q e h => by subst e; exact h
      clear_value Iv
      generalize hp : runTo R order i = p at *
      have hle : (encP p).length ≤ 40 := by unfold encP; rw [List.length_map]; exact hlp
      refine GS.seq (G1.set 6 (EV.sub T hr (EV.var 1) (EV.var 5 (t := tI row)) wf hkey) sc_call.nd) ?_
      refine GS.ifR (b := decide (pAt p row = none) || decide (nw R row = row)) (CW.ct (CW.or (CT.cmp (EV.dget (f := fun k => (encP p).lookup k) (hu_of hr) (EV.imp (EV.var 3 (t := tDo (encP p))) fun v B h => tDo_dk h) (EV.var 5 (t := tI row)) (look_pl hmp)) EV.non o_isN) fun _ => CW.or1 (CT.cmp (EV.var 6 (t := tI (nw R row))) (EV.var 5 (t := tI row)) o_eqI))) (fun hb => GS.one (G1.cont (fin p (by rw [hsucc]; unfold runStep; rw [if_pos (by simpa using hb)]) ⟨_, _, _, rfl⟩))) fun hb => ?_
      · have hb2 : ¬ (pAt p row = none ∨ nw R row = row) := by simpa using hb
        refine GS.seq (G1.setPk 7 (EV.call (ok_holder_of T) (p, nw R row) hndp (hr.mono (by decide)) (EA.cons (EV.var 3) (EA.one (EV.var 6)))) (sc_opt _) sc_call.nd) ?_
        have hst : runStep R p row = match holder p (nw R row) with
            | none => putP p row (some (nw R row))
            | some h => putP (putP p h none) row (some (nw R row)) := by
          unfold runStep
          rw [if_neg hb2]
          all_goals (cases holder p (nw R row) <;> rfl)
        have hhm : ∀ h, holder p (nw R row) = some h → h ∈ p.map (·.1) := fun h e => List.mem_map.mpr ⟨_, holder_mem e, rfl⟩
        show GS _ [_, _, _, _, _, _, _, some (.ty (tD (optD (holder p (nw R row))))), _, _] _ _ _ _ _
        generalize holder p (nw R row) = hv at *
        refine GS.ifR (b := decide (hv = none)) (CT.cmp (EV.var 7 (t := tD (optD hv))) EV.non o_isN) (fun hn => ?_) fun hn => ?_
        · have hn : hv = none := by simpa using hn
          subst hn
          refine GS.seq (G1.dset (l := encP p) 3 (hu_of hr) (EV.var 5 (t := tI row)) (EV.var 6 (t := tI (nw R row))) (by unfold lim; omega)) (GS.one (G1.cont (fin (putP p row (some (nw R row))) (by rw [hsucc, hst]) ?_)))
          rw [← encP_put p row (some (nw R row)) hmp]
          exact ⟨_, _, _, rfl⟩
        · cases hv with
          | none => exact absurd hn (by decide)
          | some h =>
            refine GS.seq (G1.settle (l := encP p) (row := row) (holder := h) (new := nw R row) T (hr.mono (by decide)) 0 3 5 7 6 (hl := by unfold lim; omega) (h0 := pe_var rfl (Or.inl rfl)) (h1 := pe_var rfl (Or.inr (Or.inl rfl))) (h2 := pe_var rfl (Or.inl rfl)) (h3 := pe_var rfl (Or.inl rfl)) (h4 := pe_var rfl (Or.inl rfl))) ?_
            refine GS.one (G1.ifF (CT.val (EV.halts T (hr.mono (by decide)) (EV.var 0))) (GS.nil (fin (putP (putP p h none) row (some (nw R row))) (by rw [hsucc, hst]) ?_)))
            rw [← encP_put _ row (some (nw R row)) (by rw [putP_keys]; exact hmp), ← encP_put p h none (hhm h rfl)]
            exact ⟨_, _, _, rfl⟩
    · rintro Γi ⟨b1, b2, b3, rfl⟩
      rw [runTo_all]
      refine GS.freeze ?_
      have hnd2 : ((encP (runP R order)).map (·.1)).Nodup := by
        unfold encP
        rw [List.map_map]
        show ((runP R order).map (·.1)).Nodup
        rw [runP_keys]; exact hnd
      refine GS.seq (G1.set 8 (EV.callT (T.free 3) c_tupL (EA.one (EV.callB (T.free 9) c_sortedP (EA.one (EV.cast (tb := tD (dR ((runP R order).filterMap fun q => q.2.map fun k => (q.1, k)))) (EV.lock (P := fun _ : Unit => True) (ΓL := fun _ => [none, none, none, some (.ty (tFz (encP (runP R order)))), none, none, none, none, none, none]) (fun σ H B sa => ⟨(), trivial, lock_one 3 sa rfl⟩) (fun _ _ => EV.lc (pd := fun q : Int × Option Int => !decide (q.2 = none)) (f := fun q => .tuple [.int q.1, optD q.2]) [("row", 5)] (IV.map (g := fun q : Int × Option Int => (q.1, optD q.2)) (xs := runP R order) (IV.keys (l := encP (runP R order)) (EV.var 3))) (fun s H C cl fp => pg_name (i := 5) sc_call.nd rfl (Or.inl rfl)) (TgOk.name 5)
        (fun q hq s H C cl fp => CTs.one (CT.cmp (EV.fget (l := encP (runP R order)) (hu_of hr) (EV.var 3) (EV.var 5 (t := tI q.1)) (lookup_nodup (l := encP (runP R order)) hnd2 (p := (q.1, optD q.2)) (List.mem_map.mpr ⟨q, hq, rfl⟩))) EV.non o_notN))
        (fun q hq _ s H C cl fp => EV.tup (ds := [.int q.1, optD q.2]) (EA.cons (EV.var 5 (t := tI q.1)) (EA.one (EV.fget (l := encP (runP R order)) (hu_of hr) (EV.var 3) (EV.var 5 (t := tI q.1)) (lookup_nodup (l := encP (runP R order)) hnd2 (p := (q.1, optD q.2)) (List.mem_map.mpr ⟨q, hq, rfl⟩)))))) sc_call.nd) (unl_D _)) (by rw [endsOf_eq]))))))  sc_call.nd) ?_
      exact GS.one (G1.ret (EV.mkOut T (hr.mono (by decide)) (EV.rows T (hr.mono (by decide)) (EV.var 1) wf) (EV.var 4) (EV.var 8)))
  exact ⟨fd, h, F.binds fun _ _ _ _ _ _ us hl => match us, hl with | [_, _, _], _ => rfl⟩
end
end Rk
/-! part D28 -/
namespace Rk
open PySem PySem.Spec L2
section
open PySem PySem.W PySem.Calls PyProof.Rows Builtin NwA
theorem oi_bnd {M : Model} {h : Heap} (self : Value) : Looks M h (bindSpecial (.builtin "object.__init__") self) (.builtin "object.__init__", [self]) := Looks.of_pure (oi_bind _)
theorem oi_none {P : Program} {w : World} {A : Around} {C y : Addr} {o : Obj} {s : Shared} {R : Result → Shared → Prop} {K : Frag} (X : K.In s.heap) (ho : s.heap.get? y = some o) (hc : o.cls = .ref C) (top : Looks (model P w) s.heap (isInstance (.ref y) (.type "object")) true) (q : R (.ok (.ret .none)) s) :
    codeAny (model P w) A (.call (.builtin "object.__init__") ⟨[.ref y], []⟩) R s := by
  refine codeAny_call_builtin oi_plain entry_oi (@check_slot (model P w) _ _ _ "object.__init__" "object" "__init__" (.ref y) [] [] _ oi_kind oi_split top (oi_args_any (.ref y) [] []) ?_)
  rw [oi_run]
  exact wpAny_pure q
end
section
variable {P : Program} {w : World} {K : PySem.W.Frag} {mg : Str → Option Value} {base : Heap} {X : Cx} {Γ : Gm} {e i o e1 e2 e3 : Expr} {t : Ty} {st : Stmt} {ss : List Stmt} {N C K1 : Gm → Prop} {R ends : Rows} {pos p : Pos}
/-- Replace() -/
theorem EV.mkRep (T : Txt X.K X.mg) (hg : Gl X "Replace" := by rfl) : EV X Γ (.Call (.Name "Replace" p) [] [] pos) (tRep X.K) := by
  refine ⟨fun pins s σ H Q I ⟨B, sa, q⟩ => ?_⟩
  refine wpAny_Call_Name_kw (ld_glob I hg (T.glo 73) ?_ (by decide))
  refine PySem.W.callWith_K0 I.kIn T.keepR ?_
  have I2 := Inv.made (C := cR X.K) I
  have hx : H (s.heap.objs.size + 1) = none := I.hok.fresh (Nat.le_succ _)
  have hdx : H s.heap.objs.size = none := I.hok.fresh (Nat.le_refl _)
  refine wpAny_call (make_map0 I.kIn T.ex.m1 T.ex.i1 (fun self => oi_bnd self) ?_)
  have ho : ((s.heap.push PySem.W.emptyDict).push (PySem.W.instObj (cR X.K) s.heap.objs.size)).get? (s.heap.objs.size + 1) = some (PySem.W.instObj (cR X.K) s.heap.objs.size) := by
    have := Heap.get?_push_size (s.heap.push PySem.W.emptyDict) (o := PySem.W.instObj (cR X.K) s.heap.objs.size) rfl
    rwa [Heap.size_push] at this
  refine oi_none (K := X.K) I2.kIn ho rfl ((NwA.type_at ho rfl).andThen (PySem.W.makes_of I2.kIn T.ex.m1).top) ?_
  refine ⟨rfl, ?_⟩
  have hBx : B (s.heap.objs.size + 1) = none := sa.sm.free hx
  have ne : s.heap.objs.size ≠ s.heap.objs.size + 1 := Nat.ne_of_lt (Nat.lt_succ_self _)
  refine ⟨V.ref (s.heap.objs.size + 1), _, I2, rfl, q _ _ (upd B (s.heap.objs.size + 1) (.ins (cR X.K) s.heap.objs.size [])) ⟨fun a o e => ?_, fun a o e => ?_, fun a o e => ?_, fun a h5 h6 => ?_⟩ ⟨_, _, rfl, upd_same⟩⟩
  · rw [upd_ne (ne_of_none e hx), upd_ne (ne_of_none e hdx)]; exact e
  · rw [upd_ne (ne_of_none e hBx)]; exact e
  · by_cases ha : a = s.heap.objs.size + 1
    · subst ha; rw [upd_same] at e ⊢; exact e
    · rw [upd_ne ha] at e
      have := sa.sm a o e
      rw [upd_ne ha, upd_ne (ne_of_none this hdx)]; exact this
  · have ha : a ≠ s.heap.objs.size + 1 := fun z => h6 (z ▸ hx)
    rw [upd_ne ha]; exact h5
theorem Txt.callR (T : Txt K mg) : StX.CallO K (cR K) (fRc K) := ⟨T.mCall.at_, T.mCall.fn, T.ex.f2⟩
/-- rule(table, order) -/
theorem EV.rule {order : List Int} (T : Txt X.K X.mg) (hr : Room 6 X.A) (hf : EV X Γ e (tRep X.K)) (h1 : EV X Γ e1 (tT X.K R)) (h2 : EV X Γ e2 (tD (dT order))) (wf : WF R) (hp : order.Perm (keys R))
    (ht : eval (.Call e [e1, e2] [] pos) X.env = (do callWith pos (← eval e X.env) [] (backTo pos (starEach [e1, e2] X.env)) (backToKw pos (keywordEach [] X.env))) := by rfl)
    (he : starEach [e1, e2] X.env = (false, eval e1 X.env) :: starEach [e2] X.env := by rfl) (he2 : starEach [e2] X.env = (false, eval e2 X.env) :: starEach [] X.env := by rfl) (hpl : (backTo pos (starEach [e2] X.env)).any (·.1) = false := by rfl) :
    EV X Γ (.Call e [e1, e2] [] pos) (tOut X.K R (endsOf (runP R order))) := by
  obtain ⟨fd, F, hb⟩ := ok_Rule_call (P := X.prog) (w := X.w) (base := X.base) T
  have F2 : FnR X.prog X.w X.K X.mg X.base CX0 6 (fRc X.K) (spT (A := Rows × List Int) (fun a => [tRep X.K, tT X.K a.1, tD (dT a.2)]) (fun a => WF a.1 ∧ a.2.Perm (keys a.1)) (fun a => tOut X.K a.1 (endsOf (runP a.1 a.2)))) := (F.raw hb .nil).imp fun vs H Q E z => by rw [List.append_nil]; exact z
  refine EV.of (StX.pe_callO (E := E0) hf T.callR F2 hr (fun _ _ _ _ _ _ _ z => z.elim) (EA.cons h1 (EA.one h2 he2) he) ht he hpl) fun σ H B Q sa q => ⟨B, sa, fun v H1 B1 s1 r1 => ?_⟩
  obtain ⟨a, dx, rfl, hh⟩ := id r1
  refine ⟨a, rfl, B1, sa.mono s1, fun vs H2 B2 s2 r2 => ⟨.inr ⟨dx, [], s2.h _ _ (s1.s _ _ hh)⟩, (R, order), B2, ⟨wf, hp⟩, s2.s, .cons ((tRep X.K).st s2.b r1) r2, fun v H3 B3 s3 r3 => q v H3 B3 ((s1.trans s2).trans s3) r3⟩⟩
end
end Rk
/-! part Ly8 -/
namespace Rk
open PySem PySem.Spec L2
/-! ### a list of three numbers that calls write to -/
def PenOk (n : Nat) (ws : List V) : Prop := ∃ a b c : Int, ws = [.int a, .int b, .int c] ∧ 0 ≤ b ∧ b < 2147483648 ∧ 1 ≤ c ∧ c ≤ n
def PenAt (n : Nat) (p : Addr) (H : Hp) : Prop := ∃ ws, H p = some (.lst ws) ∧ PenOk n ws
theorem PenAt.mono {n : Nat} {p : Addr} {H H' : Hp} (h : PenAt n p H) (k : Same H H') : PenAt n p H' := let ⟨ws, h1, h2⟩ := h; ⟨ws, k _ _ h1, h2⟩
theorem PenAt.ne {n : Nat} {p : Addr} {H : Hp} (h : PenAt n p H) : H p ≠ none := by
  obtain ⟨ws, h1, _⟩ := h
  rw [h1]; exact fun z => nomatch z
structure StpP (p : Addr) (n : Nat) (H B H' B' : Hp) : Prop where
  h : ∀ a o, a ≠ p → H a = some o → H' a = some o
  b : Same B B'
  s : Same B' H'
  f : ∀ a, B a = none → H a ≠ none → B' a = none
  bp : B' p = none
  pen : PenAt n p H'
section
variable {p : Addr} {n n1 n2 : Nat} {H B H1 B1 H2 B2 : Hp}
theorem StpP.ofS (hb : B p = none) (pen : PenAt n p H) (k : Stp H B H1 B1) : StpP p n H B H1 B1 := ⟨fun a o _ e => k.h _ _ e, k.b, k.s, k.f, k.f p hb pen.ne, pen.mono k.h⟩
theorem StpP.trans (a : StpP p n1 H B H1 B1) (b : StpP p n2 H1 B1 H2 B2) : StpP p n2 H B H2 B2 :=
  ⟨fun x o hx e => b.h x o hx (a.h x o hx e), a.b.trans b.b, b.s, fun x h1 h2 => b.f x (a.f x h1 h2) (by
    by_cases hx : x = p
    · subst hx; exact a.pen.ne
    · intro z
      cases q : H x with
      | none => exact h2 q
      | some o => rw [a.h x o hx q] at z; cases z), b.bp, b.pen⟩
theorem StpP.ex (a : StpP p n1 H B H1 B1) (k : Stp H1 B1 H2 B2) : StpP p n1 H B H2 B2 := a.trans (.ofS a.bp a.pen k)
theorem Sa.monoP {Γ : Gm} {σ : St} (a : Sa Γ σ H B) (s : StpP p n H B H1 B1) : Sa Γ σ H1 B1 := ⟨a.ln, s.s, fun i t e => let ⟨v, h1, h2⟩ := a.ty i t e; ⟨v, h1, t.st s.b h2⟩⟩
end
def oPen (p : Addr) (n : Nat) : Osp where
  ok := fun q o B => q = p ∧ ∃ ws, o = .lst ws ∧ PenOk n ws
  st := fun e h => h
  ty := ⟨fun v B => v = .ref p ∧ PenAt n p B, fun e ⟨h1, h2⟩ => ⟨h1, h2.mono e⟩⟩
  as := fun ⟨h0, ws, h1, h2⟩ hp => ⟨h0 ▸ rfl, ws, h0 ▸ (h1 ▸ hp), h2⟩
theorem Ste.stepP {H0 B0 Bl H B H' B' : Hp} {Γ : Gm} {σ : St} {i : Nat} {p0 p : Addr} {n n' : Nat} (s : Ste H0 B0 Bl Γ σ H B) (hi : Γ[i]? = some (some (.own (oPen p0 n)))) (hp : σ[i]? = some (some (.ref p))) (k : StpP p n' H B H' B') :
    Ste H0 B0 Bl (Γ.set i (some (.own (oPen p0 n')))) σ H' B' := by
  obtain ⟨q, h, a1, a2, a3, a4, a5, a6⟩ := s.ow i _ hi
  rw [hp] at a1; cases a1
  subst a5
  have hh : ∀ a o, H0 a = some o → H' a = some o := fun a o e => k.h a o (fun z => by rw [z, a2] at e; cases e) (s.sp.h a o e)
  refine ⟨⟨by simp [s.sa.ln], k.s, fun j t e => ?_⟩, ⟨hh, s.sp.b.trans k.b, k.s, fun a h1 h2 => k.f a (s.sp.f a h1 h2) fun z => ?_⟩, s.lb.trans k.b, fun j u e => ?_, fun j l oj ol q e1 e2 e3 e4 => ?_⟩
  · rcases getset e with ⟨_, z⟩ | ⟨hn, z⟩
    · cases z
    · obtain ⟨v, h1, h2⟩ := s.sa.ty j t z
      exact ⟨v, h1, t.st k.b h2⟩
  · cases q : H0 a with
    | none => exact h2 q
    | some o => rw [s.sp.h a o q] at z; cases z
  · rcases getset e with ⟨rfl, z⟩ | ⟨hn, z⟩
    · cases z
      obtain ⟨ws, h1, h2⟩ := k.pen
      exact ⟨p, _, hp, a2, k.bp, h1, rfl, ws, rfl, h2⟩
    · obtain ⟨q, hq, b1, b2, b3, b4, b5⟩ := s.ow j u z
      have hne : q ≠ p := fun e => hn (s.di j i _ _ p z hi (e ▸ b1) hp)
      exact ⟨q, hq, b1, b2, k.f q b3 (by rw [b4]; exact fun z => nomatch z), k.h q _ hne b4, u.st k.b b5⟩
  · have w : ∀ {m : Nat} {om : Osp}, (Γ.set i (some (Sl.own (oPen p n'))))[m]? = some (some (Sl.own om)) → ∃ om', Γ[m]? = some (some (Sl.own om')) := fun {m om} e => by
      rcases getset e with ⟨rfl, z⟩ | ⟨_, z⟩
      · exact ⟨_, hi⟩
      · exact ⟨_, z⟩
    obtain ⟨_, f1⟩ := w e1
    obtain ⟨_, f2⟩ := w e2
    exact s.di j l _ _ q f1 f2 e3 e4
/-! ### expressions behind which the list is another -/
def rdP {A : Type} (Γ : Gm) (i n n' : Nat) (P : A → Prop) (f : A → Ty) : TE := fun σ H Q => ∃ B p, Sa Γ σ H B ∧ σ[i]? = some (some (.ref p)) ∧ B p = none ∧ PenAt n p H ∧ ∀ a v H' B', P a → StpP p n' H B H' B' → (f a).R v B' → Q v H'
def raP {A : Type} (Γ : Gm) (i n n' : Nat) (P : A → Prop) (ts : A → List Ty) : TA := fun σ H Q => ∃ B p, Sa Γ σ H B ∧ σ[i]? = some (some (.ref p)) ∧ B p = none ∧ PenAt n p H ∧ ∀ a vs H' B', P a → StpP p n' H B H' B' → Args B' vs (ts a) → Q vs H'
abbrev EVp {A : Type} (X : Cx) (Γ : Gm) (i n n' : Nat) (e : Expr) (P : A → Prop) (f : A → Ty) : Prop := PE X e (rdP Γ i n n' P f)
abbrev EAp {A : Type} (X : Cx) (Γ : Gm) (i n n' : Nat) (es : List Expr) (P : A → Prop) (ts : A → List Ty) : Prop := PA X es (raP Γ i n n' P ts)
theorem PA.imp' {X : Cx} {es : List Expr} {t t' : TA} (h : PA X es t) (k : ∀ σ H Q, t' σ H Q → t σ H Q) : PA X es t' := ⟨fun pos pins s σ H Q I q => h.run pos pins s σ H Q I (k σ H Q q)⟩
section
variable {X : Cx} {Γ : Gm} {e e1 e2 o a b : Expr} {es : List Expr} {A A2 : Type} {i n n1 n2 n' : Nat} {P : A → Prop} {f g : A → Ty} {P2 : A2 → Prop} {f2 : A2 → Ty} {ts : A → List Ty} {ts2 : A2 → List Ty} {t ta tb tc : Ty} {pos pp : Pos}
theorem EVp.of (h : EV X Γ e t) : EVp (A := Unit) X Γ i n n e (fun _ => True) (fun _ => t) := PE.imp h fun σ H Q ⟨B, p, sa, hi, hb, pen, q⟩ => ⟨B, sa, fun v H' B' s r => q () v H' B' trivial (.ofS hb pen s) r⟩
theorem EVp.imp (h : EVp X Γ i n n' e P f) (P' : A2 → Prop) (f' : A2 → Ty) (k : ∀ a, P a → ∃ b, P' b ∧ ∀ v B, (f a).R v B → (f' b).R v B) : EVp X Γ i n n' e P' f' := PE.imp h fun σ H Q ⟨B, p, sa, hi, hb, pen, q⟩ => ⟨B, p, sa, hi, hb, pen, fun a v H' B' pa s r => let ⟨b, pb, hr⟩ := k a pa; q b v H' B' pb s (hr v B' r)⟩
theorem EAp.nil : EAp (A := Unit) X Γ i n n [] (fun _ => True) (fun _ => []) := PA.imp' pa_nil fun σ H Q ⟨B, p, sa, hi, hb, pen, q⟩ => q () [] H B trivial (.ofS hb pen (Stp.refl sa.sm)) .nil
theorem EAp.cons (h : EVp X Γ i n n1 e P f) (h2 : EAp X Γ i n1 n2 es P2 ts2) (hs : starEach (e :: es) X.env = (false, eval e X.env) :: starEach es X.env := by rfl) : EAp (A := A × A2) X Γ i n n2 (e :: es) (fun c => P c.1 ∧ P2 c.2) (fun c => f c.1 :: ts2 c.2) :=
  PA.imp' (pa_cons h h2 hs) fun σ H Q ⟨B, p, sa, hi, hb, pen, q⟩ => ⟨B, p, sa, hi, hb, pen, fun c v H1 B1 pc s1 r1 => ⟨B1, p, sa.monoP s1, hi, s1.bp, s1.pen, fun d vs H2 B2 pd s2 r2 => q (c, d) (v :: vs) H2 B2 ⟨pc, pd⟩ (s1.trans s2) (.cons ((f c).st s2.b r1) r2)⟩⟩
theorem EAp.ea {ts : List Ty} (h : EA X Γ es ts) : EAp (A := Unit) X Γ i n n es (fun _ => True) (fun _ => ts) := PA.imp' h fun σ H Q ⟨B, p, sa, hi, hb, pen, q⟩ => ⟨B, sa, fun vs H' B' s r => q () vs H' B' trivial (.ofS hb pen s) r⟩
theorem EAp.one (h : EVp X Γ i n n1 e P f) (hs : starEach [e] X.env = (false, eval e X.env) :: starEach [] X.env := by rfl) : EAp X Γ i n n1 [e] P (fun a => [f a]) :=
  PA.imp' (EAp.cons h EAp.nil hs) fun σ H Q ⟨B, p, sa, hi, hb, pen, q⟩ => ⟨B, p, sa, hi, hb, pen, fun a vs H' B' pa s r => q a.1 vs H' B' pa.1 s r⟩
/-- two sides, the left one plain -/
theorem EVp.bin {op : Operator} (ha : EV X Γ a ta) (hb : EVp X Γ i n n' b P f) (ho : ∀ c, P c → Opt X (binaryOp op) ta (f c) (g c)) : EVp X Γ i n n' (.BinOp a op b pos) P g :=
  PE.imp (pe_op (r := fun x y H Q => ∃ c, P c ∧ rop ta (f c) (g c) x y H Q) (fun pins s σ H x y v u Q I rx ry ⟨c, pc, q⟩ => ho c pc pins s σ H x y v u Q I rx ry q) ha hb) fun σ H Q ⟨B, p, sa, hi, hbp, pen, q⟩ =>
    ⟨B, sa, fun x H1 B1 s1 r1 => ⟨B1, p, sa.mono s1, hi, s1.f p hbp pen.ne, pen.mono s1.h, fun c y H2 B2 pc s2 r2 => ⟨c, pc, B2, s2.s, ta.st s2.b r1, r2, fun v H3 B3 s3 r3 => q c v H3 B3 pc (((StpP.ofS hbp pen s1).trans s2).ex s3) r3⟩⟩⟩
/-- two sides, the right one plain -/
theorem EVp.binL {op : Operator} (ha : EVp X Γ i n n' a P f) (hb : EV X Γ b tb) (ho : ∀ c, P c → Opt X (binaryOp op) (f c) tb (g c)) : EVp X Γ i n n' (.BinOp a op b pos) P g :=
  PE.imp (pe_op (r := fun x y H Q => ∃ c, P c ∧ rop (f c) tb (g c) x y H Q) (fun pins s σ H x y v u Q I rx ry ⟨c, pc, q⟩ => ho c pc pins s σ H x y v u Q I rx ry q) ha hb) fun σ H Q ⟨B, p, sa, hi, hbp, pen, q⟩ =>
    ⟨B, p, sa, hi, hbp, pen, fun c x H1 B1 pc s1 r1 => ⟨B1, sa.monoP s1, fun y H2 B2 s2 r2 => ⟨c, pc, B2, s2.s, (f c).st s2.b r1, r2, fun v H3 B3 s3 r3 => q c v H3 B3 pc ((s1.ex s2).ex s3) r3⟩⟩⟩
theorem EVp.ixL {ds : List PyData} {k : A → Int} {d : A → PyData} (ha : EV X Γ a (tD (.list ds))) (hb : EVp X Γ i n n' b P (fun c => tI (k c))) (h : ∀ c, P c → atI ds (k c) = some (d c)) (hs : PlainIx b := by exact fun _ _ => rfl) : EVp X Γ i n n' (.Subscript a b pos) P (fun c => tD (d c)) :=
  PE.imp (pe_ix ix_list ha hb hs) fun σ H Q ⟨B, p, sa, hi, hbp, pen, q⟩ =>
    ⟨B, sa, fun x H1 B1 s1 r1 => ⟨B1, p, sa.mono s1, hi, s1.f p hbp pen.ne, pen.mono s1.h, fun c y H2 B2 pc s2 r2 => by
      obtain ⟨l, xs, rfl, h1, h2, h3⟩ := tL_R ((tD (.list ds)).st s2.b r1)
      cases tI_R r2
      have hl := h3.length
      have h := h c pc
      unfold atI at h
      obtain ⟨j, e1, e2⟩ := Option.bind_eq_some_iff.mp h
      obtain ⟨v, k1, k2⟩ := h3.get e2
      refine ⟨l, xs, k c, v, rfl, rfl, SqL.of (s2.s _ _ h1), ?_, q c _ _ _ pc ((StpP.ofS hbp pen s1).trans s2) k2⟩
      unfold atI
      rw [hl, e1]; exact k1⟩⟩
theorem EVp.lst {ds : A → List PyData} (h : EAp X Γ i n n' es P (fun c => (ds c).map tD)) (hl : ∀ c, (ds c).length ≤ lim) : EVp X Γ i n n' (.List es pos) P (fun c => tD (.list (ds c))) :=
  PE.imp (pe_lst h) fun σ H Q ⟨B, p, sa, hi, hbp, pen, q⟩ => ⟨B, p, sa, hi, hbp, pen, fun c vs H1 B1 pc s1 r1 => by
    have r2 := Da.ofArgs r1
    have hz : vs.length ≤ lim := by rw [r2.length]; exact hl c
    exact ⟨lim_le hz, fun l hp => q c _ _ _ pc (s1.ex (Stp.new s1.s hp)) (.lst upd_same hz (r2.mono (same_upd (s1.s.free hp))))⟩⟩
theorem EVp.callB {x : Str} {id : String} (hm : X.mg x = none) (hc : ∀ c, P c → Clt X (.builtin id) (ts c) (g c)) (ha : EAp X Γ i n n' (e :: es) P ts) (hv : bootBuiltins x = some (.builtin id) := by decide +kernel) (hg : Gl X x := by rfl)
    (hn : x ≠ "__name__" := by decide) (hd : (x == ("__debug__" : Str)) = false := by decide) (he : starEach (e :: es) X.env = (false, eval e X.env) :: starEach es X.env := by rfl) (hpl : (backTo pos (starEach es X.env)).any (·.1) = false := by rfl) : EVp X Γ i n n' (.Call (.Name x pp) (e :: es) [] pos) P g :=
  PE.imp (pe_callB (r := fun vs H Q => ∃ c, P c ∧ rcl (ts c) (g c) vs H Q) (fun pins s σ H xs us Q I r ⟨c, pc, q⟩ => hc c pc pins s σ H xs us Q I r q) hg hm hv ha (hn := hn) (hdb := hd) (he := he) (hpl := hpl)) fun σ H Q ⟨B, p, sa, hi, hbp, pen, q⟩ =>
    ⟨B, p, sa, hi, hbp, pen, fun c vs H1 B1 pc s1 r1 => ⟨c, pc, B1, s1.s, r1, fun v H2 B2 s2 r2 => q c v H2 B2 pc (s1.ex s2) r2⟩⟩
end
/-! ### tests -/
theorem PenOk.le {n m : Nat} {ws : List V} (h : PenOk n ws) (k : n ≤ m) : PenOk m ws := let ⟨a, b, c, e, h1, h2, h3, h4⟩ := h; ⟨a, b, c, e, h1, h2, h3, by omega⟩
theorem PenAt.le {n m : Nat} {p : Addr} {H : Hp} (h : PenAt n p H) (k : n ≤ m) : PenAt m p H := let ⟨ws, h1, h2⟩ := h; ⟨ws, h1, h2.le k⟩
theorem StpP.le {p : Addr} {n m : Nat} {H B H1 B1 : Hp} (h : StpP p n H B H1 B1) (k : n ≤ m) : StpP p m H B H1 B1 := ⟨h.h, h.b, h.s, h.f, h.bp, h.pen.le k⟩
def rbP (Γ : Gm) (i n n' : Nat) : TT := fun σ H Q => ∃ B p, Sa Γ σ H B ∧ σ[i]? = some (some (.ref p)) ∧ B p = none ∧ PenAt n p H ∧ ∀ b H' B', StpP p n' H B H' B' → Q b H'
abbrev CTp (X : Cx) (Γ : Gm) (i n n' : Nat) (e : Expr) : Prop := PT X e (rbP Γ i n n')
section
variable {X : Cx} {Γ : Gm} {e e1 e2 o a b : Expr} {es : List Expr} {A A2 : Type} {i n n1 n2 n' : Nat} {P : A → Prop} {f g : A → Ty} {t ta tb tc : Ty} {pos pp : Pos}
theorem CTp.cmp {op : CmpOp} {k : A → Bool} (ha : EVp X Γ i n n' a P f) (hb : EV X Γ b tb) (ho : ∀ c, P c → Opt X (compareOp op) (f c) tb (tB (k c))) (hm : behindInMarks op b = false := by rfl) : CTp X Γ i n n' (.Compare a [op] [b] pos) :=
  PT.imp (pt_cmpR (r := fun x y H Q => ∃ c, P c ∧ rop (f c) tb (tB (k c)) x y H Q) (fun pins s σ H x y v u Q I rx ry ⟨c, pc, q⟩ => ho c pc pins s σ H x y v u Q I rx ry q) ha hb hm) fun σ H Q ⟨B, p, sa, hi, hbp, pen, q⟩ =>
    ⟨B, p, sa, hi, hbp, pen, fun c x H1 B1 pc s1 r1 => ⟨B1, sa.monoP s1, fun y H2 B2 s2 r2 => ⟨c, pc, B2, s2.s, (f c).st s2.b r1, r2, fun v H3 B3 s3 r3 => ⟨k c, tB_R r3, q _ H3 B3 ((s1.ex s2).ex s3)⟩⟩⟩⟩
theorem CTp.and {k : Bool} (h : CT X Γ a k) (h2 : CTp X Γ i n n' b) (hle : n ≤ n') : CTp X Γ i n n' (.BoolOp .And [a, b] pos) :=
  PT.imp (PW.pt (pw_and h (pw_and1 h2))) fun σ H Q ⟨B, p, sa, hi, hbp, pen, q⟩ => ⟨B, sa, fun H1 B1 s1 => by
    cases k with
    | true => exact ⟨B1, p, sa.mono s1, hi, s1.f p hbp pen.ne, pen.mono s1.h, fun b H2 B2 s2 => q b H2 B2 ((StpP.ofS hbp pen s1).trans s2)⟩
    | false => exact q false H1 B1 ((StpP.ofS hbp pen s1).le hle)⟩
end
end Rk
/-! part Ly9 -/
namespace Rk
open PySem PySem.Spec L2
/-! ### defs that write to their caller's list -/
abbrev most : Nat := 1000000000
def spP {A B : Type} (ts : A → List Ty) (pre : A → Prop) (cost : A → Nat) (Pb : A → B → Prop) (f : B → Ty) : Sp := fun vs H Q _ => ∃ a n Bh p rest, vs = .ref p :: rest ∧ pre a ∧ n + cost a ≤ most ∧ Same Bh H ∧ Bh p = none ∧ PenAt n p H ∧ Args Bh rest (ts a) ∧
  ∀ b v H' B', Pb a b → StpP p (n + cost a) H Bh H' B' → (f b).R v B' → Q v H'
structure DefP (P : Program) (w : World) (K : PySem.W.Frag) (mg : Str → Option Value) (base : Heap) (x : Str) (k : Nat) {A B : Type} (ts : A → List Ty) (pre : A → Prop) (cost : A → Nat) (Pb : A → B → Prop) (f : B → Ty) : Prop where
  ex : ∃ g fd ps, FnOk P w K mg base CX0 k g fd ps (spP ts pre cost Pb f) ∧ mg x = some (.ref g) ∧ PySem.W.keepIn K (.ref g) = true ∧ Binds K fd ps []
section
variable {X : Cx} {Γ Γ1 : Gm} {e e1 e2 o a b c : Expr} {es : List Expr} {A A2 B : Type} {i j n n1 n2 n' : Nat} {P : A → Prop} {f g : A → Ty} {ts : A2 → List Ty} {t u : Ty} {pos pp p px : Pos} {st : Stmt} {ss : List Stmt} {N N1 C K : Gm → Prop} {x y : Str}
theorem EVp.callP {k m : Nat} {y : Str} {pre : A2 → Prop} {cost : A2 → Nat} {Pb : A2 → B → Prop} {fb : B → Ty} {py : Pos} (D : DefP X.prog X.w X.K X.mg X.base x k ts pre cost Pb fb) (α : A → A2) (hp : ∀ c, P c → pre (α c)) (hm : ∀ c, P c → cost (α c) = m) (hr : Room k X.A) (ha : EAp X Γ i n n1 es P (fun c => ts (α c))) (hlim : n1 + m ≤ most) (hpen : PE X (.Name y py) (tVar i))
    (hg : Gl X x := by rfl) (hd : (x == ("__debug__" : Str)) = false := by decide) (he : starEach (.Name y py :: es) X.env = (false, eval (.Name y py) X.env) :: starEach es X.env := by rfl) (hpl : (backTo pos (starEach es X.env)).any (·.1) = false := by rfl) :
    EVp X Γ i n (n1 + m) (.Call (.Name x pp) (.Name y py :: es) [] pos) (fun cb : A × B => P cb.1 ∧ Pb (α cb.1) cb.2) (fun cb => fb cb.2) := by
  obtain ⟨g, fd, ps, F, hmg, hk, hb⟩ := D.ex
  refine PE.imp (pe_call F hr hg hmg hk hb .nil pass0 (pa_cons hpen ha he) (hdb := hd) (he := he) (hpl := hpl)) fun σ H Q ⟨Bh, p, sa, hi, hbp, pen, q⟩ => ?_
  refine ⟨_, hi, Bh, p, sa, hi, hbp, pen, fun c vs H1 B1 pc s1 r1 => ?_⟩
  show spP ts pre cost Pb fb ((V.ref p :: vs) ++ []) H1 Q E0
  rw [List.append_nil]
  exact ⟨α c, n1, B1, p, vs, rfl, hp c pc, by rw [hm c pc]; exact hlim, s1.s, s1.bp, s1.pen, r1, fun b v H2 B2 pb s2 r2 => q (c, b) v H2 B2 ⟨pc, pb⟩ (s1.trans (by rw [hm c pc] at s2; exact s2)) r2⟩
/-! ### statements -/
theorem G1.setP {p0 : Addr} {pos' : Pos} (j : Nat) (he : EVp X Γ i n n' e P f) (nd : X.N.Nodup) (hgi : Γ[i]? = some (some (.own (oPen p0 n))) := by rfl) (hi : X.N[j]? = some x := by rfl) (hx : Loc X.env.scope x := by first | exact .inl rfl | exact .inr rfl) (hs : swapsWith e (some (.Name x pos')) pos.line X.env = pure false := by rfl)
    (hf : X.fn x = true ∨ X.env.scope.names.lookup x = some .local := by first | exact .inl rfl | exact .inr rfl) : G1 X Γ (.Assign [.Name x pos'] e pos) (fun Γ' => ∃ c, P c ∧ Γ' = (Γ.set i (some (.own (oPen p0 n')))).set j (some (.ty (f c)))) C K t :=
  PS.imp (ps_set nd hi hx he hs hf) fun D σ H ⟨H0, B0, Bl, B, s, nx, _⟩ => by
    obtain ⟨p, h, a1, a2, a3, a4, a5, ws, a6, a7⟩ := s.ow i _ hgi
    exact ⟨B, p, s.sa, a1, a3, ⟨ws, by rw [a4, a6], a7⟩, fun c v H1 B1 pc s1 r1 => nx _ _ _ B1 ⟨c, pc, rfl⟩ ((s.stepP hgi a1 s1).set r1)⟩
theorem G1.ifP {p0 : Addr} {s1 s2 : List Stmt} (hc : CTp X Γ i n n' c) (hgi : Γ[i]? = some (some (.own (oPen p0 n)))) (h1 : GS X (Γ.set i (some (.own (oPen p0 n')))) s1 N C K t) (h2 : GS X (Γ.set i (some (.own (oPen p0 n')))) s2 N C K t) : G1 X Γ (.If c s1 s2 pos) N C K t :=
  PS.imp (ps_if hc h1 h2) fun D σ H ⟨H0, B0, Bl, B, s, n, ct, bk, rt⟩ => by
    obtain ⟨p, h, a1, a2, a3, a4, a5, ws, a6, a7⟩ := s.ow i _ hgi
    refine ⟨B, p, s.sa, a1, a3, ⟨ws, by rw [a4, a6], a7⟩, fun b H1 B1 s1 => ?_⟩
    cases b with
    | true => exact iteT ⟨H0, B0, Bl, B1, s.stepP hgi a1 s1, n, ct, bk, rt⟩
    | false => exact iteF ⟨H0, B0, Bl, B1, s.stepP hgi a1 s1, n, ct, bk, rt⟩
/-! ### blocks that give back the list -/
def rgR {A : Type} (Γ : Gm) (p : Addr) (n' : Nat) (P : A → Prop) (f : A → Ty) : TS := fun D σ H => ∃ H0 B0 Bl B, Ste H0 B0 Bl Γ σ H B ∧ ∀ a v H' B', P a → Stp H0 B0 H' B' → B' p = none → PenAt n' p H' → (f a).R v B' → D.rt v H'
abbrev GSR {A : Type} (X : Cx) (Γ : Gm) (ss : List Stmt) (p : Addr) (n' : Nat) (P : A → Prop) (f : A → Ty) : Prop := PSs X ss (rgR Γ p n' P f)
def tNo : Ty := ⟨fun _ _ => False, fun _ h => h⟩
variable {p0 : Addr}
theorem GSR.cons (h : G1 X Γ st N1 nev nev tNo) (h2 : ∀ Γ1, N1 Γ1 → GSR X Γ1 ss p0 n' P f) : GSR X Γ (st :: ss) p0 n' P f := by
  refine PSs.imp (pss_cons h (u := fun D σ H => ∃ Γ1, N1 Γ1 ∧ rgR Γ1 p0 n' P f D σ H) ⟨fun pins s σ H D I ⟨Γ1, h1, q⟩ => (h2 Γ1 h1).run pins s σ H D I q⟩) ?_
  rintro D σ H ⟨H0, B0, Bl, B, s, rt⟩
  exact ⟨H0, B0, Bl, B, s, fun Γ' σ' H' B' h1 s' => ⟨Γ', h1, H0, B0, Bl, B', s', rt⟩, fun _ _ _ _ z => z.elim, fun _ _ _ _ z => z.elim, fun _ _ _ _ z => z.elim⟩
theorem GSR.seq (h : G1 X Γ st (· = Γ1) nev nev tNo) (h2 : GSR X Γ1 ss p0 n' P f) : GSR X Γ (st :: ss) p0 n' P f := GSR.cons h fun _ e => e ▸ h2
theorem GSR.ret (he : EVp X Γ i n n' e P f) (hgi : Γ[i]? = some (some (.own (oPen p0 n))) := by rfl) : GSR X Γ [.Return (some e) pos] p0 n' P f :=
  PSs.imp (pss_one (ps_ret he)) fun D σ H ⟨H0, B0, Bl, B, s, rt⟩ => by
    obtain ⟨p, h, a1, a2, a3, a4, a5, ws, a6, a7⟩ := s.ow i _ hgi
    subst a5
    refine ⟨B, p, s.sa, a1, a3, ⟨ws, by rw [a4, a6], a7⟩, fun c v H1 B1 pc s1 r1 => rt c v H1 B1 pc ?_ s1.bp s1.pen r1⟩
    have s2 := s.stepP hgi a1 s1
    exact s2.sp
theorem GSR.ifR {k : Bool} {s1 : List Stmt} (hc : CT X (pk Γ) c k) (h1 : k = true → GSR X Γ s1 p0 n' P f) (h2 : k = false → GSR X Γ ss p0 n' P f) : GSR X Γ (.If c s1 [] pos :: ss) p0 n' P f := by
  refine PSs.imp (pss_cons (ps_if hc (t := fun D σ H => k = true ∧ rgR Γ p0 n' P f D σ H) ⟨fun pins s σ H D I ⟨hb, q⟩ => (h1 hb).run pins s σ H D I q⟩ pss_nil) (u := fun D σ H => k = false ∧ rgR Γ p0 n' P f D σ H) ⟨fun pins s σ H D I ⟨hb, q⟩ => (h2 hb).run pins s σ H D I q⟩) ?_
  rintro D σ H ⟨H0, B0, Bl, B, s, rt⟩
  obtain ⟨B2, sa2, sp2, _⟩ := s.peek
  refine ⟨B2, sa2, fun H' B' z => ?_⟩
  cases k with
  | true => exact iteT ⟨rfl, H0, B0, Bl, B, s.look z.h, rt⟩
  | false => exact iteF ⟨rfl, H0, B0, Bl, B, s.look z.h, rt⟩
end
def tAny : Ty := ⟨fun _ _ => True, fun _ h => h⟩
section
variable {P : Program} {w : World} {K : PySem.W.Frag} {mg : Str → Option Value} {base : Heap}
theorem DefP.top {x : Str} {st : Stmt} {N ps : List Str} {k : Nat} {A B : Type} {ts : A → List Ty} {pre : A → Prop} {cost : A → Nat} {Pb : A → B → Prop} {fb : B → Ty} (T : Txt K mg) (i j : Nat) (S : FnScope N ps (defScope st))
    (hb : ∀ (kV doc pm : Value) (an : Option Addr) (cdv ct : Value) (us : List Value), us.length = ps.length → bindArgs (PySem.W.fnOf x x (defArgs st) (defBody st) (defScope st) .none kV doc pm an cdv ct) ⟨us, []⟩ = pure (ps.zip us)) (hl : ∀ a, (ts a).length + 1 = ps.length)
    (body : ∀ (f : Addr) (cdv : Value) (Ar : Around) (outer : List Env) (s : Shared) (H : Hp) (E : XK) (a : A) (n : Nat) (p : Addr), pre a → n + cost a ≤ most → Room k (Ar.deeper (PyProof.Rows.envOfC x (defScope st) s.heap.objs.size f cdv)) →
      GSR (cxOf CX0 P w K mg base N x (defScope st) f cdv Ar outer s H E).nox ((stG N (tAny :: ts a)).set 0 (some (.own (oPen p n)))) (defBody st) p (n + cost a) (Pb a) fb)
    (hf : fnL[i]? = some ⟨fun K => He.ga K x, x, x, defArgs st, defBody st, defScope st, [], []⟩ := by rfl) (hj : faL[j]? = some (.glo x) := by rfl) : DefP P w K mg base x (k + 1) ts pre cost Pb fb := by
  obtain ⟨fd, F⟩ := T.def_ i hf
  refine ⟨_, fd, ps, F.ok S (fun vs H Q E h => ?_) (fun cdv A outer s H vs Q E hr h => ?_), T.glo j hj, F.kp, F.binds hb⟩
  · obtain ⟨a, n, Bh, p, rest, rfl, _, _, _, _, _, ar, _⟩ := h
    rw [List.length_cons, ar.length, hl a]
  · obtain ⟨a, n, Bh, p, rest, rfl, hp, hn, sm, hbp, ⟨ws, e1, e2⟩, ar, q⟩ := h
    have hN : ps.length ≤ N.length := by
      have := congrArg List.length S.pre
      rw [List.length_take] at this
      omega
    have sa0 : Sa (stG N (tAny :: ts a)) (start N (.ref p :: rest)) H Bh := start_sa sm (.cons trivial ar) (by rw [List.length_cons, hl a]; exact hN)
    have s0 : (start N (.ref p :: rest))[0]? = some (some (.ref p)) := rfl
    have hl0 : 0 < (stG N (tAny :: ts a)).length := by unfold stG; simp
    let H0 : Hp := fun b => if b = p then none else H b
    have hH0 : ∀ b o, H0 b = some o → b ≠ p ∧ H b = some o := fun b o e => by
      by_cases hbp : b = p
      · have : H0 b = none := if_pos hbp
        rw [this] at e; cases e
      · have : H0 b = H b := if_neg hbp
        exact ⟨hbp, this ▸ e⟩
    have hH0' : ∀ b, b ≠ p → H0 b = H b := fun b hb => if_neg hb
    refine ⟨_, body _ cdv A outer s H E a n p hp hn hr, H0, Bh, Bh, Bh, ⟨⟨by rw [List.length_set]; exact sa0.ln, sm, fun m t e => ?_⟩, ⟨fun b o e => (hH0 b o e).2, .refl _, sm, fun b h1 _ => h1⟩, .refl _, fun m o e => ?_, fun m l om ol q e1 e2 _ _ => ?_⟩, fun b v H' B' pb st hb' pen r => q b v H' B' pb ⟨fun c o hc e => st.h c o (by rw [hH0' c hc]; exact e), st.b, st.s, fun c h1 h2 => ?_, hb', pen⟩ r⟩
    · rcases getset e with ⟨_, z⟩ | ⟨_, z⟩
      · cases z
      · exact sa0.ty m t z
    · rcases getset e with ⟨rfl, z⟩ | ⟨_, z⟩
      · cases z
        exact ⟨p, _, s0, if_pos rfl, hbp, e1, rfl, ws, rfl, e2⟩
      · exact (stG_own z).elim
    · rcases getset e1 with ⟨rfl, _⟩ | ⟨_, z⟩
      · rcases getset e2 with ⟨rfl, _⟩ | ⟨_, z⟩
        · rfl
        · exact (stG_own z).elim
      · exact (stG_own z).elim
    · by_cases hc : c = p
      · rw [hc]; exact hb'
      · exact st.f c h1 (by rw [hH0' c hc]; exact h2)
end
end Rk
/-! part D29 -/
namespace Rk
open PySem PySem.Spec L2
/-! ### _law_draw -/
def oPx (p : Addr) (a b c : Int) : Osp where
  ok := fun q o B => q = p ∧ o = .lst [.int a, .int b, .int c]
  st := fun e h => h
  ty := tD (.list [.int a, .int b, .int c])
  as := fun ⟨h0, h1⟩ hp => .lst (h1 ▸ hp) (by show 3 ≤ 100000; decide) (.cons (.int _) (.cons (.int _) (.cons (.int _) .nil)))
theorem Ste.own {H0 B0 Bl H B : Hp} {Γ : Gm} {σ : St} {i : Nat} {o1 o2 : Osp} (s : Ste H0 B0 Bl Γ σ H B) (hi : Γ[i]? = some (some (.own o1))) (k : ∀ q h, o1.ok q h B → H q = some h → o2.ok q h B) : Ste H0 B0 Bl (Γ.set i (some (.own o2))) σ H B := by
  refine ⟨⟨by simp [s.sa.ln], s.sa.sm, fun j t e => ?_⟩, s.sp, s.lb, fun j u e => ?_, fun j l oj ol q e1 e2 e3 e4 => ?_⟩
  · rcases getset e with ⟨_, z⟩ | ⟨hn, z⟩
    · cases z
    · exact s.sa.ty j t z
  · rcases getset e with ⟨rfl, z⟩ | ⟨hn, z⟩
    · cases z
      obtain ⟨q, hq, b1, b2, b3, b4, b5⟩ := s.ow _ _ hi
      exact ⟨q, hq, b1, b2, b3, b4, k q hq b5 b4⟩
    · exact s.ow j u z
  · have w : ∀ {m : Nat} {om : Osp}, (Γ.set i (some (Sl.own o2)))[m]? = some (some (Sl.own om)) → ∃ om', Γ[m]? = some (some (Sl.own om')) := fun {m om} e => by
      rcases getset e with ⟨rfl, z⟩ | ⟨_, z⟩
      · exact ⟨_, hi⟩
      · exact ⟨_, z⟩
    obtain ⟨_, f1⟩ := w e1
    obtain ⟨_, f2⟩ := w e2
    exact s.di j l _ _ q f1 f2 e3 e4
section
variable {X : Cx} {Γ Γ1 : Gm} {e e1 e2 o a b c : Expr} {es : List Expr} {A : Type} {i j n n1 n2 n' : Nat} {P : A → Prop} {f g : A → Ty} {t u : Ty} {pos pp p px : Pos} {st : Stmt} {ss : List Stmt} {N N1 C K : Gm → Prop} {x y : Str} {p0 : Addr}
/-- the three numbers by name -/
theorem GSR.open (hi : Γ[i]? = some (some (.own (oPen p0 n)))) (h : ∀ a b c : Int, 0 ≤ b → b < 2147483648 → 1 ≤ c → c ≤ n → GSR X (Γ.set i (some (.own (oPx p0 a b c)))) ss p0 n' P f) : GSR X Γ ss p0 n' P f := by
  refine PSs.imp (t0 := fun D σ H => ∃ a b c : Int, (0 ≤ b ∧ b < 2147483648 ∧ 1 ≤ c ∧ c ≤ n) ∧ rgR (Γ.set i (some (.own (oPx p0 a b c)))) p0 n' P f D σ H) ⟨fun pins s σ H D I ⟨a, b, c, ⟨h1, h2, h3, h4⟩, q⟩ => (h a b c h1 h2 h3 h4).run pins s σ H D I q⟩ ?_
  rintro D σ H ⟨H0, B0, Bl, B, s, rt⟩
  obtain ⟨q, hq, b1, b2, b3, b4, b5, ws, b6, a, b, c, b7, b8⟩ := s.ow _ _ hi
  refine ⟨a, b, c, b8, H0, B0, Bl, B, s.own (o2 := oPx p0 a b c) hi fun q' h' ok hq' => ?_, rt⟩
  obtain ⟨k1, ws', k2, k3⟩ := ok
  refine ⟨k1, ?_⟩
  subst k1
  subst b5
  rw [b4] at hq'
  cases hq'
  rw [b6, b7]
theorem GSR.close {a b c : Int} (hi : Γ[i]? = some (some (.own (oPx p0 a b c)))) (h1 : 0 ≤ b) (h2 : b < 2147483648) (h3 : 1 ≤ c) (h4 : c ≤ n) (h : GSR X (Γ.set i (some (.own (oPen p0 n)))) ss p0 n' P f) : GSR X Γ ss p0 n' P f := by
  refine PSs.imp h ?_
  rintro D σ H ⟨H0, B0, Bl, B, s, rt⟩
  exact ⟨H0, B0, Bl, B, s.own (o2 := oPen p0 n) hi fun q' h' ok hq' => ⟨ok.1, _, ok.2, a, b, c, rfl, h1, h2, h3, h4⟩, rt⟩
/-- pen[k] = e -/
theorem G1.penSet {a0 b0 c0 a1 b1 c1 v : Int} {k : Int} {kj : Nat} {kp : Nat} {pos' q1 q2 : Pos} (he : EV X (pk Γ) e (tI v)) (hgi : Γ[i]? = some (some (.own (oPx p0 a0 b0 c0)))) (hx : PE X (.Name x q1) (tVar i)) (hk : ixN 3 k = some kj) (hset : ([V.int a0, V.int b0, V.int c0].set kj (.int v)) = [V.int a1, V.int b1, V.int c1])
    (hs : swapsWithSole [.Subscript (.Name x q1) (.Constant (.int k) kp q2) pos'] e pos.line X.env = pure false := by rfl) (hw : swappedStores [.Subscript (.Name x q1) (.Constant (.int k) kp q2) pos'] e X.env = pure none := by rfl) (h1 : (assignEach [.Subscript (.Name x q1) (.Constant (.int k) kp q2) pos'] X.env).map (·.2) = [assign (.Subscript (.Name x q1) (.Constant (.int k) kp q2) pos') X.env] := by rfl)
    (ha : ∀ v, assign (.Subscript (.Name x q1) (.Constant (.int k) kp q2) pos') X.env v = (do
      let ov ← holding [v] (eval (.Name x q1) X.env)
      let iv ← holding [v, ov] (eval (.Constant (.int k) kp q2) X.env)
      standAt pos'
      holding [v, ov, iv] (setItem ov iv v)
      release [v, ov, iv] []) := by intro _; rfl) :
    G1 X Γ (.Assign [.Subscript (.Name x q1) (.Constant (.int k) kp q2) pos'] e pos) (· = Γ.set i (some (.own (oPx p0 a1 b1 c1)))) C K t :=
  PS.imp (ps_asg he (pg_sub hx pe_int set_list ha) hs hw h1) fun D σ H ⟨H0, B0, Bl, B, s, n, _⟩ => by
    obtain ⟨B2, sa2, sp2, _⟩ := s.peek
    refine ⟨B2, sa2, fun y H1 B1 s1 r1 => ?_⟩
    cases tI_R r1
    have s' := s.look s1.h
    obtain ⟨q, h, w1, w2, w3, w4, a5, a6⟩ := s'.ow i _ hgi
    subst a5
    subst a6
    refine ⟨_, w1, q, _, k, kj, rfl, rfl, w4, hk, ?_⟩
    rw [hset]
    exact n _ _ _ B rfl (s'.store (o' := oPx q a1 b1 c1) hgi w1 ⟨rfl, rfl⟩)
end
end Rk
/-! part D30 -/
namespace Rk
open PySem PySem.Spec L2
theorem fmod_pos {a b : Int} (h : 0 < b) : 0 ≤ a.fmod b ∧ a.fmod b < b := ⟨Int.fmod_nonneg_of_pos a h, Int.fmod_lt_of_pos a h⟩
section
variable {P : Program} {w : World} {K : PySem.W.Frag} {mg : Str → Option Value} {base : Heap} {X : Cx} {Γ : Gm} {e : Expr} {pos p : Pos}
theorem sc_law_draw : FnScope ["_law_pen_here", "_law_many", "_law_digit", "_law_stirred"] ["_law_pen_here", "_law_many"] (defScope s_law_draw) := ⟨rfl, rfl, rfl, by decide +kernel, rfl, by decide +kernel, by decide +kernel⟩
theorem ok_law_draw (T : Txt K mg) : DefP P w K mg base "_law_draw" 1 (A := Int) (B := Int) (fun m => [tI m]) (fun m => 0 < m ∧ m < 1000000) (fun _ => 1) (fun m r => 0 ≤ r ∧ r < m) (fun r => tI r) := by
  refine DefP.top T 48 64 sc_law_draw (fun _ _ _ _ _ _ us hl => match us, hl with | [_, _], _ => rfl) (fun _ => rfl) fun fa cdv Ar outer s H E m n p hm hn hr => ?_
  obtain ⟨m1, m2⟩ := hm
  refine GSR.open (i := 0) rfl fun a b c b1 b2 c1 c2 => ?_
  have mz : m ≠ 0 := by omega
  refine GSR.ifR (CT.cmp (EV.ixL (EV.var 0 (t := tD (.list [.int a, .int b, .int c]))) EV.int rfl) EV.int o_gt) (fun _ => ?_) fun _ => ?_
  · refine GSR.seq (G1.setPk 2 (u := tI (a.fmod m)) (EV.bin (EV.callT (T.free 1) c_intI (EA.one (EV.ixL (EV.var 0 (t := tD (.list [.int a, .int b, .int c]))) EV.int rfl))) (EV.var 1) (o_modN mz)) (sc_int _) sc_law_draw.nd) ?_
    refine GSR.seq (G1.penSet (i := 0) (a1 := a.fdiv m) (b1 := b) (c1 := c) (kj := 0) (v := a.fdiv m) (EV.bin (EV.ixL (EV.var 0 (t := tD (.list [.int a, .int b, .int c]))) EV.int rfl) (EV.var 1 (t := tI m)) (o_fdivN ⟨mz, by omega⟩)) rfl (pe_var rfl (Or.inl rfl)) rfl rfl) ?_
    refine GSR.close (i := 0) (n := n + 1) rfl b1 b2 c1 (by omega) ?_
    exact GSR.ret (i := 0) (EVp.imp (EVp.of (EV.var 2 (t := tI (a.fmod m)))) _ _ fun _ _ => ⟨a.fmod m, fmod_pos m1, fun v B h => h⟩)
  · refine GSR.seq (G1.penSet (i := 0) (a1 := a) (b1 := b) (c1 := c + 1) (kj := 2) (v := c + 1) (EV.bin (EV.ixL (EV.var 0 (t := tD (.list [.int a, .int b, .int c]))) EV.int rfl) EV.int o_add) rfl (pe_var rfl (Or.inl rfl)) rfl rfl) ?_
    have hb1 := fmod_pos (a := b * 48271 + 7919 * (c + 1) + 11) (b := 2147483647) (by decide)
    have w1 : CMulW b 48271 := wide_mul (a := 32) (b := 32) (by omega) (by decide) (by decide) (by decide) (by decide)
    have w2 : CMulW 7919 (c + 1) := wide_mul (a := 32) (b := 32) (by decide) (by unfold most at hn; omega) (by decide) (by decide) (by decide)
    refine GSR.seq (G1.penSet (i := 0) (a1 := a) (b1 := (b * 48271 + 7919 * (c + 1) + 11).fmod 2147483647) (c1 := c + 1) (kj := 1) (v := (b * 48271 + 7919 * (c + 1) + 11).fmod 2147483647) (EV.bin (EV.callT (T.free 1) c_intI (EA.one (EV.bin (EV.bin (EV.bin (EV.ixL (EV.var 0 (t := tD (.list [.int a, .int b, .int (c + 1)]))) EV.int rfl) EV.int (o_mulW w1)) (EV.bin EV.int (EV.ixL (EV.var 0 (t := tD (.list [.int a, .int b, .int (c + 1)]))) EV.int rfl) (o_mulW w2)) o_add) EV.int o_add))) EV.int (o_modN (by decide))) rfl (pe_var rfl (Or.inl rfl)) rfl rfl) ?_
    generalize (b * 48271 + 7919 * (c + 1) + 11).fmod 2147483647 = d at *
    obtain ⟨d1, d2⟩ := hb1
    have hb2 := fmod_pos (a := d * d + 40014 * d + (c + 1)) (b := 2147483563) (by decide)
    have w3 : CMulW d d := wide_mul (a := 32) (b := 32) (by omega) (by omega) (by decide) (by decide) (by decide)
    have w4 : CMulW 40014 d := wide_mul (a := 32) (b := 32) (by decide) (by omega) (by decide) (by decide) (by decide)
    refine GSR.seq (G1.setPk 3 (u := tI ((d * d + 40014 * d + (c + 1)).fmod 2147483563)) (EV.bin (EV.callT (T.free 1) c_intI (EA.one (EV.bin (EV.bin (EV.bin (EV.ixL (EV.var 0 (t := tD (.list [.int a, .int d, .int (c + 1)]))) EV.int rfl) (EV.ixL (EV.var 0 (t := tD (.list [.int a, .int d, .int (c + 1)]))) EV.int rfl) (o_mulW w3)) (EV.bin EV.int (EV.ixL (EV.var 0 (t := tD (.list [.int a, .int d, .int (c + 1)]))) EV.int rfl) (o_mulW w4)) o_add) (EV.ixL (EV.var 0 (t := tD (.list [.int a, .int d, .int (c + 1)]))) EV.int rfl) o_add))) EV.int (o_modN (by decide))) (sc_int _) sc_law_draw.nd) ?_
    generalize (d * d + 40014 * d + (c + 1)).fmod 2147483563 = e at *
    obtain ⟨e1, e2⟩ := hb2
    have w5 : CMulW e 16807 := wide_mul (a := 32) (b := 32) (by omega) (by decide) (by decide) (by decide) (by decide)
    refine GSR.close (i := 0) (n := n + 1) rfl d1 (by omega) (by omega) (by omega) ?_
    exact GSR.ret (i := 0) (EVp.imp (EVp.of (EV.bin (EV.callT (T.free 1) c_intI (EA.one (EV.bin (EV.bin (EV.callT (T.free 1) c_intI (EA.one (EV.bin (EV.var 3 (t := tI e)) EV.int (o_mulW w5)))) EV.int (o_modN (by decide))) EV.int (o_fdivN (by decide))))) (EV.var 1 (t := tI m)) (o_modN mz))) _ _ fun _ _ => ⟨_, fmod_pos m1, fun v B h => h⟩)
end
end Rk
/-! part D31 -/
namespace Rk
open PySem PySem.Spec L2
theorem atI_in {ds : List PyData} {r : Int} (h1 : 0 ≤ r) (h2 : r < ds.length) : ∃ d, atI ds r = some d ∧ d ∈ ds := by
  refine ⟨ds[r.toNat]'(by omega), ?_, List.getElem_mem _⟩
  unfold atI
  have : ixN ds.length r = some r.toNat := by
    unfold ixN
    rw [if_pos h1, if_pos h2]
  rw [this]
  exact List.getElem?_eq_getElem _
section
variable {P : Program} {w : World} {K : PySem.W.Frag} {mg : Str → Option Value} {base : Heap} {X : Cx} {Γ : Gm} {e : Expr} {es : List Expr} {i n n' : Nat} {pos p pp py : Pos} {y : Str} {m : Int} {ds : List PyData}
/-- _law_draw(pen, e) -/
theorem EVp.draw (T : Txt X.K X.mg) (hr : Room 1 X.A) (h : EV X Γ e (tI m)) (h1 : 0 < m) (h2 : m < 1000000) (hlim : n + 1 ≤ most) (hpen : PE X (.Name y py) (tVar i)) (hg : Gl X "_law_draw" := by rfl) (he : starEach [.Name y py, e] X.env = (false, eval (.Name y py) X.env) :: starEach [e] X.env := by rfl) (hpl : (backTo pos (starEach [e] X.env)).any (·.1) = false := by rfl) (hs : starEach [e] X.env = (false, eval e X.env) :: starEach [] X.env := by rfl) :
    EVp X Γ i n (n + 1) (.Call (.Name "_law_draw" pp) [.Name y py, e] [] pos) (fun r : Int => 0 ≤ r ∧ r < m) (fun r => tI r) :=
  EVp.imp (EVp.callP (ok_law_draw (P := X.prog) (w := X.w) (base := X.base) T) (fun _ : Unit => m) (fun _ _ => ⟨h1, h2⟩) (fun _ _ => rfl) hr (EAp.ea (ts := [tI m]) (EA.one h hs)) hlim hpen hg (by decide) he hpl) _ _ fun c hc => ⟨c.2, hc.2, fun v B h => h⟩
theorem sc_law_pick : FnScope ["_law_pen_here", "_law_things"] ["_law_pen_here", "_law_things"] (defScope s_law_pick) := ⟨rfl, rfl, rfl, by decide +kernel, rfl, by decide +kernel, by decide +kernel⟩
theorem ok_law_pick (T : Txt K mg) : DefP P w K mg base "_law_pick" 2 (A := List PyData) (B := PyData) (fun ds => [tD (.list ds)]) (fun ds => ds ≠ [] ∧ ds.length < 1000000) (fun _ => 1) (fun ds d => d ∈ ds) (fun d => tD d) := by
  refine DefP.top T 49 65 sc_law_pick (fun _ _ _ _ _ _ us hl => match us, hl with | [_, _], _ => rfl) (fun _ => rfl) fun fa cdv Ar outer s H E ds n p hm hn hr => ?_
  obtain ⟨m1, m2⟩ := hm
  have m3 : 0 < ds.length := List.length_pos_iff.mpr m1
  refine GSR.ret (i := 0) (n := n) (EVp.imp (EVp.ixL (P := fun r : Int => 0 ≤ r ∧ r < (ds.length : Nat)) (k := fun r => r) (d := fun r => (atI ds r).getD .none) (EV.var 1 (t := tD (.list ds))) (EVp.draw T hr (EV.callB (T.free 5) c_lenL (EA.one (EV.var 1 (t := tD (.list ds))))) (by omega) (by omega) hn (pe_var rfl (Or.inl rfl))) fun r hr => ?_) _ _ fun r hr => ?_)
  · obtain ⟨d, h1, _⟩ := atI_in hr.1 hr.2
    rw [h1]; rfl
  · obtain ⟨d, h1, h2⟩ := atI_in hr.1 hr.2
    exact ⟨d, h2, fun v B h => by rw [h1] at h; exact h⟩
theorem EVp.pick {A : Type} {PA : A → Prop} {fs : A → List PyData} {n1 : Nat} (T : Txt X.K X.mg) (hr : Room 2 X.A) (h : EVp X Γ i n n1 e PA (fun a => tD (.list (fs a)))) (h1 : ∀ a, PA a → fs a ≠ [] ∧ (fs a).length < 1000000) (hlim : n1 + 1 ≤ most) (hpen : PE X (.Name y py) (tVar i)) (hg : Gl X "_law_pick" := by rfl) (he : starEach [.Name y py, e] X.env = (false, eval (.Name y py) X.env) :: starEach [e] X.env := by rfl) (hpl : (backTo pos (starEach [e] X.env)).any (·.1) = false := by rfl) (hs : starEach [e] X.env = (false, eval e X.env) :: starEach [] X.env := by rfl) :
    EVp X Γ i n (n1 + 1) (.Call (.Name "_law_pick" pp) [.Name y py, e] [] pos) (fun c : A × PyData => PA c.1 ∧ c.2 ∈ fs c.1) (fun c => tD c.2) :=
  EVp.callP (ok_law_pick (P := X.prog) (w := X.w) (base := X.base) T) fs h1 (fun _ _ => rfl) hr (EAp.one h hs) hlim hpen hg (by decide) he hpl
end
end Rk
/-! part Ly10 -/
namespace Rk
open PySem PySem.Spec L2
section
variable {H0 B0 Bl H B H' B' : Hp} {Γ : Gm} {σ : St}
theorem Ste.peek3 (s : Ste H0 B0 Bl Γ σ H B) : ∃ B2, Sa (pk Γ) σ H B2 ∧ Stp H0 B0 H B2 ∧ Same B B2 ∧ ∀ a, B a = none → B2 a ≠ none → ∃ (i : Nat) (o : Osp), Γ[i]? = some (some (Sl.own o)) ∧ σ[i]? = some (some (V.ref a)) := by
  classical
  let own : Addr → Prop := fun a => ∃ (i : Nat) (o : Osp), Γ[i]? = some (some (Sl.own o)) ∧ σ[i]? = some (some (V.ref a))
  have hB : ∀ a, own a → H0 a = none ∧ B a = none := fun a ⟨i, o, e1, e2⟩ => by
    obtain ⟨p, h, a1, a2, a3, _⟩ := s.ow i o e1
    rw [e2] at a1; cases a1
    exact ⟨a2, a3⟩
  have sBB : Same B fun a => if own a then H a else B a := fun a o e => by
    have : ¬ own a := fun z => by rw [(hB a z).2] at e; cases e
    show (if own a then H a else B a) = some o
    rw [if_neg this]; exact e
  refine ⟨fun a => if own a then H a else B a, ⟨by simp [pk, s.sa.ln], fun a o e => ?_, fun i t e => ?_⟩, ⟨s.sp.h, s.sp.b.trans sBB, fun a o e => ?_, fun a h1 h2 => ?_⟩, sBB, fun a h1 h2 => ?_⟩
  · have e : (if own a then H a else B a) = some o := e
    by_cases ha : own a
    · rw [if_pos ha] at e; exact e
    · rw [if_neg ha] at e; exact s.sa.sm a o e
  · unfold pk at e
    rw [List.getElem?_map] at e
    cases q : Γ[i]? with
    | none => rw [q] at e; cases e
    | some x =>
      rw [q] at e
      cases x with
      | none => cases e
      | some y =>
        cases y with
        | ty t' =>
          have e : some (some (Sl.ty t')) = some (some (Sl.ty t)) := e
          cases e
          obtain ⟨v, h1, h2⟩ := s.sa.ty i t q
          exact ⟨v, h1, t.st sBB h2⟩
        | own o =>
          have e : some (some (Sl.ty o.ty)) = some (some (Sl.ty t)) := e
          cases e
          obtain ⟨p, h, a1, a2, a3, a4, a5⟩ := s.ow i o q
          refine ⟨.ref p, a1, o.as (o.st sBB a5) ?_⟩
          show (if own p then H p else B p) = some h
          rw [if_pos ⟨i, o, q, a1⟩]; exact a4
  · have e : (if own a then H a else B a) = some o := e
    by_cases ha : own a
    · rw [if_pos ha] at e; exact e
    · rw [if_neg ha] at e; exact s.sa.sm a o e
  · show (if own a then H a else B a) = none
    rw [if_neg fun z => h2 (hB a z).1]; exact s.sp.f a h1 h2
  · have h2 : (if own a then H a else B a) ≠ none := h2
    by_cases ha : own a
    · exact ha
    · rw [if_neg ha] at h2; exact absurd h1 h2
theorem Ste.drop (s : Ste H0 B0 Bl Γ σ H B) (i : Nat) : Ste H0 B0 Bl (Γ.set i none) σ H B := by
  have w : ∀ {m : Nat} {x : Sl}, (Γ.set i none)[m]? = some (some x) → m ≠ i ∧ Γ[m]? = some (some x) := fun {m x} e => by
    rcases getset e with ⟨_, z⟩ | ⟨hn, z⟩
    · cases z
    · exact ⟨hn, z⟩
  exact ⟨⟨by simp [s.sa.ln], s.sa.sm, fun j t e => s.sa.ty j t (w e).2⟩, s.sp, s.lb, fun j u e => s.ow j u (w e).2, fun j l oj ol q e1 e2 e3 e4 => s.di j l oj ol q (w e1).2 (w e2).2 e3 e4⟩
/-- all slots seen but the pen's -/
theorem Ste.peekP {i : Nat} {o : Osp} {p : Addr} (s : Ste H0 B0 Bl Γ σ H B) (hi : Γ[i]? = some (some (.own o))) (hp : σ[i]? = some (some (.ref p))) : ∃ B2, Sa (pk (Γ.set i none)) σ H B2 ∧ Same B B2 ∧ B2 p = none ∧ Stp H0 B0 H B2 := by
  obtain ⟨B2, h1, h2, h3, h4⟩ := (s.drop i).peek3
  obtain ⟨q, h, a1, a2, a3, a4, a5⟩ := s.ow i o hi
  rw [hp] at a1; cases a1
  refine ⟨B2, h1, h3, ?_, h2⟩
  cases z : B2 p with
  | none => rfl
  | some u =>
    obtain ⟨j, oj, e1, e2⟩ := h4 p a3 (by rw [z]; exact fun z => nomatch z)
    rcases getset e1 with ⟨_, z⟩ | ⟨hn, z2⟩
    · cases z
    · exact absurd (s.di i j o oj p hi z2 hp e2) (Ne.symm hn)
/-- back to the base that held before the look -/
theorem StpP.base {p : Addr} {n : Nat} {B2 : Hp} (k : StpP p n H B2 H' B') (sm : Same B H) (hb : B p = none) : StpP p n H B H' B :=
  ⟨k.h, .refl _, fun a o e => k.h a o (fun z => by rw [z, hb] at e; cases e) (sm a o e), fun a h _ => h, hb, k.pen⟩
end
end Rk
/-! part D32 -/
namespace Rk
open PySem PySem.Spec L2
theorem Da.erase {B : Hp} : ∀ {xs : List V} {ds : List PyData} (k : Nat), Da B xs ds → Da B (xs.eraseIdx k) (ds.eraseIdx k)
  | [], _, k, h => by cases h; cases k <;> exact .nil
  | x :: xs, _, 0, h => by cases h with | cons h1 h2 => exact h2
  | x :: xs, _, k + 1, h => by cases h with | cons h1 h2 => exact .cons h1 (Da.erase k h2)
theorem seqIdx_of {n : Nat} {i : Int} (h1 : 0 ≤ i) (h2 : i < n) : seqIndex? i n = some i.toNat := by
  have : ixN n i = some i.toNat := by unfold ixN; rw [if_pos h1, if_pos h2]
  exact (ixN_seq this).1
section
variable {P : Program} {w : World} {K : PySem.W.Frag} {mg : Str → Option Value} {base : Heap} {X : Cx} {Γ : Gm} {e : Expr} {es : List Expr} {i j l n n' : Nat} {pos p pp px py pt pt2 q1 q2 c1 c2 ap ap2 : Pos} {x y : Str} {m : Int} {ds fs : List PyData} {C K1 : Gm → Prop} {t : Ty} {kt k2 : Nat}
/-- a, b = list(e), [] -/
theorem G1.parLN {ps p1 : Pos} (i j : Nat) (he : EV X Γ e (tD (.list ds))) (hm : X.mg "list" = none) (nd : X.N.Nodup) (hleni : i < Γ.length := by exact Nat.le_of_ble_eq_true rfl) (hlen : j < Γ.length := by exact Nat.le_of_ble_eq_true rfl) (hij : i ≠ j := by decide) (hi : X.N[i]? = some x := by rfl) (hj : X.N[j]? = some y := by rfl) (hx : X.env.scope.names.lookup x = some .local := by rfl) (hy : X.env.scope.names.lookup y = some .local := by rfl)
    (hw : swappedStores [.Tuple [.Name x px, .Name y py] kt pt] (.Tuple [.Call (.Name "list" p1) [e] [] c1, .List [] ps] k2 pt2) X.env = pure (some [x, y]) := by rfl) (hs : swapsWithSole [.Tuple [.Name x px, .Name y py] kt pt] (.Tuple [.Call (.Name "list" p1) [e] [] c1, .List [] ps] k2 pt2) pos.line X.env = pure false := by rfl) (hc : X.calm = true := by rfl) (hg : Gl X "list" := by rfl)
    (hst : starEach [.Call (.Name "list" p1) [e] [] c1, .List [] ps] X.env = (false, eval (.Call (.Name "list" p1) [e] [] c1) X.env) :: starEach [.List [] ps] X.env := by rfl) (hst2 : starEach [.List [] ps] X.env = (false, eval (.List [] ps) X.env) :: starEach [] X.env := by rfl)
    (hse : starEach [e] X.env = (false, eval e X.env) :: starEach [] X.env := by rfl) (hpl : (backTo c1 (starEach [] X.env)).any (·.1) = false := by rfl) :
    G1 X Γ (.Assign [.Tuple [.Name x px, .Name y py] kt pt] (.Tuple [.Call (.Name "list" p1) [e] [] c1, .List [] ps] k2 pt2) pos) (· = (Γ.set i (some (.own (oL ds)))).set j (some (.own (oL [])))) C K1 t := by
  refine PS.imp (ps_par hc nd hi hj hij hx hy (pa_cons (pe_callTy call_list_of hg hm (by decide +kernel) (EA.one he hse) (he := hse) (hpl := hpl)) (pa_cons (pe_lst pa_nil) pa_nil hst2) hst) hw hs) ?_
  rintro D σ H ⟨H0, B0, Bl, B, s, n, _⟩
  refine ⟨B, s.sa, fun vs H1 B1 s1 r1 => ?_⟩
  obtain ⟨v, rfl, h⟩ := r1.one
  obtain ⟨a, xs, rfl, h1, h2, h3⟩ := tL_R h
  refine ⟨a, xs, rfl, .inl (SqL.of (s1.s _ _ h1)), fun q hq => ⟨Nat.zero_le _, fun q2 hq2 => ⟨_, _, rfl, ?_⟩⟩⟩
  have s2 := (s.step s1).newOwn (i := i) (o := oL ds) (h := .lst xs) hleni hq ⟨xs, rfl, h2, h3⟩
  exact n _ _ _ B1 rfl (s2.newOwn (i := j) (o := oL []) (h := .lst []) (by simpa using hlen) hq2 ⟨[], rfl, Nat.zero_le _, .nil⟩)
end
end Rk
/-! part D33 -/
namespace Rk
open PySem PySem.Spec L2
section
variable {P : Program} {w : World} {K : PySem.W.Frag} {mg : Str → Option Value} {base : Heap} {X : Cx} {Γ : Gm} {e : Expr} {es : List Expr} {i j l n n' : Nat} {pos p pp px py pt pt2 q1 q2 c1 c2 ap ap2 : Pos} {x y : Str} {m : Int} {ds fs : List PyData} {C K1 : Gm → Prop} {t : Ty} {kt k2 : Nat} {p0 : Addr}
/-- f.append(l.pop(e)), e an index drawn -/
theorem G1.popApp (jl jf : Nat) (hE : EVp X (pk (Γ.set i none)) i n n' e (fun r : Int => 0 ≤ r ∧ r < (ds.length : Nat)) (fun r => tI r)) (hgi : Γ[i]? = some (some (.own (oPen p0 n)))) (hgl : Γ[jl]? = some (some (.own (oL ds)))) (hgf : Γ[jf]? = some (some (.own (oL fs)))) (hij : i ≠ jl) (hif : i ≠ jf) (hlf : jl ≠ jf) (hz : fs.length < lim) (hzl : ds.length ≤ lim)
    (hx : PE X (.Name x q1) (tVar jf)) (hy : PE X (.Name y q2) (tVar jl))
    (hb1 : attributeBase (.Name x q1) "append" X.env (eval (.Name x q1) X.env) = eval (.Name x q1) X.env := by rfl) (hb2 : attributeBase (.Name y q2) "pop" X.env (eval (.Name y q2) X.env) = eval (.Name y q2) X.env := by rfl)
    (hfew1 : ((backTo c1 (starEach [.Call (.Attribute (.Name y q2) "pop" ap2) [e] [] c2] X.env)).all (fun x => !x.1) && (backToKw c1 (keywordEach [] X.env)).all (fun x => x.1.isSome) && decide (([.Call (.Attribute (.Name y q2) "pop" ap2) [e] [] c2] : List Expr).length + ([] : List Keyword).length + (if ([] : List Keyword).isEmpty then 0 else 1) < 30)) = true := by rfl)
    (hfew2 : ((backTo c2 (starEach [e] X.env)).all (fun x => !x.1) && (backToKw c2 (keywordEach [] X.env)).all (fun x => x.1.isSome) && decide (([e] : List Expr).length + ([] : List Keyword).length + (if ([] : List Keyword).isEmpty then 0 else 1) < 30)) = true := by rfl)
    (hl1 : (ap.endLine == c1.line) = true := by rfl) (hl2 : (ap2.endLine == c2.line) = true := by rfl) (hse1 : starEach [.Call (.Attribute (.Name y q2) "pop" ap2) [e] [] c2] X.env = (false, eval (.Call (.Attribute (.Name y q2) "pop" ap2) [e] [] c2) X.env) :: starEach [] X.env := by rfl) (hse2 : starEach [e] X.env = (false, eval e X.env) :: starEach [] X.env := by rfl)
    (hpl1 : (backTo c1 (starEach [] X.env)).any (·.1) = false := by rfl) (hpl2 : (backTo c2 (starEach [] X.env)).any (·.1) = false := by rfl)
    (hs : swapsWith (.Call (.Attribute (.Name x q1) "append" ap) [.Call (.Attribute (.Name y q2) "pop" ap2) [e] [] c2] [] c1) none pos.line X.env = pure false := by rfl) :
    G1 X Γ (.Expr (.Call (.Attribute (.Name x q1) "append" ap) [.Call (.Attribute (.Name y q2) "pop" ap2) [e] [] c2] [] c1) pos) (fun Γ' => ∃ (k : Nat) (d : PyData), ds[k]? = some d ∧ Γ' = ((Γ.set i (some (.own (oPen p0 n')))).set jl (some (.own (oL (ds.eraseIdx k))))).set jf (some (.own (oL (fs ++ [d]))))) C K1 t := by
  refine PS.imp (ps_expr (pe_bm PySem.F.plainAttrs_list PySem.F.slot_list_append PySem.F.type_list_append mt_append hx (pa_cons (pe_bm PySem.F.plainAttrs_list PySem.F.slot_list_pop PySem.F.type_list_pop mt_popAt hy (pa_cons hE pa_nil hse2) (hbase := hb2) (hfew := hfew2) (hline := hl2) (hs := hse2) (hplain := hpl2)) pa_nil hse1) (hbase := hb1) (hfew := hfew1) (hline := hl1) (hs := hse1) (hplain := hpl1)) hs) ?_
  rintro D σ H ⟨H0, B0, Bl, B, s, nx, _⟩
  obtain ⟨qf, hf, f1, f2, f3, f4, vsf, rfl, f5, f6⟩ := s.ow jf _ hgf
  obtain ⟨ql, hl, l1, l2, l3, l4, vsl, rfl, l5, l6⟩ := s.ow jl _ hgl
  obtain ⟨qp, hp, p1, p2, p3, p4, p5, ws, p6, p7⟩ := s.ow i _ hgi
  obtain ⟨B2, sa2, sm2, hb2, _⟩ := s.peekP hgi p1
  have nlp : ql ≠ qp := fun z => hij (s.di i jl _ _ qp hgi hgl p1 (z ▸ l1))
  have nfp : qf ≠ qp := fun z => hif (s.di i jf _ _ qp hgi hgf p1 (z ▸ f1))
  have nlf : qf ≠ ql := fun z => hlf (s.di jl jf _ _ ql hgl hgf l1 (z ▸ f1))
  refine ⟨_, f1, Or.inl ⟨rfl, _, SqL.of f4⟩, _, l1, Or.inl ⟨rfl, _, SqL.of l4⟩, B2, qp, sa2, p1, hb2, ⟨ws, by rw [p4, p6], p7⟩, fun r v H1 B1 pr s1 r1 => ?_⟩
  cases tI_R r1
  have sb := s1.base s.sa.sm p3
  have s2 := s.stepP hgi p1 sb
  have hd : r.toNat < ds.length := by omega
  have hv : r.toNat < vsl.length := by rw [l6.length]; exact hd
  obtain ⟨v, hv1, hv2⟩ := l6.get (List.getElem?_eq_getElem hd)
  have hl1' : H1 ql = some (.lst vsl) := s1.h _ _ nlp l4
  have hf1' : H1 qf = some (.lst vsf) := s1.h _ _ nfp f4
  refine ⟨ql, vsl, r, r.toNat, v, rfl, rfl, hl1', by omega, by unfold lim at hzl; omega, seqIdx_of pr.1 (by rw [l6.length]; exact pr.2), hv1, ?_⟩
  refine ⟨qf, vsf, v, rfl, rfl, ?_, lim_lt f5, ?_⟩
  · rw [upd_ne nlf]; exact hf1'
  have g1 : (Γ.set i (some (Sl.own (oPen p0 n'))))[jl]? = some (some (.own (oL ds))) := by rw [List.getElem?_set_ne hij]; exact hgl
  have s3 := s2.store (o' := oL (ds.eraseIdx r.toNat)) g1 l1 ⟨vsl.eraseIdx r.toNat, rfl, Nat.le_trans (List.length_eraseIdx_le _ _) l5, l6.eraseIdx _⟩
  have g2 : ((Γ.set i (some (Sl.own (oPen p0 n')))).set jl (some (.own (oL (ds.eraseIdx r.toNat)))))[jf]? = some (some (.own (oL fs))) := by rw [List.getElem?_set_ne hlf, List.getElem?_set_ne hif]; exact hgf
  have hzf : vsf.length < lim := by rw [f6.length]; exact hz
  exact nx _ _ _ B ⟨r.toNat, _, List.getElem?_eq_getElem hd, rfl⟩ (s3.store (o' := oL (fs ++ [ds[r.toNat]])) g2 f1 ⟨vsf ++ [v], rfl, by rw [List.length_append]; exact hzf, f6.append (.cons hv2 .nil)⟩)
end
end Rk
/-! part D34 -/
namespace Rk
open PySem PySem.Spec L2
theorem erase_perm : ∀ {ns : List Int} {k : Nat} {d : Int}, ns[k]? = some d → (d :: ns.eraseIdx k).Perm ns
  | [], k, d, h => by simp at h
  | x :: xs, 0, d, h => by simp at h; subst h; exact List.Perm.refl _
  | x :: xs, k + 1, d, h => (List.Perm.swap x d _).trans (List.Perm.cons x (erase_perm (ns := xs) (by simpa using h)))
theorem map_erase (f : Int → PyData) : ∀ (ns : List Int) (k : Nat), (ns.map f).eraseIdx k = (ns.eraseIdx k).map f
  | [], k => by cases k <;> rfl
  | x :: xs, 0 => rfl
  | x :: xs, k + 1 => by
    show f x :: (xs.map f).eraseIdx k = _
    rw [map_erase f xs k]; rfl
theorem perm_erase {fs ns : List Int} {k : Nat} {d : Int} (h : ns[k]? = some d) : (fs ++ [d] ++ ns.eraseIdx k).Perm (fs ++ ns) := by
  have h1 : (d :: ns.eraseIdx k).Perm ns := erase_perm h
  rw [List.append_assoc]
  exact (List.Perm.append_left fs h1)
section
variable {P : Program} {w : World} {K : PySem.W.Frag} {mg : Str → Option Value} {base : Heap} {X : Cx} {Γ : Gm} {e : Expr} {es : List Expr} {i j l n n' : Nat} {pos p pp px py pt pt2 q1 q2 c1 c2 ap ap2 : Pos} {x y : Str} {m : Int} {ds fs : List PyData} {C K1 : Gm → Prop} {t : Ty} {kt k2 : Nat} {p0 : Addr} {A : Type} {PA : A → Prop} {f : A → Ty}
theorem GSR.retO (he : EVp X (pk (Γ.set i none)) i n n' e PA f) (hgi : Γ[i]? = some (some (.own (oPen p0 n)))) : GSR X Γ [.Return (some e) pos] p0 n' PA f :=
  PSs.imp (pss_one (ps_ret he)) fun D σ H ⟨H0, B0, Bl, B, s, rt⟩ => by
    obtain ⟨p, h, a1, a2, a3, a4, a5, ws, a6, a7⟩ := s.ow i _ hgi
    subst a5
    obtain ⟨B2, sa2, sm2, hb2, sp2⟩ := s.peekP hgi a1
    refine ⟨B2, p, sa2, a1, hb2, ⟨ws, by rw [a4, a6], a7⟩, fun c v H1 B1 pc s1 r1 => rt c v H1 B1 pc ⟨fun a o e => s1.h a o (fun z => by rw [z, a2] at e; cases e) (sp2.h a o e), sp2.b.trans s1.b, s1.s, fun a h1 h2 => s1.f a (sp2.f a h1 h2) fun z => ?_⟩ s1.bp s1.pen r1⟩
    cases q : H0 a with
    | none => exact h2 q
    | some o => rw [sp2.h a o q] at z; cases z
theorem sc_law_mixed : FnScope ["_law_pen_here", "_law_things", "_law_left", "_law_found"] ["_law_pen_here", "_law_things"] (defScope s_law_mixed) := ⟨rfl, rfl, rfl, by decide +kernel, rfl, by decide +kernel, by decide +kernel⟩
theorem ok_law_mixed (T : Txt K mg) : DefP P w K mg base "_law_mixed" 2 (A := List Int) (B := List Int) (fun ns => [tD (dI ns)]) (fun ns => ns.length ≤ 1000) (fun ns => ns.length) (fun ns ms => ms.Perm ns) (fun ms => tD (dI ms)) := by
  refine DefP.top T 50 66 sc_law_mixed (fun _ _ _ _ _ _ us hl => match us, hl with | [_, _], _ => rfl) (fun _ => rfl) fun fa cdv Ar outer s H E things n p hm hn hr => ?_
  refine GSR.seq (G1.parLN (ds := things.map .int) 2 3 (EV.var 1 (t := tD (dI things))) (T.free 4) sc_law_mixed.nd) ?_
  let Iv : Nat → Gm → Prop := fun m Γ => ∃ (fs ns : List Int), ns.length = m ∧ (fs ++ ns).Perm things ∧ Γ = [some (.own (oPen p (n + fs.length))), some (.ty (tD (dI things))), some (.own (oL (ns.map .int))), some (.own (oL (fs.map .int)))]
  refine GSR.cons (N1 := Iv 0) (G1.whileS Iv things.length ?_ fun m Γi hi => ?_) ?_
  · exact ⟨[], things, rfl, List.Perm.refl _, rfl⟩
  · obtain ⟨fs, ns, rfl, hperm, rfl⟩ := hi
    have hlen := hperm.length_eq
    rw [List.length_append] at hlen
    refine ⟨_, CT.neNilI hr (EV.var 2 (t := tD (dI ns))), fun hb => ?_, fun hb => ?_⟩
    · have hne : ns ≠ [] := by simpa using hb
      have hpos : 0 < ns.length := List.length_pos_iff.mpr hne
      refine GS.cons (N1 := fun Γ' => ∃ m', m' < ns.length ∧ Iv m' Γ') (G1.to (G1.popApp (i := 0) (n := n + fs.length) (n' := n + fs.length + 1) (ds := ns.map .int) (fs := fs.map .int) (p0 := p) 2 3 ?_ rfl rfl rfl (by decide) (by decide) (by decide) (by rw [List.length_map]; unfold lim; omega) (by rw [List.length_map]; unfold lim; omega) (pe_var rfl (Or.inl rfl)) (pe_var rfl (Or.inl rfl))) ?_) fun Γ1 h => GS.nil h
      · exact EVp.imp (EVp.draw T hr (EV.callB (T.free 5) c_lenL (EA.one (EV.var 2 (t := tD (dI ns))))) (by rw [List.length_map]; omega) (by rw [List.length_map]; omega) (by unfold most at hn ⊢; omega) (pe_var rfl (Or.inl rfl))) _ _ fun r hr => ⟨r, hr, fun v B h => h⟩
      · rintro Γ' ⟨k, d, hd, rfl⟩
        rw [List.getElem?_map] at hd
        cases hk : ns[k]? with
        | none => rw [hk] at hd; cases hd
        | some z =>
          rw [hk] at hd
          have : PyData.int z = d := Option.some.inj hd
          subst this
          have hk2 := (List.getElem?_eq_some_iff.mp hk).1
          refine ⟨ns.length - 1, by omega, fs ++ [z], ns.eraseIdx k, by rw [List.length_eraseIdx_of_lt hk2], (perm_erase hk).trans hperm, ?_⟩
          rw [List.map_append, map_erase, List.length_append]
          rfl
    · have he : ns = [] := by simpa using hb
      exact ⟨fs, ns, by rw [he]; rfl, hperm, rfl⟩
  · rintro Γ1 ⟨fs, ns, h1, h2, rfl⟩
    have : ns = [] := List.length_eq_zero_iff.mp h1
    subst this
    rw [List.append_nil] at h2
    have hl := h2.length_eq
    rw [← hl]
    exact GSR.retO (i := 0) (n := n + fs.length) (EVp.imp (EVp.of (EV.var 3 (t := tD (dI fs)))) _ _ fun _ _ => ⟨fs, h2, fun v B h => h⟩) rfl
end
end Rk
/-! part D35 -/
namespace Rk
open PySem PySem.Spec L2
section
variable {P : Program} {w : World} {K : PySem.W.Frag} {mg : Str → Option Value} {base : Heap} {X : Cx} {Γ : Gm} {e : Expr} {es : List Expr} {i j l n n' : Nat} {pos p pp px py pt pt2 q1 q2 c1 c2 ap ap2 : Pos} {x y : Str} {m : Int} {ns : List Int} {C K1 : Gm → Prop} {t : Ty} {kt k2 : Nat} {p0 : Addr}
/-- _law_mixed(pen, e) -/
theorem EVp.mixed (T : Txt X.K X.mg) (hr : Room 2 X.A) (h : EV X Γ e (tD (dI ns))) (hl : ns.length ≤ 1000) (hlim : n + ns.length ≤ most) (hpen : PE X (.Name y py) (tVar i)) (hg : Gl X "_law_mixed" := by rfl) (he : starEach [.Name y py, e] X.env = (false, eval (.Name y py) X.env) :: starEach [e] X.env := by rfl) (hpl : (backTo pos (starEach [e] X.env)).any (·.1) = false := by rfl) (hs : starEach [e] X.env = (false, eval e X.env) :: starEach [] X.env := by rfl) :
    EVp X Γ i n (n + ns.length) (.Call (.Name "_law_mixed" pp) [.Name y py, e] [] pos) (fun ms : List Int => ms.Perm ns) (fun ms => tD (dI ms)) :=
  EVp.imp (EVp.callP (ok_law_mixed (P := X.prog) (w := X.w) (base := X.base) T) (fun _ : Unit => ns) (fun _ _ => hl) (fun _ _ => rfl) hr (EAp.ea (ts := [tD (dI ns)]) (EA.one h hs)) hlim hpen hg (by decide) he hpl) _ _ fun c hc => ⟨c.2, hc.2, fun v B h => h⟩
/-! ### the script: a list of the caller's, that nobody writes to -/
theorem sqL_grow {K : PySem.W.Frag} {H H' : Hp} {a : Addr} {xs : List V} (h : SqL K H a xs) (e : Same H H') : SqL K H' a xs := h.imp (fun z => z.imp (e _ _) fun ⟨o, z⟩ => ⟨o, e _ _ z⟩) id
def tSc (K : PySem.W.Frag) (ns : List Int) : Ty := ⟨fun v H => ∃ a, v = .ref a ∧ SqL K H a (ns.map V.int), fun e ⟨a, h1, h2⟩ => ⟨a, h1, sqL_grow h2 e⟩⟩
theorem c_lenSc : Clt X (.builtin "len") [tSc X.K ns] (tI ns.length) :=
  Clt.of call_len_seq fun vs H B Q sm ar q => by
    obtain ⟨v, rfl, a, rfl, h⟩ := ar.one
    refine ⟨a, _, rfl, .inl (sqL_grow h sm), q _ _ _ (Stp.refl sm) ?_⟩
    rw [List.length_map]; exact .int _
theorem EV.ixSc {a b : Expr} {i d : Int} (ha : EV X Γ a (tSc X.K ns)) (hb : EV X Γ b (tI i)) (h : atI (ns.map V.int) i = some (.int d)) (hs : PlainIx b := by exact fun _ _ => rfl) : EV X Γ (.Subscript a b pos) (tI d) :=
  EV.of (pe_ix ix_list ha hb hs) fun σ H B Q sa q => rd.two sa fun x y H1 B1 s1 rx ry => by
    obtain ⟨p, rfl, h1⟩ := rx
    cases tI_R ry
    exact ⟨p, _, i, .int d, rfl, rfl, sqL_grow h1 s1.s, h, q _ _ _ s1 (.int d)⟩
theorem EV.slSc {lo hi : Option Expr} {i j : Option Int} (hn : ns.length ≤ lim) (he : EV X Γ e (tSc X.K ns)) (hl : EO X Γ lo i) (hh : EO X Γ hi j) : EV X Γ (.Subscript e (.Slice lo hi none p) pos) (tD (.list (cutD (ns.map PyData.int) i j))) :=
  EV.of (pe_slice sl_list he hl hh) fun σ H B Q sa q => ⟨B, sa, fun v H1 B1 s1 r1 => ⟨B1, sa.mono s1, fun H2 B2 s2 => ⟨B2, sa.mono (s1.trans s2), fun H3 B3 s3 => by
    obtain ⟨a, rfl, h1⟩ := r1
    have st := (s1.trans s2).trans s3
    refine ⟨a, _, rfl, sqL_grow h1 (s2.b.trans (s3.b.trans s3.s)), fun p hp => q _ _ _ (st.trans (Stp.new s3.s hp)) (.lst upd_same (Nat.le_trans (cutV_length _ _ _) (by rw [List.length_map]; exact hn)) (cutV_da (Da.ofInts ns) i j))⟩⟩⟩⟩
theorem sc_law_cell_at : FnScope ["_law_script", "_law_k"] ["_law_script", "_law_k"] (defScope s_law_cell_at) := ⟨rfl, rfl, rfl, by decide +kernel, rfl, by decide +kernel, by decide +kernel⟩
theorem ok_law_cell_at (T : Txt K mg) : DefT P w K mg base "_law_cell_at" 1 (A := List Int) (fun a => [tSc K a, tI 0]) (fun _ => True) (fun a => tI (a.headD 0)) := by
  refine DefT.top T 46 62 sc_law_cell_at (fun _ _ _ _ _ _ us hl => match us, hl with | [_, _], _ => rfl) (fun _ => rfl) fun f cdv Ar outer s H E a hp hr => ?_
  cases a with
  | nil =>
    refine GS.cons (G1.ifF (CT.cast (CT.cmp (EV.var 1 (t := tI 0)) (EV.callB (T.free 5) c_lenSc (EA.one (EV.var 0 (t := tSc K [])))) o_lt) (by decide)) (GS.nil rfl)) ?_
    rintro Γ1 rfl
    exact GS.one (G1.ret EV.int)
  | cons z zs =>
    refine GS.cons (N1 := nev) (G1.ifS (b := true) (CT.cast (CT.cmp (EV.var 1 (t := tI 0)) (EV.callB (T.free 5) c_lenSc (EA.one (EV.var 0 (t := tSc K (z :: zs))))) o_lt) (by simp)) (fun _ => GS.one (G1.ret (EV.ixSc (ns := z :: zs) (d := z) (EV.var 0) (EV.var 1 (t := tI 0)) (by simp [atI, ixN])))) fun h => by cases h) ?_
    exact fun _ h => h.elim
end
end Rk
/-! part D36 -/
namespace Rk
open PySem PySem.Spec L2
section
variable {P : Program} {w : World} {K : PySem.W.Frag} {mg : Str → Option Value} {base : Heap} {X : Cx} {Γ : Gm} {e : Expr} {es : List Expr} {i j l n n' : Nat} {pos p pp px py : Pos} {x y : Str} {m : Int} {C K1 : Gm → Prop} {t : Ty}
def spPen : Sp := fun vs H Q _ => ∃ cell : Int, vs = [.int cell] ∧ ∀ p ws H', Same H H' → H p = none → H' p = some (.lst ws) → PenOk 1 ws → Q (.ref p) H'
theorem sc_law_pen : FnScope ["_law_cell"] ["_law_cell"] (defScope s_law_pen) := ⟨rfl, rfl, rfl, by decide +kernel, rfl, by decide +kernel, by decide +kernel⟩
theorem ok_law_pen (T : Txt K mg) : ∃ fd, FnOk P w K mg base CX0 1 (He.ga K "_law_pen") fd ["_law_cell"] spPen ∧ Binds K fd ["_law_cell"] [] ∧ PySem.W.keepIn K (.ref (He.ga K "_law_pen")) = true := by
  obtain ⟨fd, F⟩ := T.def_ 47 (at_ := fun K => He.ga K "_law_pen") (nm := "_law_pen") (q := "_law_pen") (st := s_law_pen)
  refine ⟨fd, F.ok (k := 0) sc_law_pen (fun vs H Q E h => ?_) (fun cdv A outer s H vs Q E hr h => ?_), F.binds fun _ _ _ _ _ _ us hl => match us, hl with | [_], _ => rfl, F.kp⟩
  · obtain ⟨cell, rfl, _⟩ := h
    rfl
  · obtain ⟨cell, rfl, q⟩ := h
    let Γ : Gm := [some (.ty (tI cell))]
    have sa : Sa Γ (start ["_law_cell"] [.int cell]) H (fun _ => none) := ⟨rfl, (fun a o e => by cases e), fun i u e => by
      match i, e with
      | 0, e => cases e; exact ⟨_, rfl, .int _⟩
      | i + 1, e => simp [Γ] at e⟩
    refine ⟨_, pss_one (ps_ret (pe_lst (EA.cons (Γ := Γ) (t := tI (if cell - 10 ^ 18 > 0 then cell - 10 ^ 18 else 0)) (EV.callB (T.free 12) c_max2 (EA.cons EV.int (EA.one (EV.bin (EV.var 0 (t := tI cell)) (EV.bin EV.int EV.int (o_pow ⟨by decide, by decide, by decide⟩)) o_sub)))) (EA.cons (t := tI (cell.fmod 2147483629)) (EV.bin (EV.callT (T.free 1) c_intI (EA.one (EV.var 0 (t := tI cell)))) EV.int (o_modN (by decide))) (EA.one (t := tI 1) EV.int))))), ?_⟩
    refine ⟨_, sa, fun vs H1 B1 s1 r1 => ?_⟩
    obtain ⟨a, b, c, rfl, ra, rb, rc⟩ := r1.three
    cases tI_R ra; cases tI_R rb; cases tI_R rc
    have hb := fmod_pos (a := cell) (b := 2147483629) (by decide)
    exact ⟨by show 3 ≤ sizeLine; decide, fun l hl => q l _ _ (fun a o e => by rw [upd_ne (ne_of_none (s1.h a o e) hl)]; exact s1.h a o e) (s1.h.free hl) upd_same ⟨_, _, _, rfl, hb.1, by omega, by decide, by decide⟩⟩
end
end Rk
/-! part D37 -/
namespace Rk
open PySem PySem.Spec L2
section
variable {X : Cx} {Γ : Gm} {e e1 e2 e3 : Expr} {es : List Expr} {i j l i1 n n' n1 n2 n3 : Nat} {pos p pp px py pz pt pt2 : Pos} {x y z : Str} {C K1 : Gm → Prop} {t : Ty} {kt k2 : Nat} {p0 : Addr} {A1 A2 A3 : Type} {P1 : A1 → Prop} {P2 : A2 → Prop} {P3 : A3 → Prop} {f1 : A1 → Ty} {f2 : A2 → Ty} {f3 : A3 → Ty}
theorem G1.par3P (i j l : Nat) (h1 : EVp X Γ i1 n n1 e1 P1 f1) (h2 : EVp X Γ i1 n1 n2 e2 P2 f2) (h3 : EVp X Γ i1 n2 n3 e3 P3 f3) (nd : X.N.Nodup) (hgi : Γ[i1]? = some (some (.own (oPen p0 n)))) (hij : i ≠ j := by decide) (hil : i ≠ l := by decide) (hjl : j ≠ l := by decide) (hi : X.N[i]? = some x := by rfl) (hj : X.N[j]? = some y := by rfl) (hl : X.N[l]? = some z := by rfl)
    (hx : X.env.scope.names.lookup x = some .local := by rfl) (hy : X.env.scope.names.lookup y = some .local := by rfl) (hz : X.env.scope.names.lookup z = some .local := by rfl)
    (hw : swappedStores [.Tuple [.Name x px, .Name y py, .Name z pz] kt pt] (.Tuple [e1, e2, e3] k2 pt2) X.env = pure (some [x, y, z]) := by rfl) (hs : swapsWithSole [.Tuple [.Name x px, .Name y py, .Name z pz] kt pt] (.Tuple [e1, e2, e3] k2 pt2) pos.line X.env = pure false := by rfl) (hc : X.calm = true := by rfl)
    (hst : starEach [e1, e2, e3] X.env = (false, eval e1 X.env) :: starEach [e2, e3] X.env := by rfl) (hst2 : starEach [e2, e3] X.env = (false, eval e2 X.env) :: starEach [e3] X.env := by rfl) (hst3 : starEach [e3] X.env = (false, eval e3 X.env) :: starEach [] X.env := by rfl) :
    G1 X Γ (.Assign [.Tuple [.Name x px, .Name y py, .Name z pz] kt pt] (.Tuple [e1, e2, e3] k2 pt2) pos) (fun Γ' => ∃ a b c, P1 a ∧ P2 b ∧ P3 c ∧ Γ' = ((((Γ.set i1 (some (.own (oPen p0 n3)))).set i (some (.ty (f1 a)))).set j (some (.ty (f2 b)))).set l (some (.ty (f3 c))))) C K1 t :=
  PS.imp (ps_par3 hc nd hi hj hl hij hil hjl hx hy hz (EAp.cons h1 (EAp.cons h2 (EAp.one h3 hst3) hst2) hst) hw hs) fun D σ H ⟨H0, B0, Bl, B, s, nx, _⟩ => by
    obtain ⟨p, h, a1, a2, a3, a4, a5, ws, a6, a7⟩ := s.ow i1 _ hgi
    refine ⟨B, p, s.sa, a1, a3, ⟨ws, by rw [a4, a6], a7⟩, fun d vs H1 B1 pd s1 r1 => ?_⟩
    obtain ⟨v1, v2, v3, rfl, r1, r2, r3⟩ := r1.three
    exact ⟨v1, v2, v3, rfl, nx _ _ _ B1 ⟨d.1, d.2.1, d.2.2, pd.1, pd.2.1, pd.2.2, rfl⟩ ((((s.stepP hgi a1 s1).set r1).set r2).set r3)⟩
end
end Rk
/-! part D38 -/
namespace Rk
open PySem PySem.Spec L2
def rgN (n : Nat) : List Int := (List.range n).map fun i => ((i : Nat) : Int)
theorem rgN_len (n : Nat) : (rgN n).length = n := by unfold rgN; rw [List.length_map, List.length_range]
theorem rgN_mem {n : Nat} {k : Int} : k ∈ rgN n ↔ 0 ≤ k ∧ k < n := by
  unfold rgN
  rw [List.mem_map]
  constructor
  · rintro ⟨i, hi, rfl⟩
    have := List.mem_range.mp hi
    omega
  · rintro ⟨h1, h2⟩
    exact ⟨k.toNat, List.mem_range.mpr (by omega), by omega⟩
theorem rgN_nodup (n : Nat) : (rgN n).Nodup := by
  unfold rgN
  refine List.pairwise_map.mpr (List.Pairwise.imp (fun {a b} h z => h ?_) List.nodup_range)
  omega
section
variable {X : Cx} {Γ : Gm} {e : Expr} {pos p p1 p2 : Pos} {n : Nat}
theorem EV.listRg (h : EV X Γ e (tI (n : Nat))) (hn : n ≤ 1000) (hl : X.mg "list" = none) (hr : X.mg "range" = none) (hc : X.calm = true := by rfl) (hg : Gl X "list" := by rfl) (hg2 : Gl X "range" := by rfl) (na : starEach [e] X.env = (false, eval e X.env) :: starEach [] X.env := by rfl)
    (nb : starEach [.Call (.Name "range" p1) [e] [] p2] X.env = (false, eval (.Call (.Name "range" p1) [e] [] p2) X.env) :: starEach [] X.env := by rfl) : EV X Γ (.Call (.Name "list" p) [.Call (.Name "range" p1) [e] [] p2] [] pos) (tD (dI (rgN n))) :=
  EV.of (pe_listRg hc hg hl (prg_1 hg2 hr h na) nb) fun σ H B Q sa q => ⟨B, sa, fun v H1 B1 s1 r1 => by
    cases tI_R r1
    refine ⟨_, rfl, RgOk.of_le (by decide) (by omega) (by decide) (by omega), fun l hl => ?_⟩
    have hv : rgV 0 (n : Nat) = (rgN n).map V.int := by
      unfold rgV rgN
      rw [List.map_map]
      have : ((n : Nat) - 0 : Int).toNat = n := by omega
      rw [this]
      refine List.map_congr_left fun i _ => ?_
      show V.int (0 + (i : Nat)) = V.int _
      rw [Int.zero_add]
    rw [hv]
    exact q _ _ _ (s1.trans (Stp.new s1.s hl)) (.lst upd_same (by rw [List.length_map, rgN_len]; show n ≤ 100000; omega) (Da.ofInts _))⟩
end
end Rk
/-! part Ly11 -/
namespace Rk
open PySem PySem.Spec L2
section
variable {X : Cx} {Γ : Gm} {i n n' : Nat} {ss : List Stmt} {N C K1 : Gm → Prop} {t : Ty} {p0 : Addr}
theorem oPen_le {p : Addr} {n n' : Nat} {q : Addr} {h : HO} {B : Hp} (ok : (oPen p n).ok q h B) (hle : n ≤ n') : (oPen p n').ok q h B := ⟨ok.1, let ⟨ws, e, o⟩ := ok.2; ⟨ws, e, o.le hle⟩⟩
theorem GS.bump (i : Nat) (hi : Γ[i]? = some (some (.own (oPen p0 n)))) (hle : n ≤ n') (h : GS X (Γ.set i (some (.own (oPen p0 n')))) ss N C K1 t) : GS X Γ ss N C K1 t :=
  PSs.imp h fun D σ H ⟨H0, B0, Bl, B, s, rest⟩ => ⟨H0, B0, Bl, B, s.own hi (fun q h ok _ => oPen_le ok hle), rest⟩
theorem GS.cnil (h : N Γ) : GS X Γ [] N C K1 t := GS.nil h
end
end Rk
/-! part D39 -/
namespace Rk
open PySem PySem.Spec L2
/-- a key of the law's tables: small enough, and not the key of the row that is added later -/
def FitK (k : Int) : Prop := inB k ∧ k ≠ 100000000000000000000000000001
/-- what the law's pairs are -/
structure Pairs (m : Nat) (l : Rows) : Prop where
  nd : (l.map (·.1)).Nodup
  len : l.length ≤ m
  bnd : ∀ r ∈ l, FitK r.1 ∧ FitK r.2
section
variable {P : Program} {w : World} {K : PySem.W.Frag} {mg : Str → Option Value} {base : Heap} {X : Cx} {Γ : Gm} {e : Expr} {pos p p1 p2 : Pos} {n : Nat}
abbrev nm_pairs : List Str := ["_law_pen_here", "_law_most", "_law_many", "_law_scale", "_law_shift", "_law_way", "_law_spots", "_law_keys", "_law_free", "_law_turned", "_law_pairs_here", "_law_at", "_law_key", "_law_to"]
theorem sc_law_pairs : FnScope nm_pairs ["_law_pen_here", "_law_most"] (defScope s_law_pairs) := ⟨rfl, rfl, rfl, by decide +kernel, rfl, by decide +kernel, by decide +kernel⟩
/-- what the loop over the keys finds -/
structure PrIn (k m : Nat) (scale shift way : Int) (spots ks fr tu : List Int) : Prop where
  hk : k ≤ 39
  ls : spots.length = 2 * k + 2
  eks : ks = spots.take k
  efr : fr = spots.drop k
  ltu : tu.length = k
  tus : ∀ z ∈ tu, z ∈ spots
  sp : ∀ z ∈ spots, 0 ≤ z ∧ z < 80
  sc0 : 0 < scale
  sc1 : scale ≤ 10 ^ 9 ∨ scale = 10 ^ 28
  sh0 : 0 ≤ shift
  sh1 : shift < 80
section
variable {k m : Nat} {scale shift way : Int} {spots ks fr tu : List Int}
theorem PrIn.lk (h : PrIn k m scale shift way spots ks fr tu) : ks.length = k := by rw [h.eks, List.length_take, h.ls]; omega
theorem PrIn.lf (h : PrIn k m scale shift way spots ks fr tu) : fr.length = k + 2 := by rw [h.efr, List.length_drop, h.ls]; omega
theorem PrIn.kin (h : PrIn k m scale shift way spots ks fr tu) : ∀ z ∈ ks, z ∈ spots := fun z hz => by rw [h.eks] at hz; exact List.mem_of_mem_take hz
theorem PrIn.fin (h : PrIn k m scale shift way spots ks fr tu) : ∀ z ∈ fr, z ∈ spots := fun z hz => by rw [h.efr] at hz; exact List.mem_of_mem_drop hz
theorem PrIn.mul (h : PrIn k m scale shift way spots ks fr tu) {z : Int} (hz : z ∈ spots) : CMulW (z - shift) scale := by
  have := h.sp z hz
  have := h.sh0
  have := h.sh1
  have := h.sc0
  have := h.sc1
  exact wide_mul (a := 32) (b := 100) (by omega) (by omega) (by decide) (by decide) (by decide)
theorem PrIn.fit (h : PrIn k m scale shift way spots ks fr tu) {z : Int} (hz : z ∈ spots) : FitK ((z - shift) * scale) := by
  have h1 := h.sp z hz
  have h2 := h.sh0
  have h3 := h.sh1
  have h4 := h.sc0
  have ha : (z - shift).natAbs ≤ 80 := by omega
  unfold FitK inB B30
  rcases h.sc1 with h5 | h5
  · have hb : scale.natAbs ≤ 10 ^ 9 := by omega
    have := Nat.mul_le_mul ha hb
    have e : ((z - shift) * scale).natAbs ≤ 80 * 10 ^ 9 := by rw [Int.natAbs_mul]; exact this
    generalize (z - shift) * scale = y at e
    omega
  · rw [h5]
    omega
end
abbrev gPr (p : Addr) (c m k : Nat) (scale shift way : Int) (spots ks fr tu : List Int) (l : Rows) (a b t : Option Sl) : Gm :=
  [some (.own (oPen p c)), some (.ty (tI (m : Nat))), some (.ty (tI (k : Nat))), some (.ty (tI scale)), some (.ty (tI shift)), some (.ty (tI way)), some (.ty (tD (dI spots))), some (.ty (tD (dI ks))), some (.ty (tD (dI fr))), some (.ty (tD (dI tu))), some (.own (oL (l.map dP))), a, b, t]
abbrev gPz (p : Addr) (c m k : Nat) (scale shift way : Int) (spots ks fr tu : List Int) (l : Rows) (i : Nat) (key z : Int) : Gm :=
  gPr p c m k scale shift way spots ks fr tu l (some (.ty (tI (i : Nat)))) (some (.ty (tI key))) (some (.ty (tI z)))
theorem atI_int {ns : List Int} {r : Int} (h1 : 0 ≤ r) (h2 : r < ns.length) : ∃ z ∈ ns, atI (ns.map PyData.int) r = some (.int z) := by
  obtain ⟨d, e, hd⟩ := atI_in (ds := ns.map PyData.int) h1 (by rw [List.length_map]; exact h2)
  obtain ⟨z, hz, rfl⟩ := List.mem_map.mp hd
  exact ⟨z, hz, e⟩
abbrev cxPr (P : Program) (w : World) (K : PySem.W.Frag) (mg : Str → Option Value) (base : Heap) (f : Addr) (cdv : Value) (Ar : Around) (outer : List Env) (s : Shared) (H : Hp) (E : XK) : Cx := (cxOf CX0 P w K mg base nm_pairs "_law_pairs" (defScope s_law_pairs) f cdv Ar outer s H E).nox
abbrev bodyPr : List Stmt := match (defBody s_law_pairs).getD 5 (.Break ⟨0, 0, 0, 0⟩) with
  | .For _ _ b _ _ => b
  | _ => []
variable {k m : Nat} {scale shift way : Int} {spots ks fr tu : List Int} {f : Addr} {cdv : Value} {Ar : Around} {outer : List Env} {s : Shared} {H : Hp} {E : XK} {C N K1 : Gm → Prop} {t : Ty}
/-- to = pick(pen, [..]) -/
theorem pr_to (T : Txt K mg) (h : PrIn k m scale shift way spots ks fr tu) (hr : Room 2 (cxPr P w K mg base f cdv Ar outer s H E).A) {p : Addr} {c i : Nat} {l : Rows} {key : Int} {tt : Option Sl} (hc : c + 100 ≤ most) (hi : i < k) (hkey : key ∈ ks) :
    G1 (cxPr P w K mg base f cdv Ar outer s H E) (gPr p c m k scale shift way spots ks fr tu l (some (.ty (tI (i : Nat)))) (some (.ty (tI key))) tt) (bodyPr.getD 0 (.Break ⟨0, 0, 0, 0⟩)) (fun Γ' => ∃ z ∈ spots, Γ' = gPz p (c + 4) m k scale shift way spots ks fr tu l i key z) C K1 t := by
  have hlk := h.lk
  have hlf := h.lf
  have hls := h.ls
  have hk := h.hk
  have nek : ks ≠ [] := fun z => by rw [z] at hkey; cases hkey
  have nes : spots ≠ [] := fun z => by rw [z] at hls; simp at hls
  have nef : fr ≠ [] := fun z => by rw [z] at hlf; simp at hlf
  have pk1 : ∀ {ns : List Int}, ns ≠ [] → ns.length < 1000 → (ns.map PyData.int) ≠ [] ∧ (ns.map PyData.int).length < 1000000 := fun h1 h2 => ⟨by simpa using h1, by rw [List.length_map]; omega⟩
  refine G1.to (G1.setP (i := 0) (n := c) (n' := c + 1 + 1 + 1 + 1) (p0 := p) 13 (EVp.pick (fs := fun cc : (Unit × PyData) × (Unit × PyData) × Unit × (Unit × PyData) => [cc.1.2, cc.2.1.2, .int key, cc.2.2.2.2]) T (hr.mono (by decide)) (EVp.lst (ds := fun cc : (Unit × PyData) × (Unit × PyData) × Unit × (Unit × PyData) => [cc.1.2, cc.2.1.2, .int key, cc.2.2.2.2])
    (EAp.cons (EVp.pick (fs := fun _ : Unit => spots.map .int) T (hr.mono (by decide)) (EVp.of (EV.var 6 (t := tD (dI spots)))) (fun _ _ => pk1 nes (by omega)) (by unfold most at hc ⊢; omega) (pe_var rfl (Or.inl rfl)))
    (EAp.cons (EVp.pick (fs := fun _ : Unit => fr.map .int) T (hr.mono (by decide)) (EVp.of (EV.var 8 (t := tD (dI fr)))) (fun _ _ => pk1 nef (by omega)) (by unfold most at hc ⊢; omega) (pe_var rfl (Or.inl rfl)))
    (EAp.cons (EVp.of (EV.var 12 (t := tI key)))
    (EAp.one (EVp.pick (fs := fun _ : Unit => ks.map .int) T (hr.mono (by decide)) (EVp.of (EV.var 7 (t := tD (dI ks)))) (fun _ _ => pk1 nek (by omega)) (by unfold most at hc ⊢; omega) (pe_var rfl (Or.inl rfl))))))) (fun _ => by show 4 ≤ 100000; decide)) (fun _ _ => ⟨by simp, by show 4 < 1000000; decide⟩) (by unfold most at hc ⊢; omega) (pe_var rfl (Or.inl rfl))) sc_law_pairs.nd) ?_
  rintro _ ⟨⟨⟨⟨_, d1⟩, ⟨_, d2⟩, _, ⟨_, d4⟩⟩, d⟩, ⟨⟨⟨_, h1⟩, ⟨_, h2⟩, _, ⟨_, h4⟩⟩, hd⟩, rfl⟩
  have : ∃ z ∈ spots, d = .int z := by
    obtain ⟨z1, hz1, e1⟩ := List.mem_map.mp h1
    obtain ⟨z2, hz2, e2⟩ := List.mem_map.mp h2
    obtain ⟨z4, hz4, e4⟩ := List.mem_map.mp h4
    simp only [List.mem_cons, List.not_mem_nil, or_false] at hd
    rcases hd with rfl | rfl | rfl | rfl
    · exact ⟨z1, hz1, e1.symm⟩
    · exact ⟨z2, h.fin z2 hz2, e2.symm⟩
    · exact ⟨key, h.kin key hkey, rfl⟩
    · exact ⟨z4, h.kin z4 hz4, e4.symm⟩
  obtain ⟨z, hz, rfl⟩ := this
  exact ⟨z, hz, rfl⟩
/-- if way == 1: to = turned[at] -/
theorem pr_w1 (h : PrIn k m scale shift way spots ks fr tu) {p : Addr} {c i : Nat} {l : Rows} {key z : Int} (hz : z ∈ spots) (hi : i < k) :
    G1 (cxPr P w K mg base f cdv Ar outer s H E) (gPz p c m k scale shift way spots ks fr tu l i key z) (bodyPr.getD 1 (.Break ⟨0, 0, 0, 0⟩)) (fun Γ' => ∃ z ∈ spots, Γ' = gPz p c m k scale shift way spots ks fr tu l i key z) C K1 t := by
  obtain ⟨y, hy, e⟩ := atI_int (ns := tu) (r := (i : Nat)) (by omega) (by rw [h.ltu]; omega)
  exact G1.ifS (b := decide (way = 1)) (CT.cmp (EV.var 5 (t := tI way)) EV.int o_eqI) (fun _ => GS.seq (G1.set 13 (EV.ixL (EV.var 9 (t := tD (dI tu))) (EV.var 11 (t := tI (i : Nat))) e) sc_law_pairs.nd) (GS.nil ⟨y, h.tus y hy, rfl⟩)) fun _ => GS.nil ⟨z, hz, rfl⟩
/-- if way == 2 and draw(8) > 0: to = (keys + free)[at + 1] -/
theorem pr_w2 (T : Txt K mg) (h : PrIn k m scale shift way spots ks fr tu) (hr : Room 2 (cxPr P w K mg base f cdv Ar outer s H E).A) {p : Addr} {c i : Nat} {l : Rows} {key z : Int} (hc : c + 100 ≤ most) (hz : z ∈ spots) (hi : i < k) :
    G1 (cxPr P w K mg base f cdv Ar outer s H E) (gPz p c m k scale shift way spots ks fr tu l i key z) (bodyPr.getD 2 (.Break ⟨0, 0, 0, 0⟩)) (fun Γ' => ∃ z ∈ spots, Γ' = gPz p (c + 1) m k scale shift way spots ks fr tu l i key z) C K1 t := by
  have hlk := h.lk
  have hlf := h.lf
  have hls := h.ls
  have hk := h.hk
  obtain ⟨y, hy, e⟩ := atI_int (ns := ks ++ fr) (r := (i : Nat) + 1) (by omega) (by rw [List.length_append]; omega)
  have hy : y ∈ spots := (List.mem_append.mp hy).elim (h.kin y) (h.fin y)
  refine G1.ifP (i := 0) (n := c) (n' := c + 1) (p0 := p) (CTp.and (k := decide (way = 2)) (CT.cmp (EV.var 5 (t := tI way)) EV.int o_eqI) (CTp.cmp (EVp.draw (m := 8) T (hr.mono (by decide)) EV.int (by decide) (by decide) (by unfold most at hc ⊢; omega) (pe_var rfl (Or.inl rfl))) EV.int fun c _ => o_gt) (by omega)) rfl ?_ ?_
  · exact GS.seq (G1.set 13 (EV.ixL (ds := (ks ++ fr).map .int) (EV.cast (EV.bin (EV.var 7 (t := tD (dI ks))) (EV.var 8 (t := tD (dI fr))) (o_catL (by rw [List.length_map, List.length_map]; unfold lim; omega))) (by rw [List.map_append])) (EV.bin (EV.var 11 (t := tI (i : Nat))) EV.int o_add) e) sc_law_pairs.nd) (GS.nil ⟨y, hy, rfl⟩)
  · exact GS.nil ⟨z, hz, rfl⟩
/-- if way == 3: to = (keys + free)[at + 1 - draw(2) * at] -/
theorem pr_w3 (T : Txt K mg) (h : PrIn k m scale shift way spots ks fr tu) (hr : Room 2 (cxPr P w K mg base f cdv Ar outer s H E).A) {p : Addr} {c i : Nat} {l : Rows} {key z : Int} (hc : c + 100 ≤ most) (hz : z ∈ spots) (hi : i < k) :
    G1 (cxPr P w K mg base f cdv Ar outer s H E) (gPz p c m k scale shift way spots ks fr tu l i key z) (bodyPr.getD 3 (.Break ⟨0, 0, 0, 0⟩)) (fun Γ' => ∃ z ∈ spots, Γ' = gPz p (c + 1) m k scale shift way spots ks fr tu l i key z) C K1 t := by
  have hlk := h.lk
  have hlf := h.lf
  have hls := h.ls
  have hk := h.hk
  have inr : ∀ d : Int, 0 ≤ d ∧ d < 2 → ∃ y ∈ ks ++ fr, atI ((ks ++ fr).map PyData.int) ((i : Nat) + 1 - d * (i : Nat)) = some (.int y) := fun d hd => by
    have : d = 0 ∨ d = 1 := by omega
    refine atI_int ?_ ?_
    · rcases this with rfl | rfl <;> omega
    · rw [List.length_append]; rcases this with rfl | rfl <;> omega
  refine G1.ifS (b := decide (way = 3)) (CT.cmp (EV.var 5 (t := tI way)) EV.int o_eqI) (fun _ => ?_) fun _ => GS.bump 0 rfl (Nat.le_succ c) (GS.nil ⟨z, hz, rfl⟩)
  refine GS.cons (G1.setP (i := 0) (n := c) (n' := c + 1) (p0 := p) 13 (EVp.ixL (ds := (ks ++ fr).map .int) (P := fun d : Int => 0 ≤ d ∧ d < 2) (k := fun d => (i : Nat) + 1 - d * (i : Nat)) (d := fun d => (atI ((ks ++ fr).map PyData.int) ((i : Nat) + 1 - d * (i : Nat))).getD .none) (EV.cast (EV.bin (EV.var 7 (t := tD (dI ks))) (EV.var 8 (t := tD (dI fr))) (o_catL (by rw [List.length_map, List.length_map]; unfold lim; omega))) (by rw [List.map_append]))
    (EVp.bin (EV.bin (EV.var 11 (t := tI (i : Nat))) EV.int o_add) (EVp.binL (EVp.draw (m := 2) T (hr.mono (by decide)) EV.int (by decide) (by decide) (by unfold most at hc ⊢; omega) (pe_var rfl (Or.inl rfl))) (EV.var 11 (t := tI (i : Nat))) fun d hd => o_mulW (wide_mul (a := 32) (b := 32) (by omega) (by omega) (by decide) (by decide) (by decide))) fun d _ => o_sub) fun d hd => by
      obtain ⟨y, _, e⟩ := inr d hd
      rw [e]; rfl) sc_law_pairs.nd) ?_
  rintro _ ⟨d, hd, rfl⟩
  obtain ⟨y, hy, e⟩ := inr d hd
  rw [e]
  exact GS.nil ⟨y, (List.mem_append.mp hy).elim (h.kin y) (h.fin y), rfl⟩
/-- if way == 4: to = (free[:1] + keys)[max(0, at - draw(4))] -/
theorem pr_w4 (T : Txt K mg) (h : PrIn k m scale shift way spots ks fr tu) (hr : Room 2 (cxPr P w K mg base f cdv Ar outer s H E).A) {p : Addr} {c i : Nat} {l : Rows} {key z : Int} (hc : c + 100 ≤ most) (hz : z ∈ spots) (hi : i < k) :
    G1 (cxPr P w K mg base f cdv Ar outer s H E) (gPz p c m k scale shift way spots ks fr tu l i key z) (bodyPr.getD 4 (.Break ⟨0, 0, 0, 0⟩)) (fun Γ' => ∃ z ∈ spots, Γ' = gPz p (c + 1) m k scale shift way spots ks fr tu l i key z) C K1 t := by
  have hlk := h.lk
  have hlf := h.lf
  have hls := h.ls
  have hk := h.hk
  let mx : Int → Int := fun d => if (i : Nat) - d > 0 then (i : Nat) - d else 0
  have inr : ∀ d : Int, 0 ≤ d ∧ d < 4 → ∃ y ∈ fr.take 1 ++ ks, atI ((fr.take 1 ++ ks).map PyData.int) (mx d) = some (.int y) := fun d hd => by
    refine atI_int ?_ ?_
    · show 0 ≤ if (i : Nat) - d > 0 then (i : Nat) - d else 0
      split <;> omega
    · rw [List.length_append, List.length_take]
      show (if (i : Nat) - d > 0 then (i : Nat) - d else 0) < _
      split <;> omega
  refine G1.ifS (b := decide (way = 4)) (CT.cmp (EV.var 5 (t := tI way)) EV.int o_eqI) (fun _ => ?_) fun _ => GS.bump 0 rfl (Nat.le_succ c) (GS.nil ⟨z, hz, rfl⟩)
  refine GS.cons (G1.setP (i := 0) (n := c) (n' := c + 1) (p0 := p) 13 (EVp.ixL (ds := (fr.take 1 ++ ks).map .int) (A := Unit × Int) (P := fun d : Unit × Int => True ∧ (0 ≤ d.2 ∧ d.2 < 4)) (k := fun d => mx d.2) (d := fun d => (atI ((fr.take 1 ++ ks).map PyData.int) (mx d.2)).getD .none) (EV.cast (EV.bin (EV.slL (EV.var 8 (t := tD (dI fr))) EO.none (EO.some (k := ((1 : Nat) : Int)) EV.int)) (EV.var 7 (t := tD (dI ks))) (o_catL (by rw [cutD_to, List.length_take, List.length_map, List.length_map]; unfold lim; omega))) (by rw [cutD_to, ← List.map_take, List.map_append]))
    (EVp.callB (T.free 12) (ts := fun d : Unit × Int => [tI 0, tI ((i : Nat) - d.2)]) (fun d _ => c_max2) (EAp.cons (EVp.of EV.int) (EAp.one (EVp.bin (EV.var 11 (t := tI (i : Nat))) (EVp.draw (m := 4) T (hr.mono (by decide)) EV.int (by decide) (by decide) (by unfold most at hc ⊢; omega) (pe_var rfl (Or.inl rfl))) fun d _ => o_sub)))) fun d hd => by
      obtain ⟨y, _, e⟩ := inr d.2 hd.2
      rw [e]; rfl) sc_law_pairs.nd) ?_
  rintro _ ⟨d, hd, rfl⟩
  obtain ⟨y, hy, e⟩ := inr d.2 hd.2
  rw [e]
  exact GS.nil ⟨y, (List.mem_append.mp hy).elim (fun z => h.fin y (List.mem_of_mem_take z)) (h.kin y), rfl⟩
/-- if way == 5 and at > 0: to = pick(pen, keys[:at] + free[:2]) -/
theorem pr_w5 (T : Txt K mg) (h : PrIn k m scale shift way spots ks fr tu) (hr : Room 2 (cxPr P w K mg base f cdv Ar outer s H E).A) {p : Addr} {c i : Nat} {l : Rows} {key z : Int} (hc : c + 100 ≤ most) (hz : z ∈ spots) (hi : i < k) :
    G1 (cxPr P w K mg base f cdv Ar outer s H E) (gPz p c m k scale shift way spots ks fr tu l i key z) (bodyPr.getD 5 (.Break ⟨0, 0, 0, 0⟩)) (fun Γ' => ∃ z ∈ spots, Γ' = gPz p (c + 1) m k scale shift way spots ks fr tu l i key z) C K1 t := by
  have hlk := h.lk
  have hlf := h.lf
  have hls := h.ls
  have hk := h.hk
  refine G1.ifS (b := decide (way = 5) && decide (0 < ((i : Nat) : Int))) (CW.ct (CW.and (CT.cmp (EV.var 5 (t := tI way)) EV.int o_eqI) fun _ => CW.and1 (CT.cmp (EV.var 11 (t := tI (i : Nat))) EV.int o_gt))) (fun _ => ?_) fun _ => GS.bump 0 rfl (Nat.le_succ c) (GS.nil ⟨z, hz, rfl⟩)
  refine GS.cons (G1.setP (i := 0) (n := c) (n' := c + 1) (p0 := p) 13 (EVp.pick (fs := fun _ : Unit => (ks.take i ++ fr.take 2).map .int) T (hr.mono (by decide)) (EVp.of (EV.cast (EV.bin (EV.slL (EV.var 7 (t := tD (dI ks))) EO.none (EO.some (EV.var 11 (t := tI (i : Nat))))) (EV.slL (EV.var 8 (t := tD (dI fr))) EO.none (EO.some (k := ((2 : Nat) : Int)) EV.int)) (o_catL (by rw [cutD_to, cutD_to, List.length_take, List.length_take, List.length_map, List.length_map]; unfold lim; omega))) (by rw [cutD_to, cutD_to, ← List.map_take, ← List.map_take, List.map_append]))) (fun _ _ => ⟨fun z => ?_, ?_⟩) (by unfold most at hc ⊢; omega) (pe_var rfl (Or.inl rfl))) sc_law_pairs.nd) ?_
  · have := congrArg List.length z
    rw [List.length_map, List.length_append, List.length_take, List.length_take] at this
    simp only [List.length_nil] at this
    omega
  · rw [List.length_map, List.length_append, List.length_take, List.length_take]; omega
  · rintro _ ⟨⟨_, d⟩, ⟨_, hd⟩, rfl⟩
    obtain ⟨y, hy, rfl⟩ := List.mem_map.mp hd
    exact GS.nil ⟨y, (List.mem_append.mp hy).elim (fun z => h.kin y (List.mem_of_mem_take z)) fun z => h.fin y (List.mem_of_mem_take z), rfl⟩
/-- pairs_here.append(..) -/
theorem pr_app (h : PrIn k m scale shift way spots ks fr tu) {p : Addr} {c i : Nat} {l : Rows} {key z : Int} (hl : l.length ≤ 100) (hz : z ∈ spots) (hkey : key ∈ ks) :
    G1 (cxPr P w K mg base f cdv Ar outer s H E) (gPz p c m k scale shift way spots ks fr tu l i key z) (bodyPr.getD 6 (.Break ⟨0, 0, 0, 0⟩)) (· = gPz p c m k scale shift way spots ks fr tu (l ++ [((key - shift) * scale, (z - shift) * scale)]) i key z) C K1 t := by
  refine G1.to (G1.append (ds := l.map dP) (d := dP ((key - shift) * scale, (z - shift) * scale)) 10 (EV.tup (ds := [.int ((key - shift) * scale), .int ((z - shift) * scale)]) (EA.cons (EV.bin (EV.bin (EV.var 12 (t := tI key)) (EV.var 4 (t := tI shift)) o_sub) (EV.var 3 (t := tI scale)) (o_mulW (h.mul (h.kin key hkey)))) (EA.one (EV.bin (EV.bin (EV.var 13 (t := tI z)) (EV.var 4 (t := tI shift)) o_sub) (EV.var 3 (t := tI scale)) (o_mulW (h.mul hz)))))) (by rw [List.length_map]; unfold lim; omega)) ?_
  rintro _ rfl
  unfold gPz gPr
  rw [List.map_append]
  rfl
theorem GSR.bump {A : Type} {PA : A → Prop} {fA : A → Ty} {p0 q0 : Addr} {n n1 n' : Nat} {ss : List Stmt} (i : Nat) (hi : Γ[i]? = some (some (.own (oPen p0 n)))) (hle : n ≤ n1) (h : GSR X (Γ.set i (some (.own (oPen p0 n1)))) ss q0 n' PA fA) : GSR X Γ ss q0 n' PA fA :=
  PSs.imp h fun D σ H ⟨H0, B0, Bl, B, s, rest⟩ => ⟨H0, B0, Bl, B, s.own hi (fun q h ok _ => oPen_le ok hle), rest⟩
/-- the loop -/
def okPr (shift scale : Int) (spots ks : List Int) (i : Nat) (l : Rows) : Prop := l.map (·.1) = (ks.take i).map (fun q => (q - shift) * scale) ∧ ∀ r ∈ l, ∃ a b : Int, a ∈ spots ∧ b ∈ spots ∧ r = ((a - shift) * scale, (b - shift) * scale)
def IvPr (p : Addr) (c0 m k : Nat) (scale shift way : Int) (spots ks fr tu : List Int) (i : Nat) (Γ : Gm) : Prop := ∃ l a b t, okPr shift scale spots ks i l ∧ Γ = gPr p (c0 + 20 * i) m k scale shift way spots ks fr tu l a b t
theorem okPr.len {i : Nat} {l : Rows} (h : okPr shift scale spots ks i l) (hi : i ≤ ks.length) : l.length = i := by
  have := congrArg List.length h.1
  rw [List.length_map, List.length_map, List.length_take] at this
  omega
theorem pr_body (T : Txt K mg) (h : PrIn k m scale shift way spots ks fr tu) (hr : Room 2 (cxPr P w K mg base f cdv Ar outer s H E).A) {p : Addr} {c0 i : Nat} {Γi : Gm} {key : Int} (hc : c0 + 1000 ≤ most) (hkey : ks[i]? = some key) (hI : IvPr p c0 m k scale shift way spots ks fr tu i Γi) :
    GS (cxPr P w K mg base f cdv Ar outer s H E) ((Γi.set 11 (some (.ty (tD (.int (i : Nat)))))).set 12 (some (.ty (tD (.int key))))) bodyPr (IvPr p c0 m k scale shift way spots ks fr tu (i + 1)) (IvPr p c0 m k scale shift way spots ks fr tu (i + 1)) K1 t := by
  obtain ⟨l, a, b, tt, ok, rfl⟩ := hI
  obtain ⟨hi, ek⟩ := List.getElem?_eq_some_iff.mp hkey
  have hlk := h.lk
  have hk := h.hk
  have hmem : key ∈ ks := ek ▸ List.getElem_mem hi
  have hll := ok.len (by omega)
  have hcc : c0 + 20 * i + 200 ≤ most := by omega
  refine GS.cons (pr_to T h hr (c := c0 + 20 * i) (i := i) (l := l) (key := key) (tt := tt) (by omega) (by omega) hmem) ?_
  rintro _ ⟨z1, hz1, rfl⟩
  refine GS.cons (pr_w1 h hz1 (by omega)) ?_
  rintro _ ⟨z2, hz2, rfl⟩
  refine GS.cons (pr_w2 T h hr (by omega) hz2 (by omega)) ?_
  rintro _ ⟨z3, hz3, rfl⟩
  refine GS.cons (pr_w3 T h hr (by omega) hz3 (by omega)) ?_
  rintro _ ⟨z4, hz4, rfl⟩
  refine GS.cons (pr_w4 T h hr (by omega) hz4 (by omega)) ?_
  rintro _ ⟨z5, hz5, rfl⟩
  refine GS.cons (pr_w5 T h hr (by omega) hz5 (by omega)) ?_
  rintro _ ⟨z6, hz6, rfl⟩
  refine GS.cons (pr_app h (by omega) hz6 hmem) ?_
  rintro _ rfl
  refine GS.bump (n' := c0 + 20 * (i + 1)) 0 rfl (by omega) (GS.nil ⟨_, _, _, _, ⟨?_, fun r hr => ?_⟩, rfl⟩)
  · rw [List.map_append, ok.1, List.take_add_one, hkey, List.map_append]
    rfl
  · rcases List.mem_append.mp hr with hr | hr
    · exact ok.2 r hr
    · rw [List.mem_singleton.mp hr]
      exact ⟨key, z6, h.kin key hmem, hz6, rfl⟩
theorem ok_law_pairs (T : Txt K mg) : DefP P w K mg base "_law_pairs" 3 (A := Nat) (B := Rows) (fun m => [tI (m : Nat)]) (fun m => m ≤ 39) (fun m => 2000) (fun m l => Pairs m l) (fun l => tD (dR l)) := by
  refine DefP.top T 51 67 sc_law_pairs (fun _ _ _ _ _ _ us hl => match us, hl with | [_, _], _ => rfl) (fun _ => rfl) fun fa cdv Ar outer s H E m n p hm hn hr => ?_
  refine GSR.cons (G1.setP (i := 0) (n := n) (n' := n + 1) (p0 := p) 2 (EVp.draw (m := (m : Nat) + 1) T (hr.mono (by decide)) (EV.bin (EV.var 1 (t := tI (m : Nat))) EV.int o_add) (by omega) (by omega) (by unfold most at hn ⊢; omega) (pe_var rfl (Or.inl rfl))) sc_law_pairs.nd) ?_
  rintro _ ⟨many, ⟨hm0, hm1⟩, rfl⟩
  obtain ⟨k, rfl⟩ : ∃ k : Nat, many = (k : Nat) := ⟨many.toNat, by omega⟩
  have hk : k ≤ m := by omega
  have wk : CMulW 2 (k : Nat) := wide_mul (a := 32) (b := 32) (by decide) (by omega) (by decide) (by decide) (by decide)
  refine GSR.cons (G1.par3P (p0 := p) (i1 := 0) (n := n + 1) (n1 := n + 1 + 1) (n2 := n + 1 + 1 + 1) (n3 := n + 1 + 1 + 1 + 1) 3 4 5
    (EVp.pick (A := Unit) (PA := fun _ => True) (fs := fun _ => [.int 1, .int 1, .int 3, .int (10 ^ 9), .int (10 ^ 28)]) T (hr.mono (by decide)) (EVp.of (EV.lst (EA.cons EV.int (EA.cons EV.int (EA.cons EV.int (EA.cons (EV.bin EV.int EV.int (o_pow ⟨by decide, by decide, by decide⟩)) (EA.one (EV.bin EV.int EV.int (o_pow ⟨by decide, by decide, by decide⟩))))))))) (fun _ _ => ⟨by simp, by decide⟩) (by unfold most at hn ⊢; omega) (pe_var rfl (Or.inl rfl)))
    (EVp.draw (m := 2 * (k : Nat) + 2) T (hr.mono (by decide)) (EV.bin (EV.bin EV.int (EV.var 2 (t := tI (k : Nat))) (o_mulW wk)) EV.int o_add) (by omega) (by omega) (by unfold most at hn ⊢; omega) (pe_var rfl (Or.inl rfl)))
    (EVp.draw (m := 7) T (hr.mono (by decide)) EV.int (by omega) (by omega) (by unfold most at hn ⊢; omega) (pe_var rfl (Or.inl rfl))) sc_law_pairs.nd rfl) ?_
  rintro _ ⟨⟨_, sc⟩, shift, way, ⟨_, hsc⟩, ⟨hs0, hs1⟩, ⟨hw0, hw1⟩, rfl⟩
  obtain ⟨scale, rfl, hsc0, hsc1⟩ : ∃ scale : Int, sc = .int scale ∧ 0 < scale ∧ (scale ≤ 10 ^ 9 ∨ scale = 10 ^ 28) := by
    simp only [List.mem_cons, List.not_mem_nil, or_false] at hsc
    rcases hsc with rfl | rfl | rfl | rfl | rfl
    all_goals exact ⟨_, rfl, by decide, by decide⟩
  refine GSR.cons (G1.setP (i := 0) (n := n + 1 + 1 + 1 + 1) (n' := n + 1 + 1 + 1 + 1 + (rgN (2 * k + 2)).length) (p0 := p) 6 (EVp.mixed T (hr.mono (by decide)) (EV.listRg (n := 2 * k + 2) (EV.cast (EV.bin (EV.bin EV.int (EV.var 2 (t := tI (k : Nat))) (o_mulW wk)) EV.int o_add) (by congr 1)) (by omega) (T.free 4) (T.free 14)) (by rw [rgN_len]; omega) (by rw [rgN_len]; unfold most at hn ⊢; omega) (pe_var rfl (Or.inl rfl))) sc_law_pairs.nd) ?_
  rintro _ ⟨spots, hspots, rfl⟩
  rw [rgN_len] at *
  have hsl : spots.length = 2 * k + 2 := by rw [hspots.length_eq, rgN_len]
  have htl : (spots.take k).length = k := by rw [List.length_take]; omega
  have e1 : tD (.list (cutD (spots.map PyData.int) none (some ((k : Nat) : Int)))) = tD (dI (spots.take k)) := by rw [cutD_to, ← List.map_take]
  have e2 : tD (.list (cutD (spots.map PyData.int) (some ((k : Nat) : Int)) none)) = tD (dI (spots.drop k)) := by rw [cutD_from, ← List.map_drop]
  refine GSR.cons (G1.par3P (p0 := p) (i1 := 0) (n := n + 1 + 1 + 1 + 1 + (2 * k + 2)) (n1 := n + 1 + 1 + 1 + 1 + (2 * k + 2)) (n2 := n + 1 + 1 + 1 + 1 + (2 * k + 2)) (n3 := n + 1 + 1 + 1 + 1 + (2 * k + 2) + (spots.take k).length) 7 8 9
    (EVp.of (EV.cast (EV.slL (EV.var 6 (t := tD (dI spots))) EO.none (EO.some (EV.var 2 (t := tI (k : Nat))))) e1))
    (EVp.of (EV.cast (EV.slL (EV.var 6 (t := tD (dI spots))) (EO.some (EV.var 2 (t := tI (k : Nat)))) EO.none) e2))
    (EVp.mixed T (hr.mono (by decide)) (EV.cast (EV.slL (EV.var 6 (t := tD (dI spots))) EO.none (EO.some (EV.var 2 (t := tI (k : Nat))))) e1) (by omega) (by unfold most at hn ⊢; omega) (pe_var rfl (Or.inl rfl))) sc_law_pairs.nd rfl) ?_
  rintro _ ⟨_, _, turned, _, _, hturned, rfl⟩
  rw [htl]
  refine GSR.seq (G1.newL 10 sc_law_pairs.nd) ?_
  have hlim : n + 2000 ≤ most := hn
  have hsp : ∀ z ∈ spots, 0 ≤ z ∧ z < 2 * (k : Int) + 2 := fun z hz => by
    have := rgN_mem.mp (hspots.mem_iff.mp hz)
    omega
  have hP : PrIn k m scale shift way spots (spots.take k) (spots.drop k) turned := ⟨by omega, hsl, rfl, rfl, by rw [hturned.length_eq, htl], fun z hz => List.mem_of_mem_take (hturned.mem_iff.mp hz), fun z hz => by have := hsp z hz; omega, hsc0, hsc1, hs0, by omega⟩
  refine GSR.cons (N1 := IvPr p (n + 1 + 1 + 1 + 1 + (2 * k + 2) + k) m k scale shift way spots (spots.take k) (spots.drop k) turned k) (G1.forP 11 12 (IvPr p (n + 1 + 1 + 1 + 1 + (2 * k + 2) + k) m k scale shift way spots (spots.take k) (spots.drop k) turned) (IV.enum (c := fun q : Int => .int q) (xs := spots.take k) (T.free 15) (EV.var 7 (t := tD (dI (spots.take k))))) ⟨[], _, _, _, ⟨by simp, fun _ z => nomatch z⟩, rfl⟩ sc_law_pairs.nd (fun i a Γi ha hI => ?_) (fun Γi hI => ?_)) ?_
  · rw [List.getElem?_zipIdx] at ha
    obtain ⟨q, hq, rfl⟩ := Option.map_eq_some_iff.mp ha
    have := pr_body (t := tNo) (K1 := IvPr p (n + 1 + 1 + 1 + 1 + (2 * k + 2) + k) m k scale shift way spots (spots.take k) (spots.drop k) turned k) (P := P) (w := w) (base := base) (f := fa) (cdv := cdv) (Ar := Ar) (outer := outer) (s := s) (H := H) (E := E) (i := i) T hP hr (by omega) hq hI
    rw [Nat.zero_add]
    exact this
  · rw [List.length_zipIdx, htl] at hI
    exact hI
  · rintro _ ⟨l, a, b, tt, ok, rfl⟩
    have hpi := hP.lk
    have hll := ok.len (by omega)
    refine GSR.bump (n1 := n + 2000) 0 rfl (by omega) ?_
    refine GSR.retO (i := 0) (n := n + 2000) (EVp.imp (EVp.of (EV.var 10 (t := tD (dR l)))) _ _ fun _ _ => ⟨l, ⟨?_, by omega, fun r hr => ?_⟩, fun v B h => h⟩) rfl
    · rw [ok.1, List.take_of_length_le (by omega)]
      have hnd : spots.Nodup := hspots.nodup_iff.mpr (rgN_nodup _)
      refine List.pairwise_map.mpr ((hnd.sublist (List.take_sublist _ _)).imp fun {a b} hne e => hne ?_)
      have := Int.eq_of_mul_eq_mul_right (by omega) e
      omega
    · obtain ⟨a, b, ha, hb, rfl⟩ := ok.2 r hr
      exact ⟨hP.fit ha, hP.fit hb⟩
end
end Rk
/-! part M16 -/
namespace Rk
/-! ### Replace, seen as a function of the rows -/
theorem pAt_cons (q : Int × Option Int) (p : Pl) (k : Int) : pAt (q :: p) k = if k = q.1 then q.2 else pAt p k := by
  unfold pAt
  rw [List.lookup_cons]
  by_cases h : k = q.1
  · rw [if_pos h, h]; simp
  · rw [if_neg h]
    have : (k == q.1) = false := by simpa using h
    rw [this]
theorem pAt_startP (order : List Int) (k : Int) : pAt (startP order) k = if k ∈ order then some k else none := by
  induction order with
  | nil => rfl
  | cons a l ih =>
    show pAt ((a, some a) :: startP l) k = _
    rw [pAt_cons, ih]
    by_cases h : k = a
    · subst h; simp
    · simp [h]
theorem pAt_out {p : Pl} {k : Int} (h : k ∉ p.map (·.1)) : pAt p k = none := by
  induction p with
  | nil => rfl
  | cons q p ih =>
    rw [List.map_cons, List.mem_cons, not_or] at h
    rw [pAt_cons, if_neg h.1]
    exact ih h.2
theorem pAt_putNe (p : Pl) {k x : Int} (v : Option Int) (h : x ≠ k) : pAt (putP p k v) x = pAt p x := by
  induction p with
  | nil => rfl
  | cons q p ih =>
    show pAt ((if q.1 = k then (q.1, v) else q) :: putP p k v) x = _
    rw [pAt_cons, pAt_cons, ih]
    by_cases e : q.1 = k
    · rw [if_pos e]
      have : ¬ x = q.1 := fun z => h (z.trans e)
      rw [if_neg this, if_neg this]
    · rw [if_neg e]
theorem pAt_putEq {p : Pl} {k : Int} (v : Option Int) (h : k ∈ p.map (·.1)) : pAt (putP p k v) k = v := by
  induction p with
  | nil => cases h
  | cons q p ih =>
    show pAt ((if q.1 = k then (q.1, v) else q) :: putP p k v) k = _
    rw [pAt_cons]
    by_cases e : q.1 = k
    · rw [if_pos e, if_pos e.symm]
    · rw [if_neg e, if_neg (fun z => e z.symm)]
      refine ih ?_
      rw [List.map_cons, List.mem_cons] at h
      exact h.resolve_left fun z => e z.symm
theorem pAt_of {p : Pl} (hn : (p.map (·.1)).Nodup) {q : Int × Option Int} (h : q ∈ p) : pAt p q.1 = q.2 := by
  induction p with
  | nil => cases h
  | cons a p ih =>
    rw [List.map_cons, List.nodup_cons] at hn
    rw [pAt_cons]
    rcases List.mem_cons.mp h with e | h
    · rw [e, if_pos rfl]
    · rw [if_neg, ih hn.2 h]
      exact fun e => hn.1 (e ▸ List.mem_map.mpr ⟨q, h, rfl⟩)
theorem pAt_mem {p : Pl} {k v : Int} (h : pAt p k = some v) : (k, some v) ∈ p := by
  induction p with
  | nil => cases h
  | cons a p ih =>
    rw [pAt_cons] at h
    by_cases e : k = a.1
    · rw [if_pos e] at h
      obtain ⟨a1, a2⟩ := a
      cases e; cases h
      exact List.mem_cons_self
    · rw [if_neg e] at h
      exact List.mem_cons_of_mem _ (ih h)
theorem holder_no {p : Pl} {v : Int} (h : holder p v = none) (k : Int) : pAt p k ≠ some v := fun e => by
  unfold holder at h
  rw [Option.map_eq_none_iff, List.find?_eq_none] at h
  exact h _ (pAt_mem e) (by simp)
abbrev Fs := Int → Option Int
def sstep (R : Rows) (s : Fs) (row : Int) : Fs := fun x => if s row = none ∨ nw R row = row then s x else if x = row then some (nw R row) else if s x = some (nw R row) then none else s x
def srun (R : Rows) (s : Fs) (l : List Int) : Fs := l.foldl (sstep R) s
def Inj (s : Fs) : Prop := ∀ a b v, s a = some v → s b = some v → a = b
theorem step_pAt {R : Rows} {p : Pl} {row : Int} (hn : (p.map (·.1)).Nodup) (hr : row ∈ p.map (·.1)) (hi : Inj (pAt p)) : pAt (runStep R p row) = sstep R (pAt p) row := by
  funext x
  unfold runStep sstep
  by_cases h : pAt p row = none ∨ nw R row = row
  · rw [if_pos h, if_pos h]
  · rw [if_neg h, if_neg h]
    cases e : holder p (nw R row) with
    | none =>
      show pAt (putP p row (some (nw R row))) x = _
      by_cases hx : x = row
      · subst hx; rw [if_pos rfl, pAt_putEq _ hr]
      · rw [if_neg hx, if_neg (holder_no e x), pAt_putNe _ _ hx]
    | some o =>
      show pAt (putP (putP p o none) row (some (nw R row))) x = _
      have ho : pAt p o = some (nw R row) := pAt_of hn (holder_mem e)
      have hm : o ∈ p.map (·.1) := List.mem_map.mpr ⟨_, holder_mem e, rfl⟩
      by_cases hx : x = row
      · subst hx; rw [if_pos rfl, pAt_putEq _ (by rw [putP_keys]; exact hr)]
      · rw [if_neg hx, pAt_putNe _ _ hx]
        by_cases hy : x = o
        · subst hy; rw [if_pos ho, pAt_putEq _ hm]
        · rw [pAt_putNe _ _ hy, if_neg fun z => hy (hi _ _ _ z ho)]
theorem sstep_inj {R : Rows} {s : Fs} {row : Int} (h : Inj s) : Inj (sstep R s row) := by
  intro a b v ha hb
  unfold sstep at ha hb
  by_cases c : s row = none ∨ nw R row = row
  · rw [if_pos c] at ha hb; exact h a b v ha hb
  · rw [if_neg c] at ha hb
    by_cases ea : a = row
    · rw [if_pos ea] at ha
      by_cases eb : b = row
      · exact ea.trans eb.symm
      · rw [if_neg eb] at hb
        split at hb
        · cases hb
        · rename_i n; exact absurd (hb.trans ha.symm) n
    · rw [if_neg ea] at ha
      split at ha
      · cases ha
      · rename_i n
        by_cases eb : b = row
        · rw [if_pos eb] at hb; exact absurd (ha.trans hb.symm) n
        · rw [if_neg eb] at hb
          split at hb
          · cases hb
          · exact h a b v ha hb
theorem run_pAt {R : Rows} : ∀ (l : List Int) (p : Pl), (p.map (·.1)).Nodup → (∀ x ∈ l, x ∈ p.map (·.1)) → Inj (pAt p) → pAt (l.foldl (runStep R) p) = srun R (pAt p) l
  | [], p, _, _, _ => rfl
  | r :: l, p, hn, hl, hi => by
    rw [List.foldl_cons, run_pAt l _ (by rw [runStep_keys]; exact hn) (fun x hx => by rw [runStep_keys]; exact hl x (List.mem_cons_of_mem _ hx)), step_pAt hn (hl r List.mem_cons_self) hi]
    · rfl
    · rw [step_pAt hn (hl r List.mem_cons_self) hi]; exact sstep_inj hi
def st0 (order : List Int) : Fs := fun k => if k ∈ order then some k else none
theorem st0_inj (order : List Int) : Inj (st0 order) := by
  intro a b v ha hb
  unfold st0 at ha hb
  split at ha
  · split at hb
    · cases ha; cases hb; rfl
    · cases hb
  · cases ha
theorem runP_pAt {R : Rows} {order : List Int} (h : order.Nodup) : pAt (runP R order) = srun R (st0 order) order := by
  have e : pAt (startP order) = st0 order := funext fun k => pAt_startP order k
  unfold runP
  rw [run_pAt _ _ (by rw [startP_keys]; exact h) (fun x hx => by rw [startP_keys]; exact hx) (by rw [e]; exact st0_inj order), e]
theorem sstep_none {R : Rows} {s : Fs} {row x : Int} (h : s x = none) : sstep R s row x = none := by
  unfold sstep
  split
  · exact h
  · rename_i c
    split
    · rename_i e; rw [e] at h; exact absurd (Or.inl h) c
    · split
      · rfl
      · exact h
theorem srun_none {R : Rows} {x : Int} : ∀ (l : List Int) (s : Fs), s x = none → srun R s l x = none
  | [], s, h => h
  | r :: l, s, h => srun_none l _ (sstep_none h)
theorem srun_app (R : Rows) (s : Fs) (a b : List Int) : srun R s (a ++ b) = srun R (srun R s a) b := List.foldl_append
/-- what is known when the rows D were visited -/
structure Vis (R : Rows) (order D : List Int) (s : Fs) : Prop where
  inj : Inj s
  out : ∀ x, x ∉ order → s x = none
  own : ∀ x v, x ∉ D → s x = some v → v = x
  mov : ∀ x v, x ∈ D → s x = some v → v = nw R x
  gone : ∀ x, x ∈ order → s x = none → ∃ o, nw R o ≠ o ∧ s o = some (nw R o) ∧ (nw R o = x ∨ (nw R x ≠ x ∧ nw R o = nw R x))
theorem Vis.start (R : Rows) (order : List Int) : Vis R order [] (st0 order) := by
  refine ⟨st0_inj order, fun x h => if_neg h, fun x v _ h => ?_, fun x v h => (nomatch h), fun x h e => ?_⟩
  · unfold st0 at h
    split at h
    · cases h; rfl
    · cases h
  · unfold st0 at e
    rw [if_pos h] at e; cases e
theorem Vis.step {R : Rows} {order D : List Int} {s : Fs} {row : Int} (h : Vis R order D s) (hr : row ∉ D) : Vis R order (row :: D) (sstep R s row) := by
  by_cases c : s row = none ∨ nw R row = row
  · have e : sstep R s row = s := funext fun x => if_pos c
    rw [e]
    refine ⟨h.inj, h.out, fun x v hx => h.own x v fun z => hx (List.mem_cons_of_mem _ z), fun x v hx hv => ?_, h.gone⟩
    rcases List.mem_cons.mp hx with rfl | hx
    · rcases c with c | c
      · rw [c] at hv; cases hv
      · rw [c]; exact h.own x v hr hv
    · exact h.mov x v hx hv
  · have e : ∀ x, sstep R s row x = if x = row then some (nw R row) else if s x = some (nw R row) then none else s x := fun x => if_neg c
    have hst : nw R row ≠ row := fun z => c (Or.inr z)
    have hro : s row ≠ none := fun z => c (Or.inl z)
    refine ⟨sstep_inj h.inj, fun x hx => sstep_none (h.out x hx), fun x v hx hv => ?_, fun x v hx hv => ?_, fun x hx hv => ?_⟩
    · rw [List.mem_cons, not_or] at hx
      rw [e, if_neg hx.1] at hv
      split at hv
      · cases hv
      · exact h.own x v hx.2 hv
    · rw [e] at hv
      by_cases er : x = row
      · rw [if_pos er] at hv; cases hv; rw [er]
      · rw [if_neg er] at hv
        split at hv
        · cases hv
        · exact h.mov x v ((List.mem_cons.mp hx).resolve_left er) hv
    · have sr : sstep R s row row = some (nw R row) := by rw [e, if_pos rfl]
      by_cases er : x = row
      · rw [er, sr] at hv; cases hv
      · rw [e, if_neg er] at hv
        by_cases ex : s x = some (nw R row)
        · refine ⟨row, hst, sr, ?_⟩
          by_cases hd : x ∈ D
          · have e2 := h.mov x _ hd ex
            by_cases e3 : nw R x = x
            · exact Or.inl (e2.trans e3)
            · exact Or.inr ⟨e3, e2⟩
          · exact Or.inl (h.own x _ hd ex)
        · rw [if_neg ex] at hv
          obtain ⟨o, h1, h2, h3⟩ := h.gone x hx hv
          have ne : o ≠ row := fun z => by
            rw [z] at h2
            exact hst (h.own row _ hr h2)
          by_cases eo : nw R o = nw R row
          · rw [eo] at h3
            exact ⟨row, hst, sr, h3⟩
          · refine ⟨o, h1, ?_, h3⟩
            rw [e, if_neg ne, if_neg fun z => eo ?_]
            · exact h2
            · rw [h2] at z; exact Option.some.inj z
theorem Vis.run {R : Rows} {order : List Int} : ∀ (l D : List Int) (s : Fs), Vis R order D s → l.Nodup → (∀ x ∈ l, x ∉ D) → Vis R order (l.reverse ++ D) (srun R s l)
  | [], D, s, h, _, _ => h
  | r :: l, D, s, h, hn, hd => by
    rw [List.nodup_cons] at hn
    have := Vis.run l (r :: D) _ (h.step (hd r List.mem_cons_self)) hn.2 fun x hx z => by
      rcases List.mem_cons.mp z with rfl | z
      · exact hn.1 hx
      · exact hd x (List.mem_cons_of_mem _ hx) z
    rw [List.reverse_cons, List.append_assoc]
    exact this
theorem Vis.all (R : Rows) {order : List Int} (h : order.Nodup) : Vis R order order.reverse (srun R (st0 order) order) := by
  have := Vis.run order [] _ (Vis.start R order) h fun x _ z => nomatch z
  rwa [List.append_nil] at this
end Rk
/-! part M17 -/
namespace Rk
/-! ### what Replace leaves -/
def aliveOf (R : Rows) (order : List Int) : Fs := srun R (st0 order) order
def leftOf (R : Rows) (order : List Int) : List Int := keys (endsOf (runP R order))
def heldOf (R : Rows) (order : List Int) : List Int := srt ((endsOf (runP R order)).map (·.2))
theorem sub_wf {R S : Rows} (w : WF R) (h : S.Sublist R) : WF S := ⟨w.asc.sublist h, fun r hr => w.bnd r (h.subset hr), Nat.le_trans h.length_le w.len⟩
theorem rows_nodup {R : Rows} (h : (R.map (·.1)).Nodup) : R.Nodup := (List.pairwise_map.mp h).imp fun hne e => hne (congrArg Prod.fst e)
section
variable {R : Rows} {order L : List Int} {k : Int}
theorem ends_eq (w : WF R) (hp : order.Perm (keys R)) : endsOf (runP R order) = R.filter fun r => decide (aliveOf R order r.1 ≠ none) := by
  have hn : order.Nodup := hp.nodup_iff.mpr w.nodup
  have V := Vis.all R hn
  have hk : ((runP R order).map (·.1)).Nodup := by rw [runP_keys]; exact hn
  have ep : pAt (runP R order) = aliveOf R order := runP_pAt (R := R) hn
  unfold endsOf
  refine srtP_rows ?_ (sub_wf w List.filter_sublist)
  refine (List.perm_ext_iff_of_nodup ?_ ?_).mpr fun r => ?_
  · refine List.pairwise_filterMap.mpr ((List.pairwise_map.mp hk).imp fun {a b} hne x hx y hy e => hne ?_)
    obtain ⟨k1, _, rfl⟩ := Option.map_eq_some_iff.mp hx
    obtain ⟨k2, _, e2⟩ := Option.map_eq_some_iff.mp hy
    rw [← e2] at e
    exact (Prod.mk.inj e).1
  · exact (rows_nodup w.nodup).sublist List.filter_sublist
  · rw [List.mem_filterMap, List.mem_filter, decide_eq_true_eq]
    constructor
    · rintro ⟨q, hq, e⟩
      obtain ⟨k1, h1, rfl⟩ := Option.map_eq_some_iff.mp e
      have h2 : aliveOf R order q.1 = some k1 := by rw [← ep, pAt_of hk hq, h1]
      have h3 : q.1 ∈ order := by rw [← runP_keys R order]; exact List.mem_map.mpr ⟨q, hq, rfl⟩
      have h4 := V.mov q.1 k1 (List.mem_reverse.mpr h3) h2
      subst h4
      exact ⟨mem_nw (hp.mem_iff.mp h3), by show aliveOf R order q.1 ≠ none; rw [h2]; exact fun z => nomatch z⟩
    · rintro ⟨hr, ha⟩
      cases e : aliveOf R order r.1 with
      | none => exact absurd e ha
      | some v =>
        have h3 : r.1 ∈ order := hp.mem_iff.mpr (List.mem_map.mpr ⟨r, hr, rfl⟩)
        have h4 := V.mov r.1 v (List.mem_reverse.mpr h3) e
        have h5 : nw R r.1 = r.2 := nw_of_mem w hr
        refine ⟨(r.1, some v), pAt_mem (by rw [ep]; exact e), ?_⟩
        show some (r.1, v) = some r
        rw [h4, h5]
theorem left_eq (w : WF R) (hp : order.Perm (keys R)) : leftOf R order = (keys R).filter fun k => decide (aliveOf R order k ≠ none) := by
  unfold leftOf
  rw [ends_eq w hp]
  unfold keys
  rw [List.filter_map]; rfl
theorem mem_left (w : WF R) (hp : order.Perm (keys R)) : k ∈ leftOf R order ↔ aliveOf R order k ≠ none := by
  rw [left_eq w hp, List.mem_filter, decide_eq_true_eq]
  refine ⟨fun h => h.2, fun h => ⟨?_, h⟩⟩
  have V := Vis.all R (hp.nodup_iff.mpr w.nodup)
  exact Decidable.byContradiction fun z => h (V.out k fun y => z (hp.mem_iff.mp y))
theorem held_eq (w : WF R) (hp : order.Perm (keys R)) : heldOf R order = srt ((leftOf R order).map (nw R)) := by
  unfold heldOf leftOf
  congr 1
  rw [ends_eq w hp]
  unfold keys
  rw [List.map_map]
  exact List.map_congr_left fun r hr => (nw_of_mem w (List.mem_filter.mp hr).1).symm
theorem left_val (w : WF R) (hp : order.Perm (keys R)) (h : k ∈ leftOf R order) : aliveOf R order k = some (nw R k) := by
  have V := Vis.all R (hp.nodup_iff.mpr w.nodup)
  have h2 := (mem_left w hp).mp h
  cases e : aliveOf R order k with
  | none => exact absurd e h2
  | some v =>
    have h3 : k ∈ order := Decidable.byContradiction fun z => h2 (V.out k z)
    rw [V.mov k v (List.mem_reverse.mpr h3) e]
theorem left_asc (w : WF R) (hp : order.Perm (keys R)) : (leftOf R order).Pairwise (· < ·) := by
  rw [left_eq w hp]
  exact (List.pairwise_map.mpr w.asc).sublist List.filter_sublist
theorem first_of {p : Int → Prop} [DecidablePred p] : ∀ {l : List Int}, (∃ a ∈ l, p a) → ∃ a x b, l = a ++ x :: b ∧ p x ∧ ∀ y ∈ a, ¬ p y
  | [], h => by obtain ⟨_, z, _⟩ := h; cases z
  | c :: l, h => by
    by_cases hc : p c
    · exact ⟨[], c, l, rfl, hc, fun _ z => nomatch z⟩
    · obtain ⟨a, x, b, e, h1, h2⟩ := first_of (p := p) (l := l) (by
        obtain ⟨y, hy, py⟩ := h
        rcases List.mem_cons.mp hy with rfl | hy
        · exact absurd py hc
        · exact ⟨y, hy, py⟩)
      exact ⟨c :: a, x, b, by rw [e]; rfl, h1, fun y hy => by
        rcases List.mem_cons.mp hy with rfl | hy
        · exact hc
        · exact h2 y hy⟩
/-- what is left when Replace runs -/
structure LeftP (R : Rows) (L : List Int) : Prop where
  sub : ∀ a ∈ L, a ∈ keys R
  inj : ∀ a ∈ L, ∀ b ∈ L, nw R a = nw R b → a = b
  kept : ∀ k ∈ keys R, k ∉ L → ∃ o ∈ L, nw R o = k ∨ (nw R k ≠ k ∧ nw R o ≠ o ∧ nw R o = nw R k)
  ring : ∀ r, Rg R r → ∃ k ∈ r, k ∉ L
theorem run_leftP (w : WF R) (hp : order.Perm (keys R)) : LeftP R (leftOf R order) := by
  have hn : order.Nodup := hp.nodup_iff.mpr w.nodup
  have V := Vis.all R hn
  have mo : ∀ {x}, x ∈ keys R → x ∈ order := fun h => hp.mem_iff.mpr h
  refine ⟨fun a ha => ?_, fun a ha b hb e => ?_, fun k hk hl => ?_, fun r g => ?_⟩
  · rw [left_eq w hp] at ha; exact (List.mem_filter.mp ha).1
  · refine V.inj a b _ (left_val w hp ha) ?_
    rw [e]; exact left_val w hp hb
  · have h2 : aliveOf R order k = none := Decidable.byContradiction fun z => hl ((mem_left w hp).mpr z)
    obtain ⟨o, h3, h4, h5⟩ := V.gone k (mo hk) h2
    refine ⟨o, (mem_left w hp).mpr (by show srun R (st0 order) order o ≠ none; rw [h4]; exact fun z => nomatch z), ?_⟩
    rcases h5 with h5 | ⟨h5, h6⟩
    · exact Or.inl h5
    · exact Or.inr ⟨h5, h3, h6⟩
  · refine Decidable.byContradiction fun hno => ?_
    have hall : ∀ x ∈ r, x ∈ leftOf R order := fun x hx => Decidable.byContradiction fun z => hno ⟨x, hx, z⟩
    obtain ⟨y, hy⟩ := List.exists_mem_of_ne_nil r g.ne
    obtain ⟨a, x, b, e, hx, ha⟩ := first_of (p := fun x => x ∈ r) (l := order) ⟨y, mo (g.keys y hy), hy⟩
    obtain ⟨j, hj, hw⟩ := g.succ hx
    obtain ⟨j1, j2, j3⟩ := waited_some hw
    have e2 : aliveOf R order = srun R (sstep R (srun R (st0 order) a) x) b := by
      unfold aliveOf
      conv => lhs; arg 3; rw [e]
      rw [srun_app]; rfl
    have Va := Vis.run a [] _ (Vis.start R order) (by rw [e] at hn; exact (List.nodup_append.mp hn).1) fun x _ z => nomatch z
    rw [List.append_nil] at Va
    have al : ∀ z ∈ r, srun R (st0 order) a z = some z := fun z hz => by
      cases q : srun R (st0 order) a z with
      | none =>
        have := (mem_left w hp).mp (hall z hz)
        rw [e2] at this
        exact absurd (srun_none b _ (sstep_none q)) this
      | some v => rw [Va.own z v (fun y => ha z (List.mem_reverse.mp y) hz) q]
    have hd : sstep R (srun R (st0 order) a) x j = none := by
      unfold sstep
      rw [if_neg, if_neg j2, al j hj, j1, if_pos rfl]
      rintro (z | z)
      · rw [al x hx] at z; cases z
      · exact j2 (j1.trans z)
    have := (mem_left w hp).mp (hall j hj)
    rw [e2] at this
    exact this (srun_none b _ hd)
theorem allIn_iff {r ks : List Int} : allIn r ks = true ↔ ∀ k ∈ r, k ∈ ks := by
  unfold allIn
  rw [List.all_eq_true]
  exact ⟨fun h k hk => of_decide_eq_true (h k hk), fun h k hk => decide_eq_true (h k hk)⟩
theorem isAsc_of : ∀ {l : List Int}, l.Pairwise (· < ·) → isAsc l = true
  | [], _ => rfl
  | [a], _ => rfl
  | a :: b :: l, h => by
    have h2 := List.pairwise_cons.mp h
    have := isAsc_of h2.2
    unfold isAsc at this ⊢
    show (decide (a < b) && ((b :: l).zip l).all fun p => decide (p.1 < p.2)) = true
    rw [Bool.and_eq_true]
    exact ⟨decide_eq_true (h2.1 b List.mem_cons_self), this⟩
theorem LeftP.nd (h : LeftP R L) (hn : L.Nodup) : (L.map (nw R)).Nodup := by
  refine List.pairwise_map.mpr (List.Pairwise.imp_of_mem (fun {a b} ha hb hne e => hne (h.inj a ha b hb e)) hn)
theorem LeftP.isSet (h : LeftP R L) (ha : L.Pairwise (· < ·)) : isSet R L = true := by
  unfold Rk.isSet
  rw [allIn_iff.mpr h.sub, isAsc_of ha]; rfl
theorem LeftP.isLeft (h : LeftP R L) (hn : L.Nodup) : isLeft R L = true := by
  unfold Rk.isLeft
  have h1 : decide ((sset (L.map (nw R))).length < L.length) = false := by
    rw [sset_of_nodup (h.nd hn), srt_len, List.length_map]
    exact decide_eq_false (Nat.lt_irrefl _)
  have h2 : (keys R).all (keptRight R L) = true := List.all_eq_true.mpr fun k hk => by
    unfold keptRight
    by_cases c : k ∈ L
    · rw [if_pos c]
    · rw [if_neg c]
      obtain ⟨o, ho, h3⟩ := h.kept k hk c
      by_cases s : still R k = true
      · rw [if_pos s]
        have s : nw R k = k := of_decide_eq_true s
        refine List.any_eq_true.mpr ⟨o, ho, decide_eq_true ?_⟩
        rcases h3 with h3 | h3
        · exact h3
        · exact absurd s h3.1
      · rw [if_neg s, Bool.or_eq_true]
        rcases h3 with h3 | ⟨h3, h4, h5⟩
        · refine Or.inr (List.any_eq_true.mpr ⟨o, ho, decide_eq_true ?_⟩)
          unfold waited
          rw [if_pos, h3]
          rw [h3]
          exact ⟨fun z => c (z ▸ ho), hk⟩
        · refine Or.inl ?_
          have : o ∈ rivalsIn R k L := List.mem_filter.mpr ⟨ho, by
            rw [Bool.and_eq_true]
            exact ⟨decide_eq_true h5, by unfold still; rw [decide_eq_false h4]; rfl⟩⟩
          rw [decide_eq_false fun z => by rw [z] at this; cases this]; rfl
  have h3 : ((rings R).all fun r => !allIn r L) = true := List.all_eq_true.mpr fun r hr => by
    obtain ⟨k, hk, hl⟩ := h.ring r (mem_rings.mp hr)
    cases q : allIn r L with
    | false => rfl
    | true => exact absurd (allIn_iff.mp q k hk) hl
  rw [h1, h2, h3]; rfl
theorem LeftP.cover (w : WF R) (h : LeftP R L) : isCover R (srt (L.map (nw R))) = true := by
  have mem : ∀ {v}, v ∈ srt (L.map (nw R)) ↔ ∃ a ∈ L, nw R a = v := fun {v} => mem_srt.trans List.mem_map
  have inR : ∀ a ∈ L, (a, nw R a) ∈ R := fun a ha => mem_nw (h.sub a ha)
  unfold isCover
  have h1 : allIn (srt (L.map (nw R))) (wanted R) = true := allIn_iff.mpr fun v hv => by
    obtain ⟨a, ha, rfl⟩ := mem.mp hv
    exact mem_wanted.mpr (List.mem_map.mpr ⟨_, inR a ha, rfl⟩)
  have h2 : (R.all fun r => decide (r.1 ∈ srt (L.map (nw R))) || decide (r.2 ∈ srt (L.map (nw R)))) = true := List.all_eq_true.mpr fun r hr => by
    rw [Bool.or_eq_true, decide_eq_true_eq, decide_eq_true_eq, mem, mem]
    have e : nw R r.1 = r.2 := nw_of_mem w hr
    by_cases c : r.1 ∈ L
    · exact Or.inr ⟨_, c, e⟩
    · obtain ⟨o, ho, h3⟩ := h.kept r.1 (List.mem_map.mpr ⟨r, hr, rfl⟩) c
      rcases h3 with h3 | ⟨_, _, h5⟩
      · exact Or.inl ⟨o, ho, h3⟩
      · exact Or.inr ⟨o, ho, h5.trans e⟩
  have h3 : ((pures R).all fun r => !allIn r (srt (L.map (nw R)))) = true := List.all_eq_true.mpr fun r hr => by
    obtain ⟨hr, hpu⟩ := List.mem_filter.mp hr
    have g := mem_rings.mp hr
    cases q : allIn r (srt (L.map (nw R))) with
    | false => rfl
    | true =>
      obtain ⟨k, hk, hl⟩ := h.ring r g
      obtain ⟨j, hj, hw⟩ := g.succ hk
      obtain ⟨j1, j2, j3⟩ := waited_some hw
      obtain ⟨o, ho, eo⟩ := mem.mp (allIn_iff.mp q j hj)
      have l1 : (wantsOf R j).length = 1 := of_decide_eq_true (List.all_eq_true.mp hpu j hj)
      obtain ⟨x, ex⟩ := List.length_eq_one_iff.mp l1
      have m1 : o ∈ wantsOf R j := mem_wantsOf.mpr (eo ▸ inR o ho)
      have m2 : k ∈ wantsOf R j := mem_wantsOf.mpr (j1 ▸ mem_nw (g.keys k hk))
      rw [ex, List.mem_singleton] at m1 m2
      exact absurd (m2.trans m1.symm ▸ ho) hl
  rw [h1, h2, h3]; rfl
theorem mem_rivals {o : Int} : o ∈ rivals R k ↔ (o, nw R k) ∈ R ∧ o ≠ k := by
  unfold rivals
  rw [List.mem_filter, mem_wantsOf]
  simp
theorem mem_waitingFor {o : Int} : o ∈ waitingFor R k ↔ (o, k) ∈ R ∧ o ≠ k := by
  unfold waitingFor
  rw [List.mem_map]
  constructor
  · rintro ⟨r, hr, rfl⟩
    obtain ⟨h1, h2⟩ := List.mem_filter.mp hr
    simp only [Bool.and_eq_true, decide_eq_true_eq, Bool.not_eq_true', decide_eq_false_iff_not] at h2
    obtain ⟨a, b⟩ := r
    obtain ⟨h2, h3⟩ := h2
    cases h2
    exact ⟨h1, h3⟩
  · rintro ⟨h1, h2⟩
    exact ⟨(o, k), List.mem_filter.mpr ⟨h1, by simp [h2]⟩, rfl⟩
theorem LeftP.fate_in (w : WF R) (h : LeftP R L) (hk : k ∈ L) : fate R k = "always" ∨ fate R k = "sometimes" := by
  unfold fate
  by_cases s : still R k = true
  · rw [if_pos s]
    have s : nw R k = k := of_decide_eq_true s
    by_cases c : rivals R k = []
    · rw [if_pos c]; exact Or.inl rfl
    · rw [if_neg c, if_neg]
      · exact Or.inr rfl
      · intro z
        obtain ⟨o, ho, hz⟩ := List.any_eq_true.mp z
        have hz : waitingFor R o = [] := of_decide_eq_true hz
        obtain ⟨h1, h2⟩ := mem_rivals.mp ho
        rw [s] at h1
        have e1 := nw_of_mem w h1
        have ol : o ∉ L := fun y => h2 (h.inj o y k hk (e1.trans s.symm))
        obtain ⟨a, ha, h3⟩ := h.kept o (List.mem_map.mpr ⟨_, h1, rfl⟩) ol
        rcases h3 with h3 | ⟨h3, h4, h5⟩
        · have : a ∈ waitingFor R o := mem_waitingFor.mpr ⟨h3 ▸ mem_nw (h.sub a ha), fun y => ol (y ▸ ha)⟩
          rw [hz] at this; cases this
        · have : a = k := h.inj a ha k hk (by rw [h5, e1, s])
          exact h4 (by rw [this]; exact s)
  · rw [if_neg s]
    split
    · exact Or.inl rfl
    · exact Or.inr rfl
theorem LeftP.fate_out (w : WF R) (h : LeftP R L) (hk : k ∈ keys R) (hl : k ∉ L) : fate R k = "never" ∨ fate R k = "sometimes" := by
  obtain ⟨o, ho, h3⟩ := h.kept k hk hl
  have ok : o ≠ k := fun y => hl (y ▸ ho)
  have oR := mem_nw (h.sub o ho)
  unfold fate
  by_cases s : still R k = true
  · rw [if_pos s]
    have s : nw R k = k := of_decide_eq_true s
    rw [if_neg]
    · split
      · exact Or.inl rfl
      · exact Or.inr rfl
    · intro z
      rcases h3 with h3 | h3
      · have : o ∈ rivals R k := mem_rivals.mpr ⟨by rw [s, ← h3]; exact oR, ok⟩
        rw [z] at this; cases this
      · exact h3.1 s
  · rw [if_neg s, if_neg]
    · exact Or.inr rfl
    · intro z
      rw [Bool.and_eq_true, decide_eq_true_eq, List.all_eq_true] at z
      rcases h3 with h3 | ⟨h3, h4, h5⟩
      · have : o ∈ waitingFor R k := mem_waitingFor.mpr ⟨h3 ▸ oR, ok⟩
        rw [z.1] at this; cases this
      · have := z.2 o (mem_rivals.mpr ⟨h5 ▸ oR, ok⟩)
        exact h4 (of_decide_eq_true this)
end
end Rk
/-! part M18 -/
namespace Rk
/-! ### order_leaving -/
theorem arr_fold {rows : List Int} : ∀ (rs : List (List Int)) (f : List Int), f.Nodup → (∀ r ∈ rs, ∃ k ∈ r, k ∉ rows) →
    (rs.foldl (arrStep rows) f).Sublist f ∧ (∀ k ∈ f, k ∉ rs.foldl (arrStep rows) f → k ∉ rows ∧ ∃ r ∈ rs, k ∈ r ∧ ∀ x ∈ r, x ∈ f) ∧ ∀ r ∈ rs, ∃ k ∈ r, k ∉ rs.foldl (arrStep rows) f
  | [], f, _, _ => ⟨List.Sublist.refl _, fun k h1 h2 => absurd h1 h2, fun _ z => nomatch z⟩
  | r :: rs, f, hn, hr => by
    rw [List.foldl_cons]
    have hh : (r.filter fun k => !decide (k ∈ rows)).headD 0 ∈ r ∧ (r.filter fun k => !decide (k ∈ rows)).headD 0 ∉ rows := by
      obtain ⟨k, h1, h2⟩ := hr r List.mem_cons_self
      have hk : k ∈ r.filter fun k => !decide (k ∈ rows) := List.mem_filter.mpr ⟨h1, by simp [h2]⟩
      cases q : r.filter fun k => !decide (k ∈ rows) with
      | nil => rw [q] at hk; cases hk
      | cons a l =>
        have ha : a ∈ r.filter fun k => !decide (k ∈ rows) := by rw [q]; exact List.mem_cons_self
        have := List.mem_filter.mp ha
        exact ⟨this.1, by simpa using this.2⟩
    have e : arrStep rows f r = if allIn r f = true then f.erase ((r.filter fun k => !decide (k ∈ rows)).headD 0) else f := rfl
    generalize (r.filter fun k => !decide (k ∈ rows)).headD 0 = hd at hh e
    have hs : (arrStep rows f r).Sublist f := by
      rw [e]; split
      · exact List.erase_sublist
      · exact List.Sublist.refl _
    obtain ⟨i1, i2, i3⟩ := arr_fold rs (arrStep rows f r) (hn.sublist hs) fun x hx => hr x (List.mem_cons_of_mem _ hx)
    refine ⟨i1.trans hs, fun k hk hg => ?_, fun x hx => ?_⟩
    · by_cases c : k ∈ arrStep rows f r
      · obtain ⟨j1, x, hx, j2, j3⟩ := i2 k c hg
        exact ⟨j1, x, List.mem_cons_of_mem _ hx, j2, fun y hy => hs.subset (j3 y hy)⟩
      · rw [e] at c
        by_cases al : allIn r f = true
        · rw [if_pos al] at c
          have ek : k = hd := Decidable.byContradiction fun z => c ((List.mem_erase_of_ne z).mpr hk)
          rw [ek]
          exact ⟨hh.2, r, List.mem_cons_self, hh.1, allIn_iff.mp al⟩
        · rw [if_neg al] at c; exact absurd hk c
    · rcases List.mem_cons.mp hx with rfl | hx
      · by_cases al : allIn x f = true
        · refine ⟨hd, hh.1, fun z => ?_⟩
          have := i1.subset z
          rw [e, if_pos al] at this
          exact (List.Nodup.mem_erase_iff hn).mp this |>.1 rfl
        · have : ∃ k ∈ x, k ∉ f := Decidable.byContradiction fun z => al (allIn_iff.mpr fun k hk => Decidable.byContradiction fun y => z ⟨k, hk, y⟩)
          obtain ⟨k, h1, h2⟩ := this
          exact ⟨k, h1, fun z => h2 (hs.subset (i1.subset z))⟩
      · exact i3 x hx
theorem pathGo_all {R : Rows} {Q : Int → Prop} (hQ : ∀ a j, Q a → waited R a = some j → Q j) : ∀ (n : Nat) (f : List Int) (o : Option Int), (∀ a ∈ f, Q a) → (∀ r, o = some r → Q r) → ∀ a ∈ pathGo R n f o, Q a
  | 0, f, o, h, _ => h
  | n + 1, f, none, h, _ => h
  | n + 1, f, some r, h, h2 => by
    unfold pathGo
    split
    · exact h
    · refine pathGo_all hQ n _ _ (fun a ha => ?_) fun x e => hQ r x (h2 r rfl) e
      rcases List.mem_append.mp ha with ha | ha
      · exact h a ha
      · rw [List.mem_singleton.mp ha]; exact h2 r rfl
theorem path_all {R : Rows} {Q : Int → Prop} {k : Int} (hk : Q k) (hQ : ∀ a j, Q a → waited R a = some j → Q j) : ∀ a ∈ pathOf R k, Q a :=
  pathGo_all hQ _ _ _ (by simpa using hk) fun r e => hQ k r hk e
section
variable {R : Rows} {L : List Int} {k : Int}
theorem mem_arrive0 : k ∈ arrive0 R L ↔ k ∈ keys R ∧ nw R k ≠ k ∧ ∃ o ∈ L, nw R o ≠ o ∧ nw R o = nw R k := by
  unfold arrive0
  rw [List.mem_filter, Bool.and_eq_true, decide_eq_true_eq, List.mem_map]
  unfold still
  simp only [Bool.not_eq_true', decide_eq_false_iff_not, List.mem_filter, and_assoc]
structure Arr (R : Rows) (L A : List Int) : Prop where
  nd : A.Nodup
  sub : ∀ k ∈ A, k ∈ keys R ∧ nw R k ≠ k
  goal : ∀ k ∈ A, ∃ o ∈ L, nw R o ≠ o ∧ nw R o = nw R k
  all : ∀ k ∈ L, nw R k ≠ k → k ∈ A
  ring : ∀ r, Rg R r → ∃ k ∈ r, k ∉ A
  off : ∀ k ∈ keys R, k ∉ A → nw R k ≠ k → (∃ o ∈ L, nw R o ≠ o ∧ nw R o = nw R k) → ∃ o ∈ L, nw R o ≠ o ∧ nw R o = k
theorem arr_of (w : WF R) (h : LeftP R L) : Arr R L (arriving R L) := by
  have n0 : (arrive0 R L).Nodup := w.nodup.sublist List.filter_sublist
  obtain ⟨i1, i2, i3⟩ := arr_fold (rows := L) (rings R) (arrive0 R L) n0 fun r hr => h.ring r (mem_rings.mp hr)
  refine ⟨n0.sublist i1, fun k hk => ?_, fun k hk => ?_, fun k hk hs => ?_, fun r g => i3 r (mem_rings.mpr g), fun k hk hA hs ho => ?_⟩
  · have := mem_arrive0.mp (i1.subset hk); exact ⟨this.1, this.2.1⟩
  · exact (mem_arrive0.mp (i1.subset hk)).2.2
  · refine Decidable.byContradiction fun z => ?_
    exact (i2 k (mem_arrive0.mpr ⟨h.sub k hk, hs, k, hk, hs, rfl⟩) z).1 hk
  · obtain ⟨_, r, hr, j1, j2⟩ := i2 k (mem_arrive0.mpr ⟨hk, hs, ho⟩) hA
    obtain ⟨y, hy, hw⟩ := (mem_rings.mp hr).pred j1
    obtain ⟨o, ho, h1, h2⟩ := (mem_arrive0.mp (j2 y hy)).2.2
    exact ⟨o, ho, h1, h2.trans (waited_some hw).1.symm⟩
theorem optMem_no {x : Option Int} {ns : List Int} : optMem x ns = false ↔ ∀ j, x = some j → j ∉ ns := by
  cases x with
  | none => exact ⟨fun _ _ z => (nomatch z), fun _ => rfl⟩
  | some k =>
    unfold optMem
    rw [decide_eq_false_iff_not]
    exact ⟨fun h j e => by cases e; exact h, fun h => h k rfl⟩
theorem canGo_iff {rest : List Int} : canGo R L rest k = true ↔ (∀ j, waited R k = some j → j ∉ rest) ∧ (k ∈ L → ∀ o ∈ rest, nw R o = nw R k → o = k) := by
  unfold canGo
  rw [Bool.and_eq_true, Bool.not_eq_true', optMem_no, Bool.or_eq_true, Bool.not_eq_true', decide_eq_false_iff_not, decide_eq_true_eq]
  refine and_congr Iff.rfl ⟨fun h hk o ho e => ?_, fun h => ?_⟩
  · have := h.resolve_left fun z => z hk
    refine Decidable.byContradiction fun z => ?_
    have m : o ∈ othersOf R rest k := List.mem_filter.mpr ⟨ho, by simp [e, z]⟩
    rw [this] at m; cases m
  · by_cases hk : k ∈ L
    · refine Or.inr (List.filter_eq_nil_iff.mpr fun o ho z => ?_)
      simp only [Bool.and_eq_true, decide_eq_true_eq, Bool.not_eq_true', decide_eq_false_iff_not] at z
      exact z.2 (h hk o ho z.1)
    · exact Or.inl hk
theorem waited_of {a b : Int} (ha : nw R a ≠ a) (e : nw R a = nw R b) (hb : nw R b ≠ b) : waited R a = waited R b := by
  unfold waited
  rw [e]
  rw [e] at ha
  by_cases c : nw R b ∈ keys R
  · rw [if_pos ⟨ha, c⟩, if_pos ⟨hb, c⟩]
  · rw [if_neg fun z => c z.2, if_neg fun z => c z.2]
theorem can_go {A rest : List Int} (h : LeftP R L) (a : Arr R L A) (hs : ∀ k ∈ rest, k ∈ A) (hne : rest ≠ []) : ∃ k ∈ rest, canGo R L rest k = true := by
  have s1 : ∃ k ∈ rest, ∀ j, waited R k = some j → j ∉ rest := by
    refine Decidable.byContradiction fun z => ?_
    have hw : ∀ k ∈ rest, ∃ j ∈ rest, waited R k = some j := fun k hk => Decidable.byContradiction fun y => z ⟨k, hk, fun j e hj => y ⟨j, hj, e⟩⟩
    obtain ⟨k, hk⟩ := List.exists_mem_of_ne_nil rest hne
    have hp := path_all (R := R) (Q := fun x => x ∈ rest) hk fun a j ha e => by
      obtain ⟨j', hj, e'⟩ := hw a ha
      rw [e] at e'; cases e'; exact hj
    obtain ⟨j, _, e⟩ := hw _ (hp _ (lst_mem (path_ne R k)))
    obtain ⟨r, g, _, _, hr⟩ := ring_in (a.sub k (hs k hk)).1 e
    obtain ⟨x, hx, hA⟩ := a.ring r g
    exact hA (hs x (hp x (hr x hx)))
  obtain ⟨k, hk, hw⟩ := s1
  by_cases c : canGo R L rest k = true
  · exact ⟨k, hk, c⟩
  · rw [canGo_iff, not_and] at c
    have c := c hw
    have : k ∈ L ∧ ∃ o ∈ rest, nw R o = nw R k ∧ o ≠ k := Decidable.byContradiction fun z => c fun hl o ho e => Decidable.byContradiction fun y => z ⟨hl, o, ho, e, y⟩
    obtain ⟨hl, o, ho, e, hne⟩ := this
    refine ⟨o, ho, canGo_iff.mpr ⟨?_, fun ol => absurd (h.inj o ol k hl e) hne⟩⟩
    rw [waited_of (a.sub o (hs o ho)).2 e (a.sub k (hs k hk)).2]
    exact hw
/-- in the midst of the order -/
structure PA (R : Rows) (L A rest order : List Int) (s : Fs) : Prop where
  V : Vis R (keys R) order.reverse s
  sub : ∀ k, k ∈ A ↔ k ∈ rest ∨ k ∈ order
  dis : ∀ k ∈ rest, k ∉ order
  nd : order.Nodup
  p2 : ∀ k ∈ rest, s k ≠ none
  p4 : ∀ k ∈ L, s k ≠ none
  p5 : ∀ k ∈ order, k ∉ L → ∀ o ∈ order, o ∈ L → nw R o = nw R k → s k = none
  p8 : ∀ k, k ∉ A → ∀ o ∈ order, nw R o = k → s k = none
  p9 : ∀ k ∈ order, k ∈ L → ∀ o ∈ rest, nw R o ≠ nw R k
theorem PA.step {A rest order : List Int} {s : Fs} {k0 : Int} (h : LeftP R L) (a : Arr R L A) (p : PA R L A rest order s) (hk : k0 ∈ rest) (hc : canGo R L rest k0 = true) :
    PA R L A (rest.filter fun o => !decide (o = k0)) (order ++ [k0]) (sstep R s k0) := by
  obtain ⟨c1, c2⟩ := canGo_iff.mp hc
  have kA : k0 ∈ A := (p.sub k0).mpr (Or.inl hk)
  have ko : k0 ∉ order := p.dis k0 hk
  obtain ⟨kk, kn⟩ := a.sub k0 kA
  have s0 : s k0 ≠ none := p.p2 k0 hk
  have e : ∀ x, sstep R s k0 x = if x = k0 then some (nw R k0) else if s x = some (nw R k0) then none else s x := fun x => if_neg fun z => z.elim s0 kn
  have mr : ∀ {x}, (x ∈ rest.filter fun o => !decide (o = k0)) ↔ x ∈ rest ∧ x ≠ k0 := fun {x} => by rw [List.mem_filter]; simp
  have mo : ∀ {x}, x ∈ order ++ [k0] ↔ x ∈ order ∨ x = k0 := fun {x} => by rw [List.mem_append, List.mem_singleton]
  have nr : ∀ x ∈ rest, nw R k0 ≠ x := fun x hx z => c1 x (by
    unfold waited
    rw [if_pos, z]
    exact ⟨kn, z ▸ (a.sub x ((p.sub x).mpr (Or.inl hx))).1⟩) hx
  refine ⟨?_, fun k => ?_, fun k hkr => ?_, ?_, fun k hkr => ?_, fun k hl => ?_, fun k hko hkl o ho hol eo => ?_, fun k hkA o ho eo => ?_, fun k hko hkl o ho eo => ?_⟩
  · have := p.V.step (row := k0) fun z => ko (List.mem_reverse.mp z)
    rw [List.reverse_append]
    exact this
  · rw [p.sub, mr, mo]
    by_cases z : k = k0
    · subst z; simp [hk]
    · simp [z]
  · rw [mo]
    obtain ⟨h1, h2⟩ := mr.mp hkr
    rintro (z | z)
    · exact p.dis k h1 z
    · exact h2 z
  · refine List.nodup_append.mpr ⟨p.nd, by simp, fun x hx y hy => ?_⟩
    rw [List.mem_singleton.mp hy]
    exact fun z => ko (z ▸ hx)
  · obtain ⟨h1, h2⟩ := mr.mp hkr
    rw [e, if_neg h2]
    cases q : s k with
    | none => exact absurd q (p.p2 k h1)
    | some v =>
      have := p.V.own k v (fun z => p.dis k h1 (List.mem_reverse.mp z)) q
      subst this
      rw [if_neg fun z => nr _ h1 (Option.some.inj z).symm]
      exact fun z => nomatch z
  · rw [e]
    by_cases z : k = k0
    · rw [if_pos z]; exact fun z => nomatch z
    · rw [if_neg z]
      by_cases y : s k = some (nw R k0)
      · exfalso
        by_cases ho : k ∈ order
        · have := p.V.mov k _ (List.mem_reverse.mpr ho) y
          exact p.p9 k ho hl k0 hk this
        · have e1 := p.V.own k _ (fun z => ho (List.mem_reverse.mp z)) y
          by_cases hr : k ∈ rest
          · exact nr k hr e1
          · have hA : k ∉ A := fun z => ((p.sub k).mp z).elim hr ho
            have st : nw R k = k := Decidable.byContradiction fun z => hA (a.all k hl z)
            obtain ⟨o, h1, h2, h3⟩ := a.goal k0 kA
            have : o = k := h.inj o h1 k hl (by rw [h3, e1, st])
            exact h2 (this ▸ st)
      · rw [if_neg y]; exact p.p4 k hl
  · have hne : k ≠ o := fun z => hkl (z ▸ hol)
    rcases mo.mp hko with hko2 | ek
    · rcases mo.mp ho with ho2 | eo2
      · exact sstep_none (p.p5 k hko2 hkl o ho2 hol eo)
      · subst eo2
        rw [e, if_neg hne]
        cases q : s k with
        | none => simp
        | some v =>
          rw [p.V.mov k v (List.mem_reverse.mpr hko2) q, eo, if_pos rfl]
    · rcases mo.mp ho with ho2 | eo2
      · subst ek; exact absurd eo.symm (p.p9 o ho2 hol k hk)
      · exact absurd (ek.trans eo2.symm) hne
  · rcases mo.mp ho with ho2 | eo2
    · exact sstep_none (p.p8 k hkA o ho2 eo)
    · subst eo2
      have hne : k ≠ o := fun z => hkA (z ▸ kA)
      rw [e, if_neg hne]
      cases q : s k with
      | none => simp
      | some v =>
        have : k ∉ order := fun z => hkA ((p.sub k).mpr (Or.inr z))
        rw [p.V.own k v (fun z => this (List.mem_reverse.mp z)) q, eo, if_pos rfl]
  · obtain ⟨h1, h2⟩ := mr.mp ho
    rcases mo.mp hko with hko2 | ek
    · exact p.p9 k hko2 hkl o h1 eo
    · subst ek; exact h2 (c2 hkl o h1 eo)
theorem PA.go {A : List Int} (h : LeftP R L) (a : Arr R L A) : ∀ (n : Nat) (rest order : List Int), rest.length ≤ n → PA R L A rest order (srun R (st0 (keys R)) order) → PA R L A [] (leaveGo R L n rest order) (srun R (st0 (keys R)) (leaveGo R L n rest order))
  | 0, rest, order, hn, p => by
    have : rest = [] := List.length_eq_zero_iff.mp (by omega)
    subst this; exact p
  | n + 1, rest, order, hn, p => by
    unfold leaveGo
    by_cases c : rest = []
    · rw [if_pos c]; rw [c] at p; exact p
    · rw [if_neg c]
      obtain ⟨k, hk, hc⟩ := can_go h a (fun k hk => (p.sub k).mpr (Or.inl hk)) c
      have : pickGo R L rest ∈ rest ∧ canGo R L rest (pickGo R L rest) = true := by
        unfold pickGo
        cases q : rest.find? (canGo R L rest) with
        | none => exact absurd hc (List.find?_eq_none.mp q k hk)
        | some x => exact ⟨List.mem_of_find?_eq_some q, List.find?_some q⟩
      generalize pickGo R L rest = k0 at this
      refine PA.go h a n _ _ ?_ ?_
      · have : (rest.filter fun o => !decide (o = k0)).length < rest.length := filter_lt this.1 (by simp)
        omega
      · rw [srun_app]
        exact p.step h a this.1 this.2
theorem phaseA_PA (w : WF R) (h : LeftP R L) : PA R L (arriving R L) [] (phaseA R L) (srun R (st0 (keys R)) (phaseA R L)) := by
  have a := arr_of w h
  refine PA.go h a _ _ [] (Nat.le_refl _) ⟨Vis.start R (keys R), fun k => by simp, fun k _ z => (nomatch z), List.Pairwise.nil, fun k hk => ?_, fun k hk => ?_, fun k z => (nomatch z), fun k _ o z => (nomatch z), fun k z => (nomatch z)⟩
  · show st0 (keys R) k ≠ none
    unfold st0
    rw [if_pos (a.sub k hk).1]; exact fun z => nomatch z
  · show st0 (keys R) k ≠ none
    unfold st0
    rw [if_pos (h.sub k hk)]; exact fun z => nomatch z
theorem phaseA_end (w : WF R) (h : LeftP R L) (hk : k ∈ keys R) : srun R (st0 (keys R)) (phaseA R L) k ≠ none ↔ k ∈ L := by
  have a := arr_of w h
  have p := phaseA_PA w h
  have inO : ∀ {x}, x ∈ arriving R L → x ∈ phaseA R L := fun {x} hx => ((p.sub x).mp hx).resolve_left fun z => nomatch z
  refine ⟨fun hs => Decidable.byContradiction fun hl => hs ?_, p.p4 k⟩
  by_cases hA : k ∈ arriving R L
  · obtain ⟨o, h1, h2, h3⟩ := a.goal k hA
    exact p.p5 k (inO hA) hl o (inO (a.all o h1 h2)) h1 h3
  · have : ∃ o ∈ L, nw R o ≠ o ∧ nw R o = k := by
      obtain ⟨o, ho, h3⟩ := h.kept k hk hl
      rcases h3 with h3 | ⟨h3, h4, h5⟩
      · exact ⟨o, ho, fun z => hl (by rw [← h3, z]; exact ho), h3⟩
      · exact a.off k hk hA h3 ⟨o, ho, h4, h5⟩
    obtain ⟨o, h1, h2, h3⟩ := this
    exact p.p8 k hA o (inO (a.all o h1 h2)) h3
theorem srun_idle {R : Rows} {s : Fs} : ∀ (l : List Int), (∀ x ∈ l, s x = none ∨ nw R x = x) → srun R s l = s
  | [], _ => rfl
  | r :: l, h => by
    show srun R (sstep R s r) l = s
    have : sstep R s r = s := funext fun x => if_pos (h r List.mem_cons_self)
    rw [this]
    exact srun_idle l fun x hx => h x (List.mem_cons_of_mem _ hx)
theorem leaving_perm (w : WF R) (h : LeftP R L) : (orderLeaving R L).Perm (keys R) := by
  have a := arr_of w h
  have p := phaseA_PA w h
  refine perm_of_mem ?_ w.nodup fun k => ?_
  · unfold orderLeaving
    refine List.nodup_append.mpr ⟨p.nd, w.nodup.sublist List.filter_sublist, fun x hx y hy e => ?_⟩
    have := (List.mem_filter.mp hy).2
    rw [← e] at this
    simp [hx] at this
  · unfold orderLeaving
    rw [List.mem_append, List.mem_filter]
    constructor
    · rintro (z | z)
      · exact (a.sub k ((p.sub k).mpr (Or.inr z))).1
      · exact z.1
    · intro hk
      by_cases z : k ∈ phaseA R L
      · exact Or.inl z
      · exact Or.inr ⟨hk, by simp [z]⟩
theorem leaving_left (w : WF R) (h : LeftP R L) (ha : L.Pairwise (· < ·)) : leftOf R (orderLeaving R L) = L := by
  have hp := leaving_perm w h
  have a := arr_of w h
  have p := phaseA_PA w h
  have e0 : st0 (orderLeaving R L) = st0 (keys R) := funext fun x => by
    unfold st0
    by_cases c : x ∈ keys R
    · rw [if_pos c, if_pos (hp.mem_iff.mpr c)]
    · rw [if_neg c, if_neg fun z => c (hp.mem_iff.mp z)]
  have e1 : aliveOf R (orderLeaving R L) = srun R (st0 (keys R)) (phaseA R L) := by
    unfold aliveOf
    rw [e0]
    unfold orderLeaving
    rw [srun_app, srun_idle]
    intro x hx
    obtain ⟨h1, h2⟩ := List.mem_filter.mp hx
    have h2 : x ∉ phaseA R L := by simpa using h2
    by_cases c : x ∈ L
    · refine Or.inr (Decidable.byContradiction fun z => h2 ?_)
      exact ((p.sub x).mp (a.all x c z)).resolve_left fun z => nomatch z
    · exact Or.inl (Decidable.byContradiction fun z => c ((phaseA_end w h h1).mp z))
  refine asc_uniq (left_asc w hp) ha fun k => ?_
  rw [left_eq w hp, List.mem_filter, decide_eq_true_eq, e1]
  refine ⟨fun ⟨h1, h2⟩ => (phaseA_end w h h1).mp h2, fun hl => ⟨h.sub k hl, (phaseA_end w h (h.sub k hl)).mpr hl⟩⟩
end
end Rk
/-! part M19 -/
namespace Rk
/-! ### covers of rows by keys, any keys; the least of them -/
def VC (l : Rows) (C : List Int) : Prop := ∀ r ∈ l, r.1 ∈ C ∨ r.2 ∈ C
def LB (l : Rows) (m : Nat) : Prop := ∀ C : List Int, C.Nodup → VC l C → m ≤ C.length
def UB (l : Rows) (m : Nat) : Prop := ∃ C : List Int, C.Nodup ∧ VC l C ∧ C.length ≤ m
theorem hasK_iff {r : Int × Int} {k : Int} : hasK r k = true ↔ k = r.1 ∨ k = r.2 := by
  unfold hasK
  simp
theorem mem_struck {l : Rows} {k : Int} {r : Int × Int} : r ∈ struck l k ↔ r ∈ l ∧ r.1 ≠ k ∧ r.2 ≠ k := by
  unfold struck
  rw [List.mem_filter, Bool.not_eq_true', ← Bool.not_eq_true, hasK_iff, not_or]
  exact and_congr Iff.rfl ⟨fun h => ⟨fun z => h.1 z.symm, fun z => h.2 z.symm⟩, fun h => ⟨fun z => h.1 z.symm, fun z => h.2 z.symm⟩⟩
theorem mem_strikeAll : ∀ {ks : List Int} {l : Rows} {r : Int × Int}, r ∈ strikeAll l ks ↔ r ∈ l ∧ r.1 ∉ ks ∧ r.2 ∉ ks
  | [], l, r => by simp [strikeAll]
  | k :: ks, l, r => by
    show r ∈ strikeAll (struck l k) ks ↔ _
    rw [mem_strikeAll, mem_struck, List.mem_cons, List.mem_cons, not_or, not_or]
    exact ⟨fun ⟨⟨a, b, c⟩, d, e⟩ => ⟨a, ⟨b, d⟩, c, e⟩, fun ⟨a, ⟨b, d⟩, c, e⟩ => ⟨⟨a, b, c⟩, d, e⟩⟩
theorem struck_sub (l : Rows) (k : Int) : (struck l k).Sublist l := List.filter_sublist
theorem strikeAll_sub : ∀ (ks : List Int) (l : Rows), (strikeAll l ks).Sublist l
  | [], l => List.Sublist.refl l
  | k :: ks, l => (strikeAll_sub ks (struck l k)).trans (struck_sub l k)
section
variable {l : Rows} {C : List Int} {m : Nat} {x y : Int}
theorem VC.erase (h : VC l C) (hx : ∀ r ∈ struck l y, r.1 ≠ x ∧ r.2 ≠ x) : VC (struck l y) (C.erase x) := fun r hr => by
  obtain ⟨h1, h2⟩ := hx r hr
  exact (h r ((struck_sub l y).subset hr)).imp (List.mem_erase_of_ne h1).mpr (List.mem_erase_of_ne h2).mpr
theorem erase_len (hx : x ∈ C) : (C.erase x).length + 1 = C.length := by
  rw [List.length_erase_of_mem hx]
  have := List.length_pos_of_mem hx
  omega
theorem LB.strike (h : LB (struck l y) m) (hn : C.Nodup) (hc : VC l C) (hy : y ∈ C) : m + 1 ≤ C.length := by
  have := h _ (hn.sublist List.erase_sublist) (hc.erase (x := y) fun r hr => (mem_struck.mp hr).2)
  have := erase_len hy
  omega
theorem LB.strikes : ∀ {ks : List Int} {l : Rows} {C : List Int}, LB (strikeAll l ks) m → ks.Nodup → C.Nodup → VC l C → (∀ k ∈ ks, k ∈ C) → m + ks.length ≤ C.length
  | [], l, C, h, _, hn, hc, _ => h C hn hc
  | k :: ks, l, C, h, hk, hn, hc, hs => by
    rw [List.nodup_cons] at hk
    have := LB.strikes (ks := ks) (l := struck l k) (C := C.erase k) h hk.2 (hn.sublist List.erase_sublist) (hc.erase (x := k) fun r hr => (mem_struck.mp hr).2) fun x hx => (List.mem_erase_of_ne fun z => hk.1 (by rw [← z]; exact hx)).mpr (hs x (List.mem_cons_of_mem _ hx))
    have := erase_len (hs k List.mem_cons_self)
    simp only [List.length_cons]
    omega
/-- the other end of a row one of whose ends no other row has -/
theorem leaf_of {e : Int × Int} (he : e ∈ sEnds l) : ∃ r ∈ l, ∃ x, e.1 = r.1 ∧ ((x = r.1 ∧ e.2 = r.2) ∨ (x = r.2 ∧ e.2 = r.1)) ∧ ∀ q ∈ l, q.1 = x ∨ q.2 = x → q = r := by
  obtain ⟨r, hr, h⟩ := sEnds_mem he
  have one : ∀ x, (x = r.1 ∨ x = r.2) → deg l x = 1 → ∀ q ∈ l, q.1 = x ∨ q.2 = x → q = r := fun x hx hd q hq hqx => by
    unfold deg at hd
    obtain ⟨a, ea⟩ := List.length_eq_one_iff.mp hd
    have m1 : q ∈ l.filter fun r => hasK r x := List.mem_filter.mpr ⟨hq, hasK_iff.mpr (hqx.imp Eq.symm Eq.symm)⟩
    have m2 : r ∈ l.filter fun r => hasK r x := List.mem_filter.mpr ⟨hr, hasK_iff.mpr hx⟩
    rw [ea, List.mem_singleton] at m1 m2
    exact m1.trans m2.symm
  rcases h with ⟨rfl, hd⟩ | ⟨rfl, hd⟩
  · exact ⟨r, hr, r.1, rfl, Or.inl ⟨rfl, rfl⟩, one r.1 (Or.inl rfl) hd⟩
  · exact ⟨r, hr, r.2, rfl, Or.inr ⟨rfl, rfl⟩, one r.2 (Or.inr rfl) hd⟩
theorem LB.leaf {e : Int × Int} (he : e ∈ sEnds l) (h : LB (struck l e.2) m) : LB l (m + 1) := fun C hn hc => by
  obtain ⟨r, hr, x, e1, e2, e3⟩ := leaf_of he
  by_cases hy : e.2 ∈ C
  · exact h.strike hn hc hy
  · have hx : x ∈ C := by
      rcases e2 with ⟨rfl, z⟩ | ⟨rfl, z⟩
      · exact (hc r hr).resolve_right (z ▸ hy)
      · exact (hc r hr).resolve_left (z ▸ hy)
    have hy2 : r.1 = e.2 ∨ r.2 = e.2 := by
      rcases e2 with ⟨_, z⟩ | ⟨_, z⟩
      · exact Or.inr z.symm
      · exact Or.inl z.symm
    have := h _ (hn.sublist List.erase_sublist) (hc.erase (x := x) fun q hq => by
      obtain ⟨q1, q2, q3⟩ := mem_struck.mp hq
      refine ⟨fun z => ?_, fun z => ?_⟩
      · have := e3 q q1 (Or.inl z); subst this; exact hy2.elim q2 q3
      · have := e3 q q1 (Or.inr z); subst this; exact hy2.elim q2 q3)
    have := erase_len hx
    omega
theorem UB.cons {l : Rows} {C : List Int} (y : Int) (hn : C.Nodup) (hc : VC (struck l y) C) : ∃ D : List Int, D.Nodup ∧ VC l D ∧ D.length ≤ C.length + 1 ∧ y ∈ D ∧ ∀ x ∈ C, x ∈ D := by
  have key : ∀ D : List Int, y ∈ D → (∀ x ∈ C, x ∈ D) → VC l D := fun D h1 h2 r hr => by
    by_cases c : r.1 = y
    · exact Or.inl (c ▸ h1)
    · by_cases c2 : r.2 = y
      · exact Or.inr (c2 ▸ h1)
      · exact (hc r (mem_struck.mpr ⟨hr, c, c2⟩)).imp (h2 _) (h2 _)
  by_cases hy : y ∈ C
  · exact ⟨C, hn, key C hy fun _ z => z, by omega, hy, fun _ z => z⟩
  · exact ⟨y :: C, List.nodup_cons.mpr ⟨hy, hn⟩, key _ List.mem_cons_self fun x hx => List.mem_cons_of_mem _ hx, by simp, List.mem_cons_self, fun x hx => List.mem_cons_of_mem _ hx⟩
theorem UB.strike (h : UB (struck l y) m) : UB l (m + 1) := by
  obtain ⟨C, hn, hc, hl⟩ := h
  obtain ⟨D, h1, h2, h3, _⟩ := UB.cons y hn hc
  exact ⟨D, h1, h2, by omega⟩
theorem UB.strikes : ∀ {ks : List Int} {l : Rows}, UB (strikeAll l ks) m → ∃ D : List Int, D.Nodup ∧ VC l D ∧ D.length ≤ m + ks.length ∧ ∀ k ∈ ks, k ∈ D
  | [], l, ⟨C, hn, hc, hl⟩ => ⟨C, hn, hc, hl, fun _ z => nomatch z⟩
  | k :: ks, l, h => by
    obtain ⟨C, hn, hc, hl, hs⟩ := UB.strikes (ks := ks) (l := struck l k) h
    obtain ⟨D, h1, h2, h3, h4, h5⟩ := UB.cons k hn hc
    refine ⟨D, h1, h2, by simp only [List.length_cons]; omega, fun x hx => ?_⟩
    rcases List.mem_cons.mp hx with rfl | hx
    · exact h4
    · exact h5 x (hs x hx)
end
theorem peel_ind {Q : Rows → List Int → Prop} (hs : ∀ l f e, e ∈ sEnds l → Q l f → Q (struck l e.2) (f ++ [e.1])) : ∀ (n : Nat) (l : Rows) (f : List Int), Q l f → Q (peelGo n l f).1 (peelGo n l f).2
  | 0, l, f, h => h
  | n + 1, l, f, h => by
    unfold peelGo
    cases q : sEnds l with
    | nil => exact h
    | cons e es => exact peel_ind hs n _ _ (hs l f e (by rw [q]; exact List.mem_cons_self) h)
theorem peel_end : ∀ (n : Nat) (l : Rows) (f : List Int), l.length ≤ n → sEnds (peelGo n l f).1 = []
  | 0, l, f, h => by
    have : l = [] := List.length_eq_zero_iff.mp (by omega)
    subst this; rfl
  | n + 1, l, f, h => by
    unfold peelGo
    cases q : sEnds l with
    | nil => exact q
    | cons e es =>
      refine peel_end n _ _ ?_
      have : (struck l e.2).length < l.length := struck_lt (e := e) (by rw [q]; exact List.mem_cons_self)
      omega
theorem peel_LB (n : Nat) (l : Rows) {m : Nat} (h : LB (peelGo n l []).1 m) : LB l (m + (peelGo n l []).2.length) := by
  have := peel_ind (Q := fun l' f' => ∀ m, LB l' m → LB l (m + f'.length)) (fun l' f' e he q m h => by
    rw [List.length_append]
    have := q (m + 1) (LB.leaf he h)
    rw [show m + 1 + f'.length = m + (f'.length + [e.1].length) from by simp; omega] at this
    exact this) n l [] fun m h => h
  exact this m h
theorem peel_UB (n : Nat) (l : Rows) {m : Nat} (h : UB (peelGo n l []).1 m) : UB l (m + (peelGo n l []).2.length) := by
  have := peel_ind (Q := fun l' f' => ∀ m, UB l' m → UB l (m + f'.length)) (fun l' f' e he q m h => by
    rw [List.length_append]
    have := q (m + 1) (UB.strike h)
    rw [show m + 1 + f'.length = m + (f'.length + [e.1].length) from by simp; omega] at this
    exact this) n l [] fun m h => h
  exact this m h
theorem peel_sub (n : Nat) (l : Rows) (f : List Int) : (peelGo n l f).1.Sublist l :=
  peel_ind (Q := fun l' _ => l'.Sublist l) (fun l' f' e _ h => (struck_sub l' e.2).trans h) n l f (List.Sublist.refl l)
end Rk
/-! part M20 -/
namespace Rk
/-! ### rows of which each key is held by two: rings -/
theorem sub_perm : ∀ {a b : List Int}, a.Nodup → (∀ x ∈ a, x ∈ b) → b.length ≤ a.length → a.Perm b
  | [], b, _, _, h => by
    have : b = [] := List.length_eq_zero_iff.mp (by simpa using h)
    subst this; exact List.Perm.refl _
  | x :: a, b, hn, hs, h => by
    rw [List.nodup_cons] at hn
    have hx := hs x List.mem_cons_self
    have hl := erase_len hx
    have := sub_perm (a := a) (b := b.erase x) hn.2 (fun y hy => (List.mem_erase_of_ne fun z => hn.1 (by rw [← z]; exact hy)).mpr (hs y (List.mem_cons_of_mem _ hy))) (by simp only [List.length_cons] at h; omega)
    exact (this.cons x).trans (List.perm_cons_erase hx).symm
theorem map_inj {α β : Type} {f : α → β} {l : List α} (h : (l.map f).Nodup) {a b : α} (ha : a ∈ l) (hb : b ∈ l) (e : f a = f b) : a = b := by
  induction l with
  | nil => cases ha
  | cons c l ih =>
    rw [List.map_cons, List.nodup_cons] at h
    rcases List.mem_cons.mp ha with ha | ha
    · rcases List.mem_cons.mp hb with hb | hb
      · exact ha.trans hb.symm
      · exact absurd (List.mem_map.mpr ⟨b, hb, by rw [← e, ha]⟩) h.1
    · rcases List.mem_cons.mp hb with hb | hb
      · exact absurd (List.mem_map.mpr ⟨a, ha, by rw [e, hb]⟩) h.1
      · exact ih h.2 ha hb
structure EndR (R l : Rows) : Prop where
  sub : l.Sublist R
  noloop : ∀ r ∈ l, r.1 ≠ r.2
  ends : sEnds l = []
section
variable {R l : Rows} {k : Int} {r C : List Int}
theorem EndR.two (w : WF R) (h : EndR R l) (hk : k ∈ keys l) : ∃ q ∈ l, q.2 = k := by
  obtain ⟨n, hr⟩ := mem_keys.mp hk
  have hd : deg l k ≠ 1 := fun hd => by
    have : (k, n) ∈ sEnds l := List.mem_flatMap.mpr ⟨(k, n), hr, List.mem_append_left _ (by
      show (k, n) ∈ (if deg l k = 1 then [(k, n)] else [])
      rw [if_pos hd]; exact List.mem_cons_self)⟩
    rw [h.ends] at this; cases this
  have hln : (l.map (·.1)).Nodup := w.nodup.sublist (h.sub.map _)
  unfold deg at hd
  cases q : l.filter fun r => hasK r k with
  | nil =>
    have : (k, n) ∈ l.filter fun r => hasK r k := List.mem_filter.mpr ⟨hr, hasK_iff.mpr (Or.inl rfl)⟩
    rw [q] at this; cases this
  | cons a t =>
    cases t with
    | nil => rw [q] at hd; exact absurd rfl hd
    | cons b t =>
      have ha : a ∈ l.filter fun r => hasK r k := by rw [q]; simp
      have hb : b ∈ l.filter fun r => hasK r k := by rw [q]; simp
      obtain ⟨a1, a2⟩ := List.mem_filter.mp ha
      obtain ⟨b1, b2⟩ := List.mem_filter.mp hb
      rcases hasK_iff.mp a2 with a2 | a2
      · rcases hasK_iff.mp b2 with b2 | b2
        · have e : a = b := map_inj hln a1 b1 (a2.symm.trans b2)
          have nd : (l.filter fun r => hasK r k).Nodup := (rows_nodup hln).sublist List.filter_sublist
          rw [q, e] at nd
          exact absurd List.mem_cons_self (List.nodup_cons.mp nd).1
        · exact ⟨b, b1, b2.symm⟩
      · exact ⟨a, a1, a2.symm⟩
theorem EndR.perm (w : WF R) (h : EndR R l) : (keys l).Perm (l.map (·.2)) :=
  sub_perm (w.nodup.sublist (h.sub.map _)) (fun x hx => let ⟨q, h1, h2⟩ := h.two w hx; List.mem_map.mpr ⟨q, h1, h2⟩) (by unfold keys; simp)
theorem EndR.row (w : WF R) (h : EndR R l) (hk : k ∈ keys l) : (k, nw R k) ∈ l := by
  obtain ⟨n, hr⟩ := mem_keys.mp hk
  rw [nw_of_mem w (h.sub.subset hr)]; exact hr
theorem EndR.next (w : WF R) (h : EndR R l) (hk : k ∈ keys l) : nw R k ∈ keys l := (h.perm w).mem_iff.mpr (List.mem_map.mpr ⟨_, h.row w hk, rfl⟩)
theorem EndR.inj (w : WF R) (h : EndR R l) {a b : Int} (ha : a ∈ keys l) (hb : b ∈ keys l) (e : nw R a = nw R b) : a = b := by
  have nd : (l.map (·.2)).Nodup := (h.perm w).nodup_iff.mp (w.nodup.sublist (h.sub.map _))
  exact congrArg Prod.fst (map_inj nd (h.row w ha) (h.row w hb) e)
theorem keys_sub (h : l.Sublist R) (hk : k ∈ keys l) : k ∈ keys R := (h.map (·.1)).subset hk
theorem EndR.wait (w : WF R) (h : EndR R l) (hk : k ∈ keys l) : waited R k = some (nw R k) := by
  unfold waited
  rw [if_pos]
  exact ⟨fun z => h.noloop _ (h.row w hk) z.symm, keys_sub h.sub (h.next w hk)⟩
theorem EndR.ring (w : WF R) (h : EndR R l) (hk : k ∈ keys l) : ∃ r, Rg R r ∧ k ∈ r ∧ ∀ x ∈ r, x ∈ keys l := by
  have hp := path_all (R := R) (Q := fun x => x ∈ keys l) hk fun a j ha e => by
    rw [h.wait w ha] at e; cases e; exact h.next w ha
  have hl := hp _ (lst_mem (path_ne R k))
  have hw := h.wait w hl
  have hj := path_cl (keys_sub h.sub hk) _ hw
  have hc : waited R (lst (pathOf R k)) = some k := by
    rw [hw]
    congr 1
    have hwl := h.wait w hl
    generalize ej : nw R (lst (pathOf R k)) = j at *
    obtain ⟨a, b, e⟩ := List.append_of_mem hj
    rcases List.eq_nil_or_concat a with ea | ⟨a, p, ea⟩
    · subst ea
      obtain ⟨g, eg⟩ := path_head R k
      rw [eg] at e
      exact (List.cons.inj e).1.symm
    · rw [List.concat_eq_append] at ea
      subst ea
      exfalso
      have hch := path_ch R k
      have hnd := path_nodup R k
      have hpk : p ∈ keys l := hp p (by rw [e]; simp)
      have el : lst (pathOf R k) = lst (j :: b) := by
        rw [e]
        exact lst_app (by simp)
      rw [e] at hch hnd
      have hw2 : waited R p = some j := by
        have := hch.link (by simp)
        rwa [lst_snoc] at this
      rw [h.wait w hpk] at hw2
      have ep := h.inj w hpk hl ((Option.some.inj hw2).trans ej.symm)
      have m2 : p ∈ j :: b := by
        have := lst_mem (l := j :: b) (by simp)
        rwa [← el, ← ep] at this
      exact (List.nodup_append.mp hnd).2.2 p (by simp) p m2 rfl
  obtain ⟨r, g, p⟩ := ring_of (keys_sub h.sub hk) hc
  refine ⟨r, g, p.mem_iff.mpr ?_, fun x hx => hp x (p.mem_iff.mp hx)⟩
  obtain ⟨g, eg⟩ := path_head R k
  rw [eg]; exact List.mem_cons_self
theorem rings_nodup (w : WF R) : (rings R).Nodup := by
  unfold rings
  refine List.pairwise_map.mpr ((w.nodup.sublist List.filter_sublist).imp fun {a b} hne e => hne ?_)
  obtain ⟨g1, e1⟩ := path_head R a
  obtain ⟨g2, e2⟩ := path_head R b
  rw [e1, e2] at e
  exact (List.cons.inj e).1
theorem rings_apart (w : WF R) : (rings R).Pairwise fun a b => ∀ x ∈ a, x ∉ b :=
  List.Pairwise.imp_of_mem (fun {a b} ha hb hne x hx hy => hne ((mem_rings.mp ha).same (mem_rings.mp hb) hx hy)) (rings_nodup w)
theorem Rg.nwperm (g : Rg R r) : r.Perm (r.map (nw R)) :=
  sub_perm g.nodup (fun x hx => let ⟨j, h1, h2⟩ := g.pred hx; List.mem_map.mpr ⟨j, h1, (waited_some h2).1.symm⟩) (by simp)
theorem Rg.hd (g : Rg R r) : r.headD 0 ∈ r := by
  cases r with
  | nil => exact absurd rfl g.ne
  | cons a t => exact List.mem_cons_self
theorem len_two {α : Type} {p q : α → Bool} : ∀ {l : List α}, (∀ k ∈ l, p k = true ∨ q k = true) → l.length ≤ l.countP p + l.countP q
  | [], _ => Nat.zero_le _
  | a :: l, h => by
    have := len_two (l := l) fun k hk => h k (List.mem_cons_of_mem _ hk)
    rw [List.countP_cons, List.countP_cons, List.length_cons]
    rcases h a List.mem_cons_self with h | h
    · rw [if_pos h]; split <;> omega
    · rw [if_pos h]; split <;> omega
theorem Rg.half (g : Rg R r) (hn : C.Nodup) (hc : ∀ k ∈ r, k ∈ C ∨ nw R k ∈ C) : (r.length + 1) / 2 ≤ (C.filter fun x => decide (x ∈ r)).length := by
  have h1 : r.length ≤ r.countP (fun k => decide (k ∈ C)) + r.countP (fun k => decide (nw R k ∈ C)) := len_two fun k hk => (hc k hk).imp decide_eq_true decide_eq_true
  have h2 : r.countP (fun k => decide (nw R k ∈ C)) = r.countP (fun k => decide (k ∈ C)) := by
    rw [g.nwperm.countP_eq (fun k => decide (k ∈ C)), List.countP_map]; rfl
  have h3 : (r.filter fun k => decide (k ∈ C)).Perm (C.filter fun x => decide (x ∈ r)) := perm_of_mem (g.nodup.sublist List.filter_sublist) (hn.sublist List.filter_sublist) fun a => by
    rw [List.mem_filter, List.mem_filter]; simp [And.comm]
  rw [h2, List.countP_eq_length_filter, h3.length_eq] at h1
  omega
def halfSum (rs : List (List Int)) : Nat := (rs.map fun r => (r.length + 1) / 2).sum
theorem half_sum : ∀ {rs : List (List Int)} {C : List Int}, (rs.Pairwise fun a b => ∀ x ∈ a, x ∉ b) → (∀ r ∈ rs, (r.length + 1) / 2 ≤ (C.filter fun x => decide (x ∈ r)).length) → halfSum rs ≤ C.length
  | [], C, _, _ => Nat.zero_le _
  | r :: rs, C, hp, hr => by
    rw [List.pairwise_cons] at hp
    have h1 := hr r List.mem_cons_self
    have h2 := half_sum (rs := rs) (C := C.filter fun x => !decide (x ∈ r)) hp.2 fun q hq => by
      refine Nat.le_trans (hr q (List.mem_cons_of_mem _ hq)) (Nat.le_of_eq ?_)
      rw [List.filter_filter]
      congr 1
      refine List.filter_congr fun x _ => ?_
      by_cases c : x ∈ q
      · have : x ∉ r := fun z => hp.1 q hq x z c
        simp [c, this]
      · simp [c]
    have h3 : (C.filter fun x => decide (x ∈ r)).length + (C.filter fun x => !decide (x ∈ r)).length = C.length := by
      rw [← List.countP_eq_length_filter, ← List.countP_eq_length_filter, List.length_eq_countP_add_countP (fun x => decide (x ∈ r))]
      congr 1
      refine List.countP_congr fun x _ => ?_
      simp
    have h4 : halfSum (r :: rs) = (r.length + 1) / 2 + halfSum rs := by unfold halfSum; rw [List.map_cons, List.sum_cons]
    omega
def live (R l : Rows) : List (List Int) := (rings R).filter fun r => decide (r.headD 0 ∈ l.map (·.1))
theorem EndR.live (w : WF R) (h : EndR R l) : r ∈ live R l ↔ Rg R r ∧ ∀ x ∈ r, x ∈ keys l := by
  unfold Rk.live
  rw [List.mem_filter, decide_eq_true_eq, mem_rings]
  constructor
  · rintro ⟨g, hh⟩
    obtain ⟨q, g2, h1, h2⟩ := h.ring w hh
    have := g.same g2 g.hd h1
    exact ⟨g, this ▸ h2⟩
  · rintro ⟨g, hh⟩
    exact ⟨g, hh _ g.hd⟩
theorem live_apart (w : WF R) : (Rk.live R l).Pairwise fun a b => ∀ x ∈ a, x ∉ b := (rings_apart w).sublist List.filter_sublist
theorem EndR.LB (w : WF R) (h : EndR R l) : LB l (halfSum (Rk.live R l)) := fun C hn hc =>
  half_sum (live_apart w) fun r hr => by
    obtain ⟨g, hk⟩ := (h.live w).mp hr
    exact g.half hn fun k hk2 => hc _ (h.row w (hk k hk2))
def evs (r : List Int) : List Int := (List.range ((r.length + 1) / 2)).map fun m => r.getD (2 * m) 0
theorem Ch.at : ∀ {r : List Int} {i : Nat} {a b : Int}, Ch R r → r[i]? = some a → r[i + 1]? = some b → waited R a = some b
  | [], i, a, b, _, h, _ => by simp at h
  | [x], i, a, b, _, _, h => by simp at h
  | x :: y :: r, 0, a, b, hc, h1, h2 => by
    simp at h1 h2
    subst h1; subst h2
    exact hc.1
  | x :: y :: r, i + 1, a, b, hc, h1, h2 => Ch.at (r := y :: r) (i := i) hc.2 (by simpa using h1) (by simpa using h2)
theorem evs_mem {m : Nat} (h : m < (r.length + 1) / 2) : r.getD (2 * m) 0 ∈ evs r := List.mem_map.mpr ⟨m, List.mem_range.mpr h, rfl⟩
theorem Rg.ch (g : Rg R r) : Ch R r := by obtain ⟨h, _, e, _⟩ := g.head; rw [e]; exact path_ch R h
theorem Rg.close (g : Rg R r) : waited R (lst r) = some (r.headD 0) := by
  obtain ⟨h, _, e, h2, _⟩ := g.head
  obtain ⟨t, et⟩ := path_head R h
  rw [h2, e, et]; rfl
theorem Rg.next (g : Rg R r) {i : Nat} (h : r[i]? = some k) : nw R k = r.getD (if i + 1 < r.length then i + 1 else 0) 0 := by
  obtain ⟨hi, e⟩ := List.getElem?_eq_some_iff.mp h
  by_cases c : i + 1 < r.length
  · rw [if_pos c]
    have h2 : r[i + 1]? = some r[i + 1] := List.getElem?_eq_getElem c
    have := (waited_some (g.ch.at h h2)).1
    rw [← this, List.getD_eq_getElem?_getD, h2]; rfl
  · rw [if_neg c]
    have : lst r = k := by
      unfold lst
      rw [List.getLast?_eq_getElem?, show r.length - 1 = i from by omega, h]; rfl
    have h3 := g.close
    rw [this] at h3
    rw [← (waited_some h3).1]
    cases r with
    | nil => simp at hi
    | cons a t => rfl
theorem Rg.evs (g : Rg R r) (hk : k ∈ r) : k ∈ Rk.evs r ∨ nw R k ∈ Rk.evs r := by
  obtain ⟨i, h⟩ := List.mem_iff_getElem?.mp hk
  obtain ⟨hi, e⟩ := List.getElem?_eq_some_iff.mp h
  have hn := g.next h
  have hg : r.getD i 0 = k := by rw [List.getD_eq_getElem?_getD, h]; rfl
  by_cases c : i % 2 = 0
  · refine Or.inl ?_
    have := evs_mem (r := r) (m := i / 2) (by omega)
    rwa [show 2 * (i / 2) = i from by omega, hg] at this
  · refine Or.inr ?_
    rw [hn]
    split
    · have := evs_mem (r := r) (m := (i + 1) / 2) (by omega)
      rwa [show 2 * ((i + 1) / 2) = i + 1 from by omega] at this
    · exact evs_mem (r := r) (m := 0) (by omega)
theorem EndR.UB (w : WF R) (h : EndR R l) : UB l (halfSum (Rk.live R l)) := by
  refine ⟨ded ((Rk.live R l).flatMap Rk.evs), nodup_ded _, fun q hq => ?_, Nat.le_trans (ded_len _) (Nat.le_of_eq ?_)⟩
  · have hk : q.1 ∈ keys l := List.mem_map.mpr ⟨q, hq, rfl⟩
    obtain ⟨r, g, h1, h2⟩ := h.ring w hk
    have hr := (h.live w).mpr ⟨g, h2⟩
    have e : nw R q.1 = q.2 := nw_of_mem w (h.sub.subset hq)
    rw [mem_ded, mem_ded, ← e]
    exact (g.evs h1).imp (fun z => List.mem_flatMap.mpr ⟨r, hr, z⟩) fun z => List.mem_flatMap.mpr ⟨r, hr, z⟩
  · rw [List.length_flatMap]
    unfold halfSum
    congr 1
    refine List.map_congr_left fun r _ => ?_
    unfold Rk.evs
    rw [List.length_map, List.length_range]
end
end Rk
/-! part M21 -/
namespace Rk
/-! ### least_with, first_cover -/
def leastN (R : Rows) (ch : List Int) : Nat :=
  let l1 := strikeAll R ch
  let l2 := strikeAll l1 (selfs l1)
  let p := peelGo l2.length l2 []
  ch.length + (selfs l1).length + p.2.length + halfSum (live R p.1)
theorem fdiv_half (n : Nat) : ((n : Int) + 1).fdiv 2 = ((n + 1) / 2 : Nat) := by
  rw [Int.fdiv_eq_ediv_of_nonneg _ (by decide)]
  omega
theorem sum_cast : ∀ (l : List (List Int)), (l.map fun r => ((r.length : Int) + 1).fdiv 2).sum = (halfSum l : Nat)
  | [] => rfl
  | r :: l => by
    rw [List.map_cons, List.sum_cons, sum_cast l, fdiv_half]
    unfold halfSum
    rw [List.map_cons, List.sum_cons]
    omega
theorem half_cast (R l : Rows) (a : Nat) : ((a : Nat) : Int) + (ringHalf l (rings R)).sum = ((a + halfSum (live R l) : Nat) : Int) := by
  unfold ringHalf
  rw [sum_cast, Int.natCast_add]
  rfl
theorem least_eq (R : Rows) (ch : List Int) : least R ch = (leastN R ch : Nat) := half_cast R _ _
theorem mem_selfs {l : Rows} {k : Int} : k ∈ selfs l ↔ (k, k) ∈ l := by
  unfold selfs
  rw [List.mem_map]
  constructor
  · rintro ⟨r, hr, rfl⟩
    obtain ⟨h1, h2⟩ := List.mem_filter.mp hr
    have h2 : r.1 = r.2 := of_decide_eq_true h2
    obtain ⟨a, b⟩ := r
    cases h2
    exact h1
  · intro h
    exact ⟨(k, k), List.mem_filter.mpr ⟨h, decide_eq_true rfl⟩, rfl⟩
section
variable {R l : Rows} {ch C F : List Int} {k : Int}
theorem endR_of (w : WF R) (h : l.Sublist R) (n : Nat) (hn : (strikeAll l (selfs l)).length ≤ n) : EndR R (peelGo n (strikeAll l (selfs l)) []).1 := by
  refine ⟨((peel_sub _ _ _).trans (strikeAll_sub _ _)).trans h, fun r hr e => ?_, peel_end _ _ _ hn⟩
  have h1 := mem_strikeAll.mp ((peel_sub _ _ _).subset hr)
  refine h1.2.1 (mem_selfs.mpr ?_)
  obtain ⟨a, b⟩ := r
  cases e
  exact h1.1
theorem selfs_nodup (w : WF R) (h : l.Sublist R) : (selfs l).Nodup := ((show (R.map (·.1)).Nodup from w.nodup).sublist (h.map (·.1))).sublist (List.filter_sublist.map _)
theorem leastN_le (w : WF R) (hch : ch.Nodup) (hn : C.Nodup) (hc : VC R C) (hs : ∀ k ∈ ch, k ∈ C) : leastN R ch ≤ C.length := by
  have hsub := strikeAll_sub ch R
  have h1 := peel_LB _ _ ((endR_of w hsub _ (Nat.le_refl _)).LB w)
  have h2 : LB (strikeAll R ch) (halfSum (live R (peelGo (strikeAll (strikeAll R ch) (selfs (strikeAll R ch))).length (strikeAll (strikeAll R ch) (selfs (strikeAll R ch))) []).1) + (peelGo (strikeAll (strikeAll R ch) (selfs (strikeAll R ch))).length (strikeAll (strikeAll R ch) (selfs (strikeAll R ch))) []).2.length + (selfs (strikeAll R ch)).length) := fun D hn hc => LB.strikes h1 (selfs_nodup w hsub) hn hc fun k hk => (hc _ (mem_selfs.mp hk)).elim id id
  have h3 := LB.strikes h2 hch hn hc hs
  unfold leastN
  show _ + _ + _ + _ ≤ _
  omega
theorem leastN_UB (w : WF R) (ch : List Int) : ∃ C : List Int, C.Nodup ∧ VC R C ∧ C.length ≤ leastN R ch ∧ ∀ k ∈ ch, k ∈ C := by
  have hsub := strikeAll_sub ch R
  have h1 := peel_UB _ _ ((endR_of w hsub _ (Nat.le_refl _)).UB w)
  obtain ⟨D, d1, d2, d3, _⟩ := UB.strikes h1
  obtain ⟨C, c1, c2, c3, c4⟩ := UB.strikes (ks := ch) (l := R) ⟨D, d1, d2, d3⟩
  refine ⟨C, c1, c2, ?_, c4⟩
  unfold leastN
  show _ ≤ _ + _ + _ + _
  omega
theorem leastN_ge (R : Rows) (ch : List Int) : ch.length ≤ leastN R ch := by
  unfold leastN
  show _ ≤ _ + _ + _ + _
  omega
theorem leastN_mono (w : WF R) (ch : List Int) : leastN R [] ≤ leastN R ch := by
  obtain ⟨C, c1, c2, c3, _⟩ := leastN_UB w ch
  exact Nat.le_trans (leastN_le w List.Pairwise.nil c1 c2 fun _ z => nomatch z) c3
theorem firstGo_spec {many : Int} {m : Nat} (hm : many = (m : Nat)) : ∀ (ws acc : List Int), ∃ s, firstGo R many ws acc = acc ++ s ∧ s.Sublist ws ∧ (leastN R acc = m → leastN R (acc ++ s) = m) ∧
    ∀ x ∈ ws, x ∉ s → ∃ t u, acc ++ s = t ++ u ∧ ¬ (t.length < m ∧ leastN R (t ++ [x]) = m)
  | [], acc => ⟨[], by unfold firstGo; simp, List.Sublist.refl _, fun h => by simpa using h, fun _ z => nomatch z⟩
  | k :: ws, acc => by
    unfold firstGo
    have e : ((acc.length : Int) < many ∧ least R (acc ++ [k]) = many) ↔ (acc.length < m ∧ leastN R (acc ++ [k]) = m) := by
      rw [least_eq, hm]; omega
    by_cases c : acc.length < m ∧ leastN R (acc ++ [k]) = m
    · rw [if_pos (e.mpr c)]
      obtain ⟨s, h1, h2, h3, h4⟩ := firstGo_spec hm ws (acc ++ [k])
      refine ⟨k :: s, by rw [h1]; simp, h2.cons_cons k, fun _ => ?_, fun x hx hs => ?_⟩
      · have := h3 c.2
        rwa [List.append_assoc] at this
      · rw [List.mem_cons, not_or] at hs
        obtain ⟨t, u, h5, h6⟩ := h4 x ((List.mem_cons.mp hx).resolve_left hs.1) hs.2
        exact ⟨t, u, by rw [← h5]; simp, h6⟩
    · rw [if_neg fun z => c (e.mp z)]
      obtain ⟨s, h1, h2, h3, h4⟩ := firstGo_spec hm ws acc
      refine ⟨s, h1, h2.cons k, h3, fun x hx hs => ?_⟩
      rcases List.mem_cons.mp hx with rfl | hx
      · exact ⟨acc, s, rfl, c⟩
      · exact h4 x hx hs
theorem first_sub (R : Rows) : (firstCover R).Sublist (wanted R) := by
  obtain ⟨s, h1, h2, _⟩ := firstGo_spec (R := R) (least_eq R []) (wanted R) []
  unfold firstCover
  rw [h1]; exact h2
theorem wanted_asc (R : Rows) : (wanted R).Pairwise (· < ·) := sset_asc _
theorem first_asc (R : Rows) : (firstCover R).Pairwise (· < ·) := (wanted_asc R).sublist (first_sub R)
theorem first_nodup (R : Rows) : (firstCover R).Nodup := nodup_asc (first_asc R)
/-- the least number, and all else that is known of the first cover -/
theorem first_least (w : WF R) : leastN R (firstCover R) = leastN R [] ∧ (firstCover R).length = leastN R [] ∧ VC R (firstCover R) := by
  obtain ⟨s, h1, h2, h3, h4⟩ := firstGo_spec (R := R) (least_eq R []) (wanted R) []
  have eF : firstCover R = s := by unfold firstCover; rw [h1]; rfl
  rw [List.nil_append] at h3 h4
  rw [← eF] at h2 h3 h4
  have e1 := h3 rfl
  have hlow : ∀ {C : List Int}, C.Nodup → VC R C → leastN R [] ≤ C.length := fun hn hc => leastN_le w List.Pairwise.nil hn hc fun _ z => nomatch z
  obtain ⟨C, c1, c2, c3, c4⟩ := leastN_UB w (firstCover R)
  rw [e1] at c3
  have c5 : C.length = leastN R [] := Nat.le_antisymm c3 (hlow c1 c2)
  have hfl := leastN_ge R (firstCover R)
  rw [e1] at hfl
  have hlen : (firstCover R).length = leastN R [] := by
    refine Nat.le_antisymm hfl (Nat.le_of_not_lt fun hlt => ?_)
    have hu : ∃ u ∈ C, u ∉ firstCover R := Decidable.byContradiction fun z => by
      have : C.length ≤ (firstCover R).length := c1.length_le_of_subset fun x hx => Decidable.byContradiction fun y => z ⟨x, hx, y⟩
      omega
    obtain ⟨u, hu, hun⟩ := hu
    have hD : ∃ D : List Int, D.Nodup ∧ VC R D ∧ D.length ≤ leastN R [] ∧ (∀ k ∈ firstCover R, k ∈ D) ∧ ∃ x ∈ D, x ∈ wanted R ∧ x ∉ firstCover R := by
      by_cases hw : u ∈ wanted R
      · exact ⟨C, c1, c2, c3, c4, u, hu, hw, hun⟩
      · have hno : ∀ q ∈ R, q.2 ≠ u := fun q hq e => hw (mem_wanted.mpr (List.mem_map.mpr ⟨q, hq, e⟩))
        have hel := erase_len hu
        have en : (C.erase u).Nodup := c1.sublist List.erase_sublist
        have hnew : ∃ q ∈ R, q.1 = u ∧ q.2 ∉ C := Decidable.byContradiction fun z => by
          have := hlow en fun q hq => by
            by_cases e : q.1 = u
            · have : q.2 ∈ C := Decidable.byContradiction fun y => z ⟨q, hq, e, y⟩
              exact Or.inr ((List.mem_erase_of_ne (hno q hq)).mpr this)
            · exact (c2 q hq).imp (List.mem_erase_of_ne e).mpr (List.mem_erase_of_ne (hno q hq)).mpr
          omega
        obtain ⟨q, hq, e1, e2⟩ := hnew
        refine ⟨q.2 :: C.erase u, List.nodup_cons.mpr ⟨fun z => e2 (List.mem_of_mem_erase z), en⟩, fun r hr => ?_, by simp only [List.length_cons]; omega, fun k hk => ?_, q.2, List.mem_cons_self, mem_wanted.mpr (List.mem_map.mpr ⟨q, hq, rfl⟩), fun z => e2 (c4 _ z)⟩
        · by_cases e : r.1 = u
          · have : r = q := map_inj (f := fun r : Int × Int => r.1) w.nodup hr hq (e.trans e1.symm)
            exact Or.inr (this ▸ List.mem_cons_self)
          · exact (c2 r hr).imp (fun z => List.mem_cons_of_mem _ ((List.mem_erase_of_ne e).mpr z)) fun z => List.mem_cons_of_mem _ ((List.mem_erase_of_ne (hno r hr)).mpr z)
        · exact List.mem_cons_of_mem _ ((List.mem_erase_of_ne fun z => hun (by rw [← z]; exact hk)).mpr (c4 k hk))
    obtain ⟨D, d1, d2, d3, d4, x, x1, x2, x3⟩ := hD
    obtain ⟨t, v, t1, t2⟩ := h4 x x2 x3
    have tl : t.length < leastN R [] := by
      have := congrArg List.length t1
      rw [List.length_append] at this
      omega
    have tin : ∀ k ∈ t, k ∈ firstCover R := fun k hk => by rw [t1]; exact List.mem_append_left _ hk
    have tn : (t ++ [x]).Nodup := List.nodup_append.mpr ⟨(first_nodup R).sublist (by rw [t1]; exact List.sublist_append_left _ _), by simp, fun a ha b hb e => x3 (by
      rw [List.mem_singleton.mp hb] at e
      exact e ▸ tin a ha)⟩
    refine t2 ⟨tl, Nat.le_antisymm (Nat.le_trans (leastN_le w tn d1 d2 fun k hk => ?_) d3) (leastN_mono w _)⟩
    rcases List.mem_append.mp hk with hk | hk
    · exact d4 k (tin k hk)
    · rw [List.mem_singleton.mp hk]; exact x1
  refine ⟨e1, hlen, ?_⟩
  have p := sub_perm (first_nodup R) c4 (by omega)
  exact fun r hr => (c2 r hr).imp p.mem_iff.mpr p.mem_iff.mpr
theorem VC.of_cover (h : isCover R C = true) : VC R C := fun r hr => by
  unfold isCover at h
  rw [Bool.and_eq_true, Bool.and_eq_true] at h
  have := List.all_eq_true.mp h.2.1 r hr
  rwa [Bool.or_eq_true, decide_eq_true_eq, decide_eq_true_eq] at this
theorem first_le (w : WF R) (hn : C.Nodup) (h : isCover R C = true) : (firstCover R).length ≤ C.length := by
  rw [(first_least w).2.1]
  exact leastN_le w List.Pairwise.nil hn (VC.of_cover h) fun _ z => nomatch z
theorem pure_row (w : WF R) {r : List Int} (g : Rg R r) (hp : isPure R r = true) {q : Int × Int} (hq : q ∈ R) (h : q.2 ∈ r) : q.1 ∈ r := by
  obtain ⟨j, hj, hw⟩ := g.pred h
  have l1 : (wantsOf R q.2).length = 1 := of_decide_eq_true (List.all_eq_true.mp hp q.2 h)
  obtain ⟨x, ex⟩ := List.length_eq_one_iff.mp l1
  have m1 : q.1 ∈ wantsOf R q.2 := mem_wantsOf.mpr hq
  have m2 : j ∈ wantsOf R q.2 := mem_wantsOf.mpr (by rw [(waited_some hw).1]; exact mem_nw (g.keys j hj))
  rw [ex, List.mem_singleton] at m1 m2
  rw [m1, ← m2]; exact hj
theorem first_cover_ok (w : WF R) : isCover R (firstCover R) = true := by
  obtain ⟨e1, e2, e3⟩ := first_least w
  unfold isCover
  have h1 : allIn (firstCover R) (wanted R) = true := allIn_iff.mpr fun k hk => (first_sub R).subset hk
  have h2 : (R.all fun r => decide (r.1 ∈ firstCover R) || decide (r.2 ∈ firstCover R)) = true := List.all_eq_true.mpr fun r hr => by
    rw [Bool.or_eq_true, decide_eq_true_eq, decide_eq_true_eq]; exact e3 r hr
  have h3 : ((pures R).all fun r => !allIn r (firstCover R)) = true := List.all_eq_true.mpr fun r hr => by
    obtain ⟨hr, hpu⟩ := List.mem_filter.mp hr
    have g := mem_rings.mp hr
    cases q : allIn r (firstCover R) with
    | false => rfl
    | true =>
      exfalso
      have hall := allIn_iff.mp q
      have hx := g.hd
      have hel := erase_len (hall _ hx)
      have hlow := leastN_le (R := R) (ch := []) w List.Pairwise.nil ((first_nodup R).sublist (List.erase_sublist (a := r.headD 0))) (fun s hs => by
        by_cases c : s.1 = r.headD 0
        · obtain ⟨j, hj, hw⟩ := g.succ (k := s.1) (by rw [c]; exact hx)
          have e : nw R s.1 = s.2 := nw_of_mem w hs
          obtain ⟨j1, j2, _⟩ := waited_some hw
          refine Or.inr ((List.mem_erase_of_ne ?_).mpr (hall _ ?_))
          · rw [← e, ← j1, ← c]; exact j2
          · rw [← e, ← j1]; exact hj
        · by_cases c2 : s.2 = r.headD 0
          · exact Or.inl ((List.mem_erase_of_ne c).mpr (hall _ (pure_row w g hpu hs (by rw [c2]; exact hx))))
          · exact (e3 s hs).imp (List.mem_erase_of_ne c).mpr (List.mem_erase_of_ne c2).mpr) fun _ z => nomatch z
      omega
  rw [h1, h2, h3]; rfl
end
end Rk
/-! part M22 -/
namespace Rk
/-! ### pieces_of shows that no cover is smaller -/
def piecesX (R : Rows) : List (List Int) :=
  (stills R).map (fun k => [k]) ++ (peelGo (strikeAll R (stills R)).length (strikeAll R (stills R)) []).2.map (fun k => [k]) ++ (rings R).flatMap (ringPart (peelGo (strikeAll R (stills R)).length (strikeAll R (stills R)) []).1)
theorem pieces_eq (R : Rows) : piecesOf R = srtT (piecesX R) := rfl
section
variable {R l : Rows} {k x : Int} {r p : List Int}
theorem stills_selfs (w : WF R) : stills R = selfs R := by
  unfold stills selfs keys
  rw [List.filter_map]
  congr 1
  refine List.filter_congr fun r hr => ?_
  show still R r.1 = _
  unfold still
  rw [nw_of_mem w hr]
  exact decide_eq_decide.mpr ⟨Eq.symm, Eq.symm⟩
theorem mem_stills : k ∈ stills R ↔ k ∈ keys R ∧ nw R k = k := by
  unfold stills still
  rw [List.mem_filter, decide_eq_true_eq]
theorem mem_pieceKeys : x ∈ pieceKeys R p ↔ x ∈ p ∨ ∃ k ∈ p, nw R k = x := by
  unfold pieceKeys
  rw [mem_sset, List.mem_append, List.mem_map]
theorem mem_pk1 : x ∈ pieceKeys R [k] ↔ x = k ∨ nw R k = x := by
  rw [mem_pieceKeys]; simp
def touch (l : Rows) (x : Int) : Prop := ∃ r ∈ l, r.1 = x ∨ r.2 = x
def Apart (R : Rows) (ps : List (List Int)) : Prop := ps.Pairwise fun a b => ∀ x ∈ pieceKeys R a, x ∉ pieceKeys R b
theorem touch.mono {l l2 : Rows} (h : touch l x) (hs : ∀ r ∈ l, r ∈ l2) : touch l2 x := let ⟨r, a, b⟩ := h; ⟨r, hs r a, b⟩
structure Peeled (R l0 l : Rows) (f : List Int) : Prop where
  ap : Apart R (f.map fun k => [k])
  key : ∀ k ∈ f, k ∈ keys R
  tch : ∀ k ∈ f, ∀ x ∈ pieceKeys R [k], touch l0 x ∧ ¬ touch l x
  sub : ∀ r ∈ l, r ∈ l0
theorem peeled (w : WF R) {l0 : Rows} (h0 : ∀ r ∈ l0, r ∈ R) (n : Nat) : Peeled R l0 (peelGo n l0 []).1 (peelGo n l0 []).2 := by
  refine peel_ind (Q := fun l f => Peeled R l0 l f) (fun l f e he q => ?_) n l0 [] ⟨List.Pairwise.nil, fun _ z => (nomatch z), fun _ z => (nomatch z), fun _ z => z⟩
  obtain ⟨r, hr, y, e1, e2, e3⟩ := leaf_of he
  have hnw : nw R r.1 = r.2 := nw_of_mem w (h0 r (q.sub r hr))
  have pk : ∀ x, x ∈ pieceKeys R [e.1] ↔ r.1 = x ∨ r.2 = x := fun x => by rw [mem_pk1, e1, hnw]; exact or_congr ⟨Eq.symm, Eq.symm⟩ Iff.rfl
  have sub2 : ∀ s ∈ struck l e.2, s ∈ l := fun s hs => (struck_sub l e.2).subset hs
  refine ⟨?_, fun k hk => ?_, fun k hk x hx => ?_, fun s hs => q.sub s (sub2 s hs)⟩
  · rw [List.map_append]
    refine List.pairwise_append.mpr ⟨q.ap, List.pairwise_singleton _ _, fun a ha b hb x hx hy => ?_⟩
    obtain ⟨k, hk, rfl⟩ := List.mem_map.mp ha
    rw [List.map_cons, List.map_nil, List.mem_singleton] at hb
    subst hb
    exact (q.tch k hk x hx).2 ⟨r, hr, (pk x).mp hy⟩
  · rcases List.mem_append.mp hk with hk | hk
    · exact q.key k hk
    · rw [List.mem_singleton.mp hk, e1]
      exact List.mem_map.mpr ⟨r, h0 r (q.sub r hr), rfl⟩
  · rcases List.mem_append.mp hk with hk | hk
    · obtain ⟨a, b⟩ := q.tch k hk x hx
      exact ⟨a, fun z => b (z.mono sub2)⟩
    · rw [List.mem_singleton.mp hk] at hx
      have hx := (pk x).mp hx
      refine ⟨⟨r, q.sub r hr, hx⟩, ?_⟩
      rintro ⟨s, hs, hsx⟩
      obtain ⟨s1, s2, s3⟩ := mem_struck.mp hs
      have key : x = e.2 ∨ x = y := by
        rcases e2 with ⟨h1, h2⟩ | ⟨h1, h2⟩
        · rw [h1, h2]; exact hx.elim (fun z => Or.inr z.symm) fun z => Or.inl z.symm
        · rw [h1, h2]; exact hx.elim (fun z => Or.inl z.symm) fun z => Or.inr z.symm
      rcases key with rfl | rfl
      · exact hsx.elim s2 s3
      · have := e3 s s1 hsx
        subst this
        rcases e2 with ⟨_, h2⟩ | ⟨_, h2⟩
        · exact s3 h2.symm
        · exact s2 h2.symm
theorem Rg.idx (g : Rg R r) {i j : Nat} (hi : i < r.length) (e : r.getD i 0 = r.getD j 0) (hj : j < r.length) : i = j := by
  rw [List.getD_eq_getElem?_getD, List.getD_eq_getElem?_getD, List.getElem?_eq_getElem hi, List.getElem?_eq_getElem hj] at e
  exact (List.getElem_inj g.nodup).mp e
theorem Rg.nextD (g : Rg R r) {i : Nat} (hi : i + 1 < r.length) : nw R (r.getD i 0) = r.getD (i + 1) 0 := by
  have h : r[i]? = some (r.getD i 0) := by
    rw [List.getD_eq_getElem?_getD, List.getElem?_eq_getElem (by omega)]; rfl
  have := g.next h
  rwa [if_pos hi] at this
theorem Rg.nw_mem (g : Rg R r) (hk : k ∈ r) : nw R k ∈ r := by
  obtain ⟨j, h1, h2⟩ := g.succ hk
  rw [← (waited_some h2).1]; exact h1
theorem getD_mem {r : List Int} {i : Nat} (h : i < r.length) : r.getD i 0 ∈ r := by
  rw [List.getD_eq_getElem?_getD, List.getElem?_eq_getElem h]
  exact List.getElem_mem h
theorem part_mem (w : WF R) (hr : r ∈ rings R) (hp : p ∈ ringPart l r) : r ∈ live R l ∧ p ≠ [] ∧ (∀ k ∈ p, k ∈ r) ∧ (p.length = 1 ∨ (p = r ∧ r.length % 2 = 1)) := by
  have g := mem_rings.mp hr
  unfold ringPart at hp
  split at hp
  · rename_i c
    refine ⟨List.mem_filter.mpr ⟨hr, decide_eq_true c⟩, ?_⟩
    split at hp
    · rename_i c2
      rw [List.mem_singleton] at hp
      subst hp
      exact ⟨g.ne, fun _ z => z, Or.inr ⟨rfl, c2⟩⟩
    · unfold evens at hp
      obtain ⟨m, hm, rfl⟩ := List.mem_map.mp hp
      have hm := List.mem_range.mp hm
      refine ⟨by simp, fun k hk => ?_, Or.inl rfl⟩
      rw [List.mem_singleton.mp hk]
      exact getD_mem (by omega)
  · cases hp
theorem part_keys (w : WF R) (hr : r ∈ rings R) (hp : p ∈ ringPart l r) (hx : x ∈ pieceKeys R p) : x ∈ r := by
  obtain ⟨_, _, h, _⟩ := part_mem w hr hp
  rcases mem_pieceKeys.mp hx with hx | ⟨k, hk, rfl⟩
  · exact h x hx
  · exact (mem_rings.mp hr).nw_mem (h k hk)
theorem part_apart (w : WF R) (hr : r ∈ rings R) : Apart R (ringPart l r) := by
  have g := mem_rings.mp hr
  unfold ringPart
  split
  · split
    · exact List.pairwise_singleton _ _
    · rename_i c
      unfold evens
      refine List.pairwise_map.mpr (List.Pairwise.imp_of_mem (fun {a b} ha hb hlt x hx hy => ?_) List.pairwise_lt_range)
      have ha := List.mem_range.mp ha
      have hb := List.mem_range.mp hb
      have hl : r.length % 2 = 0 := by omega
      rw [mem_pk1, g.nextD (by omega)] at hx hy
      rcases hx with hx | hx <;> rcases hy with hy | hy
      · have := g.idx (by omega) (hx.symm.trans hy) (by omega); omega
      · have := g.idx (by omega) (hx.symm.trans hy.symm) (by omega); omega
      · have := g.idx (by omega) (hx.trans hy) (by omega); omega
      · have := g.idx (by omega) (hx.trans hy.symm) (by omega); omega
  · exact List.Pairwise.nil
theorem halfSum_app (a b : List (List Int)) : halfSum (a ++ b) = halfSum a + halfSum b := by
  unfold halfSum
  rw [List.map_append, List.sum_append]
theorem halfSum_perm {a b : List (List Int)} (h : a.Perm b) : halfSum a = halfSum b := by
  induction h with
  | nil => rfl
  | cons x _ ih => unfold halfSum at *; rw [List.map_cons, List.sum_cons, List.map_cons, List.sum_cons, ih]
  | swap x y l => unfold halfSum; simp only [List.map_cons, List.sum_cons]; omega
  | trans _ _ i1 i2 => exact i1.trans i2
theorem halfSum_one (f : List Int) : halfSum (f.map fun k => [k]) = f.length := by
  induction f with
  | nil => rfl
  | cons k f ih =>
    unfold halfSum at *
    rw [List.map_cons, List.map_cons, List.sum_cons, ih, List.length_cons]
    simp; omega
theorem halfSum_part (l : Rows) (r : List Int) (hr : 2 ≤ r.length) : halfSum (ringPart l r) = if r.headD 0 ∈ l.map (·.1) then (r.length + 1) / 2 else 0 := by
  unfold ringPart
  split
  · split
    · unfold halfSum; simp
    · have : evens r = (evs r).map fun k => [k] := by
        unfold evens evs
        rw [List.map_map]; rfl
      rw [this, halfSum_one]
      unfold evs
      rw [List.length_map, List.length_range]
  · rfl
theorem halfSum_parts (l : Rows) : ∀ rs : List (List Int), (∀ r ∈ rs, 2 ≤ r.length) → halfSum (rs.flatMap (ringPart l)) = halfSum (rs.filter fun r => decide (r.headD 0 ∈ l.map (·.1)))
  | [], _ => rfl
  | r :: rs, h => by
    rw [List.flatMap_cons, halfSum_app, halfSum_part l r (h r List.mem_cons_self), halfSum_parts l rs fun x hx => h x (List.mem_cons_of_mem _ hx), List.filter_cons]
    by_cases c : r.headD 0 ∈ l.map (·.1)
    · rw [if_pos c, if_pos (decide_eq_true c)]
      unfold halfSum
      rw [List.map_cons, List.sum_cons]
    · rw [if_neg c, if_neg (by rw [decide_eq_true_eq]; exact c)]
      omega
theorem x_half (w : WF R) : halfSum (piecesX R) = leastN R [] := by
  unfold piecesX
  rw [halfSum_app, halfSum_app, halfSum_one, halfSum_one, halfSum_parts _ _ fun r hr => (mem_rings.mp hr).two, stills_selfs w]
  unfold leastN
  show _ = _ + _ + _ + _
  rw [List.length_nil, Nat.zero_add]
  rfl
/-- what is known of each piece -/
theorem x_piece (w : WF R) (hp : p ∈ piecesX R) : p ≠ [] ∧ (∀ k ∈ p, k ∈ keys R) ∧ (p.length = 1 ∨ (p ∈ rings R ∧ p.length % 2 = 1)) := by
  unfold piecesX at hp
  rw [List.mem_append, List.mem_append] at hp
  rcases hp with (hp | hp) | hp
  · obtain ⟨k, hk, rfl⟩ := List.mem_map.mp hp
    exact ⟨by simp, fun x hx => by rw [List.mem_singleton.mp hx]; exact (mem_stills.mp hk).1, Or.inl rfl⟩
  · obtain ⟨k, hk, rfl⟩ := List.mem_map.mp hp
    exact ⟨by simp, fun x hx => by rw [List.mem_singleton.mp hx]; exact (peeled w (fun r hr => (strikeAll_sub _ _).subset hr) _).key k hk, Or.inl rfl⟩
  · obtain ⟨r, hr, hp⟩ := List.mem_flatMap.mp hp
    obtain ⟨h1, h2, h3, h4⟩ := part_mem w hr hp
    refine ⟨h2, fun k hk => (mem_rings.mp hr).keys k (h3 k hk), h4.imp id fun ⟨a, b⟩ => ?_⟩
    rw [a]; exact ⟨hr, b⟩
theorem x_apart (w : WF R) : Apart R (piecesX R) := by
  have P := peeled w (l0 := strikeAll R (stills R)) (fun r hr => (strikeAll_sub _ _).subset hr) (strikeAll R (stills R)).length
  have E : EndR R (peelGo (strikeAll R (stills R)).length (strikeAll R (stills R)) []).1 := by
    rw [stills_selfs w]
    exact endR_of w (List.Sublist.refl R) _ (Nat.le_refl _)
  unfold piecesX
  generalize peelGo (strikeAll R (stills R)).length (strikeAll R (stills R)) [] = pg at *
  have t3 : ∀ p ∈ (rings R).flatMap (ringPart pg.1), ∀ x ∈ pieceKeys R p, touch pg.1 x := fun p hp x hx => by
    obtain ⟨r, hr, hp⟩ := List.mem_flatMap.mp hp
    obtain ⟨h1, _⟩ := part_mem w hr hp
    have := ((E.live w).mp h1).2 x (part_keys w hr hp hx)
    obtain ⟨q, hq, e⟩ := List.mem_map.mp this
    exact ⟨q, hq, Or.inl e⟩
  have t1 : ∀ k ∈ stills R, ∀ x ∈ pieceKeys R [k], x = k := fun k hk x hx => by
    rcases mem_pk1.mp hx with hx | hx
    · exact hx
    · rw [← hx, (mem_stills.mp hk).2]
  have t0 : ∀ k ∈ stills R, ¬ touch (strikeAll R (stills R)) k := fun k hk ⟨r, hr, h⟩ => by
    have := mem_strikeAll.mp hr
    rcases h with h | h
    · exact this.2.1 (h ▸ hk)
    · exact this.2.2 (h ▸ hk)
  refine List.pairwise_append.mpr ⟨List.pairwise_append.mpr ⟨?_, P.ap, fun a ha b hb x hx hy => ?_⟩, ?_, fun a ha b hb x hx hy => ?_⟩
  · refine List.pairwise_map.mpr (List.Pairwise.imp_of_mem (fun {a b} ha hb hne x hx hy => hne ((t1 a ha x hx).symm.trans (t1 b hb x hy))) (w.nodup.sublist List.filter_sublist))
  · obtain ⟨k, hk, rfl⟩ := List.mem_map.mp ha
    obtain ⟨j, hj, rfl⟩ := List.mem_map.mp hb
    have := (P.tch j hj x hy).1
    rw [t1 k hk x hx] at this
    exact t0 k hk this
  · refine List.pairwise_flatMap.mpr ⟨fun r hr => part_apart w hr, List.Pairwise.imp_of_mem (fun {a b} ha hb h p hp q hq x hx hy => h x (part_keys w ha hp hx) (part_keys w hb hq hy)) (rings_apart w)⟩
  · have h3 := t3 b hb x hy
    rcases List.mem_append.mp ha with ha | ha
    · obtain ⟨k, hk, rfl⟩ := List.mem_map.mp ha
      have h4 := h3.mono P.sub
      rw [t1 k hk x hx] at h4
      exact t0 k hk h4
    · obtain ⟨k, hk, rfl⟩ := List.mem_map.mp ha
      exact (P.tch k hk x hx).2 h3
theorem x_flat (w : WF R) : ((piecesX R).flatMap (pieceKeys R)).Nodup := by
  refine List.pairwise_flatMap.mpr ⟨fun p hp => sset_nodup _, (x_apart w).imp fun {a b} h x hx y hy (e : x = y) => h x hx (by rw [e]; exact hy)⟩
theorem x_nodup (w : WF R) : (piecesX R).Nodup := by
  refine List.Pairwise.imp_of_mem (fun {a b} ha hb h e => ?_) (x_apart w)
  obtain ⟨x, hx⟩ := List.exists_mem_of_ne_nil a (x_piece w ha).1
  have := mem_pieceKeys (R := R).mpr (Or.inl hx)
  exact h x this (e ▸ this)
theorem flat_len {f : List Int → List Int} : ∀ {ps : List (List Int)}, (∀ p ∈ ps, f p ≠ []) → ps.length ≤ (ps.flatMap f).length
  | [], _ => Nat.zero_le _
  | p :: ps, h => by
    have := flat_len (ps := ps) fun q hq => h q (List.mem_cons_of_mem _ hq)
    rw [List.flatMap_cons, List.length_append, List.length_cons]
    have := List.length_pos_iff.mpr (h p List.mem_cons_self)
    omega
theorem shows_pieces (w : WF R) : Shows R (firstCover R) (piecesOf R) := by
  have pm := srtT_perm (piecesX R)
  rw [← pieces_eq] at pm
  have xp : ∀ p ∈ piecesOf R, p ≠ [] ∧ (∀ k ∈ p, k ∈ keys R) ∧ (p.length = 1 ∨ (p ∈ rings R ∧ p.length % 2 = 1)) := fun p hp => x_piece w (pm.mem_iff.mp hp)
  have fl : ((piecesOf R).flatMap (pieceKeys R)).Nodup := (pm.flatMap_right (pieceKeys R)).nodup_iff.mpr (x_flat w)
  refine ⟨fun k hk => ?_, isAsc_of (first_asc R), first_cover_ok w, fun p hp => ?_, pm.nodup_iff.mpr (x_nodup w), by rw [pieces_eq, srtT_srtT], ?_, fun p hp => ?_, fl, ?_, ?_⟩
  · obtain ⟨r, hr, e⟩ := List.mem_map.mp (mem_wanted.mp ((first_sub R).subset hk))
    have e : r.2 = k := e
    rw [← e]; exact (w.bnd r hr).2
  · obtain ⟨h1, h2, h3⟩ := xp p hp
    unfold isPiece
    rw [decide_eq_false h1, allIn_iff.mpr h2]
    rcases h3 with h3 | ⟨h3, h4⟩
    · rw [decide_eq_true h3]; rfl
    · rw [decide_eq_true h4, decide_eq_true h3]; simp
  · have h1 : (piecesOf R).length ≤ ((piecesOf R).flatMap id).length := flat_len fun p hp => (xp p hp).1
    have h2 : ((piecesOf R).flatMap id).Nodup := by
      have fl2 := List.pairwise_flatMap.mp fl
      refine List.pairwise_flatMap.mpr ⟨fun p hp => ?_, fl2.2.imp fun {a b} h x hx y hy => h x (mem_pieceKeys.mpr (Or.inl hx)) y (mem_pieceKeys.mpr (Or.inl hy))⟩
      rcases (xp p hp).2.2 with h | h
      · obtain ⟨a, ea⟩ := List.length_eq_one_iff.mp h
        subst ea; simp
      · exact (mem_rings.mp h.1).nodup
    have h3 : ((piecesOf R).flatMap id).length ≤ (keys R).length := h2.length_le_of_subset fun x hx => by
      obtain ⟨p, hp, hx⟩ := List.mem_flatMap.mp hx
      exact (xp p hp).2.1 x hx
    rw [keys_len] at h3
    have := w.len
    omega
  · rcases (xp p hp).2.2 with h | h
    · omega
    · exact ring_len40 w h.1
  · unfold halves
    rw [sum_cast, halfSum_perm pm, x_half w, (first_least w).2.1]
  · have h3 : ((piecesOf R).flatMap (pieceKeys R)).length ≤ (keys R ++ R.map (·.2)).length := fl.length_le_of_subset fun x hx => by
      obtain ⟨p, hp, hx⟩ := List.mem_flatMap.mp hx
      rw [List.mem_append]
      rcases mem_pieceKeys.mp hx with hx | ⟨k, hk, rfl⟩
      · exact Or.inl ((xp p hp).2.1 x hx)
      · exact Or.inr (List.mem_map.mpr ⟨_, mem_nw ((xp p hp).2.1 k hk), rfl⟩)
    rw [List.length_append, keys_len, List.length_map] at h3
    have := w.len
    omega
end
end Rk
/-! part M23 -/
namespace Rk
/-! ### the longest -/
theorem filter_split (p : Int → Bool) : ∀ l : List Int, l.length = (l.filter p).length + (l.filter fun x => !p x).length
  | [] => rfl
  | a :: l => by
    rw [List.filter_cons, List.filter_cons, List.length_cons, filter_split p l]
    cases p a
    · simp; omega
    · simp; omega
section
variable {R : Rows} {k : Int} {r C : List Int}
theorem pure_lacks (h : isCover R C = true) (hr : r ∈ pures R) : ∃ x ∈ r, x ∉ C := by
  unfold isCover at h
  rw [Bool.and_eq_true, Bool.and_eq_true] at h
  have := List.all_eq_true.mp h.2.2 r hr
  refine Decidable.byContradiction fun z => ?_
  have : allIn r C = true := allIn_iff.mpr fun x hx => Decidable.byContradiction fun y => z ⟨x, hx, y⟩
  simp_all
theorem ring_wanted (g : Rg R r) (hk : k ∈ r) : k ∈ wanted R := by
  obtain ⟨j, hj, hw⟩ := g.pred hk
  exact mem_wanted.mpr (List.mem_map.mpr ⟨_, mem_nw (g.keys j hj), (waited_some hw).1.symm⟩)
theorem lmax_in (g : Rg R r) : lmax r ∈ r := (lmax_mem g.ne).1
theorem held_le_most (w : WF R) (hn : C.Nodup) (h : isCover R C = true) : C.length ≤ (mostLeft R).length := by
  have hw : ∀ k ∈ C, k ∈ wanted R := by
    unfold isCover at h
    rw [Bool.and_eq_true] at h
    exact allIn_iff.mp h.1
  have e1 := filter_split (fun x => decide (x ∈ C)) (wanted R)
  have h1 : C.length ≤ ((wanted R).filter fun x => decide (x ∈ C)).length := hn.length_le_of_subset fun x hx => List.mem_filter.mpr ⟨hw x hx, decide_eq_true hx⟩
  let pick : List Int → Int := fun r => (r.filter fun x => !decide (x ∈ C)).headD 0
  have hpick : ∀ r ∈ pures R, pick r ∈ r ∧ pick r ∉ C := fun r hr => by
    obtain ⟨x, h1, h2⟩ := pure_lacks h hr
    have hx : x ∈ r.filter fun x => !decide (x ∈ C) := List.mem_filter.mpr ⟨h1, by simp [h2]⟩
    show (r.filter fun x => !decide (x ∈ C)).headD 0 ∈ r ∧ (r.filter fun x => !decide (x ∈ C)).headD 0 ∉ C
    cases q : r.filter fun x => !decide (x ∈ C) with
    | nil => rw [q] at hx; cases hx
    | cons a l =>
      have ha : a ∈ r.filter fun x => !decide (x ∈ C) := by rw [q]; exact List.mem_cons_self
      have := List.mem_filter.mp ha
      exact ⟨this.1, by simpa using this.2⟩
  have h2 : (pures R).length ≤ ((wanted R).filter fun x => !decide (x ∈ C)).length := by
    have pn : ((pures R).map pick).Nodup := List.pairwise_map.mpr (List.Pairwise.imp_of_mem (fun {a b} ha hb h e => h (pick a) (hpick a ha).1 (by rw [e]; exact (hpick b hb).1)) ((rings_apart w).sublist List.filter_sublist))
    have := pn.length_le_of_subset (l₂ := (wanted R).filter fun x => !decide (x ∈ C)) fun x hx => by
      obtain ⟨r, hr, rfl⟩ := List.mem_map.mp hx
      obtain ⟨h1, h2⟩ := hpick r hr
      exact List.mem_filter.mpr ⟨ring_wanted (mem_rings.mp (List.mem_filter.mp hr).1) h1, by simp [h2]⟩
    rwa [List.length_map] at this
  have e2 := filter_split (fun x => decide (x ∈ (pures R).map lmax)) (wanted R)
  have h3 : ((wanted R).filter fun x => decide (x ∈ (pures R).map lmax)).length ≤ (pures R).length := by
    have := (List.Nodup.sublist (List.filter_sublist (p := fun x => decide (x ∈ (pures R).map lmax))) (nodup_asc (wanted_asc R))).length_le_of_subset (l₂ := (pures R).map lmax) fun x hx => of_decide_eq_true (List.mem_filter.mp hx).2
    rwa [List.length_map] at this
  have e3 : (mostLeft R).length = ((wanted R).filter fun x => !decide (x ∈ (pures R).map lmax)).length := rfl
  omega
theorem most_sub (R : Rows) : (mostLeft R).Sublist (wanted R) := List.filter_sublist
theorem most_asc (R : Rows) : (mostLeft R).Pairwise (· < ·) := (wanted_asc R).sublist (most_sub R)
theorem most_cover (w : WF R) : isCover R (mostLeft R) = true := by
  have mem : ∀ {k}, k ∈ mostLeft R ↔ k ∈ wanted R ∧ k ∉ (pures R).map lmax := fun {k} => by
    unfold mostLeft; rw [List.mem_filter]; simp
  unfold isCover
  have h1 : allIn (mostLeft R) (wanted R) = true := allIn_iff.mpr fun k hk => (most_sub R).subset hk
  have h2 : (R.all fun r => decide (r.1 ∈ mostLeft R) || decide (r.2 ∈ mostLeft R)) = true := List.all_eq_true.mpr fun q hq => by
    rw [Bool.or_eq_true, decide_eq_true_eq, decide_eq_true_eq]
    by_cases c : q.2 ∈ (pures R).map lmax
    · obtain ⟨r, hr, e⟩ := List.mem_map.mp c
      obtain ⟨hr1, hr2⟩ := List.mem_filter.mp hr
      have g := mem_rings.mp hr1
      have h2 : q.2 ∈ r := e ▸ lmax_in g
      have h1 := pure_row w g hr2 hq h2
      refine Or.inl (mem.mpr ⟨ring_wanted g h1, fun z => ?_⟩)
      obtain ⟨r', hr', e'⟩ := List.mem_map.mp z
      have g' := mem_rings.mp (List.mem_filter.mp hr').1
      have : r' = r := g'.same g (e' ▸ lmax_in g') h1
      subst this
      obtain ⟨j, _, hw⟩ := g.succ h1
      obtain ⟨j1, j2, _⟩ := waited_some hw
      rw [nw_of_mem w hq] at j1
      exact j2 (j1.trans (e.symm.trans e'))
    · exact Or.inr (mem.mpr ⟨mem_wanted.mpr (List.mem_map.mpr ⟨q, hq, rfl⟩), c⟩)
  have h3 : ((pures R).all fun r => !allIn r (mostLeft R)) = true := List.all_eq_true.mpr fun r hr => by
    cases q : allIn r (mostLeft R) with
    | false => rfl
    | true =>
      have g := mem_rings.mp (List.mem_filter.mp hr).1
      have := allIn_iff.mp q _ (lmax_in g)
      exact absurd (List.mem_map.mpr ⟨r, hr, rfl⟩) (mem.mp this).2
  rw [h1, h2, h3]; rfl
theorem wanted_bnd (w : WF R) (hk : k ∈ wanted R) : inB k := by
  obtain ⟨r, hr, e⟩ := List.mem_map.mp (mem_wanted.mp hk)
  have e : r.2 = k := e
  rw [← e]; exact (w.bnd r hr).2
end
end Rk
/-! part M24 -/
namespace Rk
/-! ### one still row more, that nobody wants -/
structure Ext (A B : Rows) (K : Int) : Prop where
  w : WF (A ++ B)
  v : WF (A ++ (K, K) :: B)
  k : ∀ r ∈ A ++ B, r.1 ≠ K ∧ r.2 ≠ K
theorem foldl_cong {α β : Type} {f g : β → α → β} : ∀ {l : List α}, (∀ a ∈ l, ∀ b, f b a = g b a) → ∀ b, l.foldl f b = l.foldl g b
  | [], _, b => rfl
  | a :: l, h, b => by
    rw [List.foldl_cons, List.foldl_cons, h a List.mem_cons_self]
    exact foldl_cong (fun x hx => h x (List.mem_cons_of_mem _ hx)) _
theorem Ch.congr {R S : Rows} : ∀ {l : List Int}, (∀ a ∈ l, waited S a = waited R a) → Ch R l → Ch S l
  | [], _, _ => trivial
  | [a], _, _ => trivial
  | a :: b :: l, h, hc => ⟨by rw [h a List.mem_cons_self]; exact hc.1, Ch.congr (fun x hx => h x (List.mem_cons_of_mem _ hx)) hc.2⟩
theorem filter_mid {α : Type} {p : α → Bool} {a b : List α} {x : α} (h : p x = false) : (a ++ x :: b).filter p = (a ++ b).filter p := by
  rw [List.filter_append, List.filter_append, List.filter_cons, if_neg (by rw [h]; decide)]
theorem filter_keep {α : Type} {p : α → Bool} {a b : List α} {x : α} (h : p x = true) : (a ++ x :: b).filter p = a.filter p ++ x :: b.filter p := by
  rw [List.filter_append, List.filter_cons, if_pos h]
theorem foldl_mid {α β : Type} {f : β → α → β} {a b : List α} {x : α} (h : ∀ y, f y x = y) (y : β) : (a ++ x :: b).foldl f y = (a ++ b).foldl f y := by
  rw [List.foldl_append, List.foldl_append, List.foldl_cons, h]
/-- an ascending list with one key more -/
theorem asc_mid {L L' : List Int} {K : Int} (h : L.Pairwise (· < ·)) (h' : L'.Pairwise (· < ·)) (hK : K ∉ L) (hm : ∀ x, x ∈ L' ↔ x ∈ L ∨ x = K) : ∃ a b, L' = a ++ K :: b ∧ L = a ++ b := by
  obtain ⟨a, b, e⟩ := List.append_of_mem ((hm K).mpr (Or.inr rfl))
  refine ⟨a, b, e, asc_uniq h (h'.sublist ?_) fun x => ?_⟩
  · rw [e]
    exact List.Sublist.append_left (List.sublist_cons_self K b) a
  · have hn : (a ++ K :: b).Nodup := e ▸ nodup_asc h'
    have hK2 : K ∉ a ++ b := by
      rw [List.nodup_append, List.nodup_cons] at hn
      intro z
      rcases List.mem_append.mp z with z | z
      · exact hn.2.2 K z K List.mem_cons_self rfl
      · exact hn.2.1.1 z
    have h1 := hm x
    rw [e, List.mem_append, List.mem_cons] at h1
    rw [List.mem_append]
    constructor
    · intro hx
      rcases h1.mpr (Or.inl hx) with z | z | z
      · exact Or.inl z
      · rw [z] at hx; exact absurd hx hK
      · exact Or.inr z
    · intro hx
      have : x ≠ K := fun z => hK2 (by rw [← z, List.mem_append]; exact hx)
      exact (h1.mp (hx.imp id Or.inr)).resolve_right this
theorem asc_mid_srt {a b : List Int} {K : Int} (h : (a ++ K :: b).Pairwise (· < ·)) : srt (a ++ b ++ [K]) = a ++ K :: b := by
  refine (srt_uniq ?_ (h.imp fun h => by omega)).symm
  rw [List.append_assoc]
  exact List.Perm.append_left a (List.perm_append_comm (l₁ := [K]))
section
variable {A B : Rows} {K k n : Int}
theorem Ext.kk (x : Ext A B K) (hk : k ∈ keys (A ++ B)) : k ≠ K := by
  obtain ⟨r, hr, e⟩ := List.mem_map.mp hk
  have e : r.1 = k := e
  rw [← e]; exact (x.k r hr).1
theorem Ext.kn (x : Ext A B K) (hk : k ∈ (A ++ B).map (·.2)) : k ≠ K := by
  obtain ⟨r, hr, e⟩ := List.mem_map.mp hk
  have e : r.2 = k := e
  rw [← e]; exact (x.k r hr).2
theorem ext_keys (A B : Rows) (K : Int) : keys (A ++ (K, K) :: B) = keys A ++ K :: keys B := by unfold keys; rw [List.map_append]; rfl
theorem old_keys (A B : Rows) : keys (A ++ B) = keys A ++ keys B := by unfold keys; rw [List.map_append]
theorem ext_mk : k ∈ keys (A ++ (K, K) :: B) ↔ k ∈ keys (A ++ B) ∨ k = K := by
  rw [ext_keys, old_keys, List.mem_append, List.mem_append, List.mem_cons]
  exact ⟨fun z => z.elim (fun y => Or.inl (Or.inl y)) fun y => y.elim Or.inr fun u => Or.inl (Or.inr u), fun z => z.elim (fun y => y.elim Or.inl fun u => Or.inr (Or.inr u)) fun y => Or.inr (Or.inl y)⟩
theorem ext_mr {r : Int × Int} : r ∈ A ++ (K, K) :: B ↔ r ∈ A ++ B ∨ r = (K, K) := by
  rw [List.mem_append, List.mem_append, List.mem_cons]
  exact ⟨fun z => z.elim (fun y => Or.inl (Or.inl y)) fun y => y.elim Or.inr fun u => Or.inl (Or.inr u), fun z => z.elim (fun y => y.elim Or.inl fun u => Or.inr (Or.inr u)) fun y => Or.inr (Or.inl y)⟩
theorem Ext.nw (x : Ext A B K) (hk : k ∈ keys (A ++ B)) : nw (A ++ (K, K) :: B) k = nw (A ++ B) k := nw_of_mem x.v (ext_mr.mpr (Or.inl (mem_nw hk)))
theorem Ext.nwK (x : Ext A B K) : Rk.nw (A ++ (K, K) :: B) K = K := nw_of_mem x.v (ext_mr.mpr (Or.inr rfl))
theorem Ext.nw_ne (x : Ext A B K) (hk : k ∈ keys (A ++ B)) : Rk.nw (A ++ B) k ≠ K := (x.k _ (mem_nw hk)).2
theorem Ext.mk_iff (x : Ext A B K) (h : k ≠ K) : k ∈ keys (A ++ (K, K) :: B) ↔ k ∈ keys (A ++ B) := ext_mk.trans ⟨fun z => z.resolve_right h, Or.inl⟩
theorem Ext.waited (x : Ext A B K) (hk : k ∈ keys (A ++ B)) : waited (A ++ (K, K) :: B) k = waited (A ++ B) k := by
  unfold Rk.waited
  rw [x.nw hk]
  simp only [x.mk_iff (x.nw_ne hk)]
theorem Ext.waitedK (x : Ext A B K) : Rk.waited (A ++ (K, K) :: B) K = none := by
  unfold Rk.waited
  rw [if_neg fun z => z.1 x.nwK]
theorem Ext.path (x : Ext A B K) (hk : k ∈ keys (A ++ B)) : pathOf (A ++ (K, K) :: B) k = pathOf (A ++ B) k := by
  obtain ⟨g, e⟩ := path_head (A ++ B) k
  have hn := path_nodup (A ++ B) k
  have hs := path_keys hk
  have hc := path_ch (A ++ B) k
  have hl := path_cl hk
  rw [e] at hn hs hc hl ⊢
  have hne : (k :: g) ≠ [] := by simp
  refine path_char hn (fun a ha => ext_mk.mpr (Or.inl (hs a ha))) (hc.congr fun a ha => x.waited (hs a ha)) fun j hj => hl j ?_
  rw [← x.waited (hs _ (lst_mem hne))]; exact hj
theorem Ext.pathK (x : Ext A B K) : pathOf (A ++ (K, K) :: B) K = [K] := by
  unfold pathOf
  rw [x.waitedK]
  cases (A ++ (K, K) :: B).length <;> rfl
theorem Ext.rings (x : Ext A B K) : rings (A ++ (K, K) :: B) = rings (A ++ B) := by
  unfold Rk.rings
  rw [ext_keys, filter_mid, ← old_keys]
  · have h2 : (keys (A ++ B)).filter (isHead (A ++ (K, K) :: B)) = (keys (A ++ B)).filter (isHead (A ++ B)) := List.filter_congr fun k hk => by
      unfold isHead
      rw [x.path hk, x.waited (path_keys hk _ (lst_mem (path_ne (A ++ B) k)))]
    rw [h2]
    exact List.map_congr_left fun k hk => x.path (List.mem_filter.mp hk).1
  · unfold isHead
    rw [x.pathK]
    show (decide (Rk.waited (A ++ (K, K) :: B) K = some K) && _) = false
    rw [x.waitedK]; simp
theorem Ext.wants (x : Ext A B K) (hn : n ≠ K) : wantsOf (A ++ (K, K) :: B) n = wantsOf (A ++ B) n := by
  unfold wantsOf
  rw [filter_mid]
  exact decide_eq_false (Ne.symm hn)
theorem Ext.wantsK (x : Ext A B K) : wantsOf (A ++ (K, K) :: B) K = [K] := by
  have h1 : (A ++ B).filter (fun r : Int × Int => decide (r.2 = K)) = [] := List.filter_eq_nil_iff.mpr fun r hr z => (x.k r hr).2 (of_decide_eq_true z)
  unfold wantsOf
  rw [List.filter_append, List.append_eq_nil_iff] at h1
  rw [filter_keep (p := fun r : Int × Int => decide (r.2 = K)) (decide_eq_true rfl), h1.1, h1.2]; rfl
theorem Ext.wait (x : Ext A B K) (hn : n ≠ K) : waitingFor (A ++ (K, K) :: B) n = waitingFor (A ++ B) n := by
  unfold waitingFor
  rw [filter_mid]
  show (decide (K = n) && _) = false
  rw [decide_eq_false (Ne.symm hn)]; rfl
theorem Ext.mwanted (x : Ext A B K) (y : Int) : y ∈ wanted (A ++ (K, K) :: B) ↔ y ∈ wanted (A ++ B) ∨ y = K := by
  rw [mem_wanted, mem_wanted, List.map_append, List.map_append, List.map_cons, List.mem_append, List.mem_append, List.mem_cons]
  exact ⟨fun z => z.elim (fun y => Or.inl (Or.inl y)) fun y => y.elim Or.inr fun u => Or.inl (Or.inr u), fun z => z.elim (fun y => y.elim Or.inl fun u => Or.inr (Or.inr u)) fun y => Or.inr (Or.inl y)⟩
theorem Ext.wanted (x : Ext A B K) : ∃ a b, wanted (A ++ (K, K) :: B) = a ++ K :: b ∧ wanted (A ++ B) = a ++ b :=
  asc_mid (wanted_asc _) (wanted_asc _) (fun z => x.kn (mem_wanted.mp z) rfl) x.mwanted
theorem Ext.ring_ne (x : Ext A B K) {r : List Int} (hr : r ∈ Rk.rings (A ++ B)) (hk : k ∈ r) : k ≠ K := x.kk ((mem_rings.mp hr).keys k hk)
theorem Ext.pures (x : Ext A B K) : pures (A ++ (K, K) :: B) = pures (A ++ B) := by
  unfold Rk.pures
  rw [x.rings]
  refine List.filter_congr fun r hr => ?_
  unfold isPure
  rw [Bool.eq_iff_iff, List.all_eq_true, List.all_eq_true]
  have e : ∀ k ∈ r, wantsOf (A ++ (K, K) :: B) k = wantsOf (A ++ B) k := fun k hk => x.wants (x.ring_ne hr hk)
  exact ⟨fun h k hk => by rw [← e k hk]; exact h k hk, fun h k hk => by rw [e k hk]; exact h k hk⟩
theorem Ext.most (x : Ext A B K) : mostLeft (A ++ (K, K) :: B) = srt (mostLeft (A ++ B) ++ [K]) := by
  obtain ⟨a, b, e1, e2⟩ := x.wanted
  have hK : K ∉ (Rk.pures (A ++ B)).map lmax := fun z => by
    obtain ⟨r, hr, e⟩ := List.mem_map.mp z
    have hr := (List.mem_filter.mp hr).1
    exact x.ring_ne hr (lmax_in (mem_rings.mp hr)) e
  have hs := most_asc (A ++ (K, K) :: B)
  unfold mostLeft at *
  rw [e1, x.pures, filter_keep (by simpa using hK)] at hs ⊢
  rw [e2, List.filter_append, asc_mid_srt hs]
theorem Ext.still (x : Ext A B K) (hk : k ∈ keys (A ++ B)) : still (A ++ (K, K) :: B) k = still (A ++ B) k := by unfold Rk.still; rw [x.nw hk]
theorem Ext.stillK (x : Ext A B K) : Rk.still (A ++ (K, K) :: B) K = true := decide_eq_true x.nwK
theorem Ext.rivals (x : Ext A B K) (hk : k ∈ keys (A ++ B)) : rivals (A ++ (K, K) :: B) k = rivals (A ++ B) k := by
  unfold Rk.rivals
  rw [x.nw hk, x.wants (x.nw_ne hk)]
theorem mem_riv {R : Rows} (ho : n ∈ Rk.rivals R k) : n ∈ keys R := List.mem_map.mpr ⟨_, (mem_rivals.mp ho).1, rfl⟩
theorem all_cong {l : List Int} {p q : Int → Bool} (h : ∀ a ∈ l, p a = q a) : l.all p = l.all q := by
  rw [Bool.eq_iff_iff, List.all_eq_true, List.all_eq_true]
  exact ⟨fun z a ha => by rw [← h a ha]; exact z a ha, fun z a ha => by rw [h a ha]; exact z a ha⟩
theorem any_cong {l : List Int} {p q : Int → Bool} (h : ∀ a ∈ l, p a = q a) : l.any p = l.any q := by
  rw [Bool.eq_iff_iff, List.any_eq_true, List.any_eq_true]
  exact ⟨fun ⟨a, ha, z⟩ => ⟨a, ha, by rw [← h a ha]; exact z⟩, fun ⟨a, ha, z⟩ => ⟨a, ha, by rw [h a ha]; exact z⟩⟩
theorem Ext.fate (x : Ext A B K) (hk : k ∈ keys (A ++ B)) : fate (A ++ (K, K) :: B) k = fate (A ++ B) k := by
  unfold Rk.fate
  have e1 : (Rk.rivals (A ++ B) k).any (fun o => decide (waitingFor (A ++ (K, K) :: B) o = [])) = (Rk.rivals (A ++ B) k).any (fun o => decide (waitingFor (A ++ B) o = [])) := any_cong fun o ho => by
    rw [x.wait (x.kk (mem_riv ho))]
  have e2 : (Rk.rivals (A ++ B) k).all (Rk.still (A ++ (K, K) :: B)) = (Rk.rivals (A ++ B) k).all (Rk.still (A ++ B)) := all_cong fun o ho => x.still (mem_riv ho)
  rw [x.still hk, x.rivals hk, e1, e2, x.wait (x.kk hk)]
theorem Ext.fateK (x : Ext A B K) : Rk.fate (A ++ (K, K) :: B) K = "always" := by
  unfold Rk.fate
  rw [if_pos x.stillK, if_pos]
  unfold Rk.rivals
  rw [x.nwK, x.wantsK]
  simp
theorem Ext.onRing (x : Ext A B K) : onRing (A ++ (K, K) :: B) = onRing (A ++ B) := by unfold Rk.onRing; rw [x.rings]
theorem Ext.lines (x : Ext A B K) : ∃ a b, linesOf (A ++ (K, K) :: B) = a ++ (-1, K) :: b ∧ linesOf (A ++ B) = a ++ b := by
  have pe : ((keys (A ++ (K, K) :: B)).map fun k => (0 - ((pathOf (A ++ (K, K) :: B) k).length : Int), k)) = (keys A).map (fun k => (0 - ((pathOf (A ++ B) k).length : Int), k)) ++ (-1, K) :: (keys B).map (fun k => (0 - ((pathOf (A ++ B) k).length : Int), k)) := by
    rw [ext_keys, List.map_append, List.map_cons, x.pathK]
    congr 1
    · exact List.map_congr_left fun k hk => by rw [x.path (by rw [old_keys]; exact List.mem_append_left _ hk)]
    · congr 1
      exact List.map_congr_left fun k hk => by rw [x.path (by rw [old_keys]; exact List.mem_append_right _ hk)]
  have p1 : (linesOf (A ++ (K, K) :: B)).Perm _ := srtP_perm _
  rw [pe] at p1
  obtain ⟨a, b, e⟩ := List.append_of_mem (p1.mem_iff.mpr (List.mem_append_right _ List.mem_cons_self))
  refine ⟨a, b, e, (srtP_uniq ?_ ?_).symm⟩
  · rw [e] at p1
    have p2 := (List.perm_middle.symm.trans p1).trans List.perm_middle
    rw [old_keys, List.map_append]
    exact List.Perm.cons_inv p2
  · have := srtP_le ((keys (A ++ (K, K) :: B)).map fun k => (0 - ((pathOf (A ++ (K, K) :: B) k).length : Int), k))
    have e : srtP ((keys (A ++ (K, K) :: B)).map fun k => (0 - ((pathOf (A ++ (K, K) :: B) k).length : Int), k)) = a ++ (-1, K) :: b := e
    rw [e] at this
    exact this.sublist (List.Sublist.append_left (List.sublist_cons_self _ b) a)
abbrev NL := List (Int × List Int)
def fstNe (K : Int) (l : NL) : List Int := (l.map (·.1)).filter fun n => !decide (n = K)
theorem fst_step {r : Int × Int} (hr : r.2 ≠ K) (l : NL) : fstNe K (insN l r.2 r.1) = if r.2 ∈ fstNe K l then fstNe K l else fstNe K l ++ [r.2] := by
  unfold fstNe
  rw [insN_keys]
  have e : r.2 ∈ (l.map (·.1)).filter (fun n => !decide (n = K)) ↔ r.2 ∈ l.map (·.1) := by
    rw [List.mem_filter]; simp [hr]
  by_cases c : r.2 ∈ l.map (·.1)
  · rw [if_pos c, if_pos (e.mpr c)]
  · rw [if_neg c, if_neg fun z => c (e.mp z), List.filter_append]
    congr 1
    simp [hr]
theorem fst_fold : ∀ (l : Rows) (c d : NL), (∀ r ∈ l, r.2 ≠ K) → fstNe K c = fstNe K d → fstNe K (l.foldl (fun l r => insN l r.2 r.1) c) = fstNe K (l.foldl (fun l r => insN l r.2 r.1) d)
  | [], c, d, _, h => h
  | r :: l, c, d, hl, h => by
    refine fst_fold l _ _ (fun q hq => hl q (List.mem_cons_of_mem _ hq)) ?_
    have hr := hl r List.mem_cons_self
    rw [fst_step hr, fst_step hr, h]
theorem Ext.loose (x : Ext A B K) : loose (A ++ (K, K) :: B) = loose (A ++ B) := by
  have h1 : fstNe K (byNew (A ++ (K, K) :: B)) = fstNe K (byNew (A ++ B)) := by
    unfold byNew
    rw [List.foldl_append, List.foldl_append, List.foldl_cons]
    refine fst_fold B _ _ (fun r hr => (x.k r (List.mem_append_right _ hr)).2) ?_
    generalize A.foldl (fun l r => insN l r.2 r.1) [] = c
    unfold fstNe
    show ((insN c K K).map (·.1)).filter _ = _
    rw [insN_keys]
    split
    · rfl
    · rw [List.filter_append]; simp
  have e : ∀ l : NL, (∀ n ∈ l.map (·.1), True) → (l.map (·.1)).filter (fun n => !decide (n ∈ keys (A ++ (K, K) :: B))) = (fstNe K l).filter fun n => !decide (n ∈ keys (A ++ B)) := fun l _ => by
    unfold fstNe
    rw [List.filter_filter]
    refine List.filter_congr fun n _ => ?_
    rw [← Bool.not_or, ← Bool.decide_or]
    congr 1
    exact decide_eq_decide.mpr (ext_mk.trans Or.comm |>.trans ⟨fun z => z.symm, fun z => z.symm⟩)
  have e2 : fstNe K (byNew (A ++ B)) = (byNew (A ++ B)).map (·.1) := List.filter_eq_self.mpr fun n hn => by
    have := x.kn (mem_byNew.mp hn)
    simp [this]
  unfold Rk.loose
  rw [e _ fun _ _ => trivial, h1, e2]
def RelC (K : Int) (c c' : Cnt) : Prop := ∀ k, k ≠ K → c'.lookup k = c.lookup k
theorem RelC.at {c c' : Cnt} (h : RelC K c c') (hk : k ≠ K) : cAt c' k = cAt c k := by unfold cAt; rw [h k hk]
theorem Ext.val (x : Ext A B K) {c c' : Cnt} (h : RelC K c c') (hk : k ≠ K) : bcVal (A ++ (K, K) :: B) c' k = bcVal (A ++ B) c k := by
  unfold bcVal
  rw [x.wants hk]
  refine foldl_cong (fun one ho b => ?_) _
  have : one ≠ K := x.kk (List.mem_map.mpr ⟨_, mem_wantsOf.mp ho, rfl⟩)
  unfold bcGo
  rw [x.onRing, h.at this]
theorem Ext.step (x : Ext A B K) : ∀ (l : List Int) (c c' : Cnt), RelC K c c' → (∀ k ∈ l, k ≠ K) → RelC K (l.foldl (bcStep (A ++ B)) c) (l.foldl (bcStep (A ++ (K, K) :: B)) c') ∧ (l.foldl (bcStep (A ++ (K, K) :: B)) c').lookup K = c'.lookup K
  | [], c, c', h, _ => ⟨h, rfl⟩
  | k :: l, c, c', h, hl => by
    have hk := hl k List.mem_cons_self
    have := x.step l (bcStep (A ++ B) c k) (bcStep (A ++ (K, K) :: B) c' k) (fun j hj => by
      unfold bcStep
      rw [List.lookup_append, List.lookup_append, h j hj, x.val h hk]) fun j hj => hl j (List.mem_cons_of_mem _ hj)
    refine ⟨this.1, this.2.trans ?_⟩
    unfold bcStep
    rw [List.lookup_append]
    have e : ([(k, bcVal (A ++ (K, K) :: B) c' k)] : Cnt).lookup K = none := by
      rw [List.lookup_cons]
      have : (K == k) = false := by simpa using Ne.symm hk
      rw [this]; rfl
    rw [e, Option.or_none]
theorem Ext.counts (x : Ext A B K) : RelC K (counts (A ++ B)) (counts (A ++ (K, K) :: B)) ∧ (Rk.counts (A ++ (K, K) :: B)).lookup K = some (1, 1) := by
  obtain ⟨a, b, l1, l2⟩ := x.lines
  have hAll : ∀ k ∈ bcKeys (A ++ B), k ≠ K := fun k hk => by
    rcases mem_bc.mp hk with z | z
    · exact x.kk z
    · exact x.kn z
  have e1 : bcKeys (A ++ B) = a.map (·.2) ++ (b.map (·.2) ++ Rk.loose (A ++ B)) := by
    unfold bcKeys
    rw [l2, List.map_append, List.append_assoc]
  have e2 : bcKeys (A ++ (K, K) :: B) = a.map (·.2) ++ ([K] ++ (b.map (·.2) ++ Rk.loose (A ++ B))) := by
    unfold bcKeys
    rw [l1, x.loose, List.map_append, List.append_assoc]; rfl
  rw [e1] at hAll
  generalize a.map (·.2) = a1 at *
  generalize b.map (·.2) ++ Rk.loose (A ++ B) = b1 at *
  have hA : ∀ k ∈ a1, k ≠ K := fun k hk => hAll k (List.mem_append_left _ hk)
  have hB : ∀ k ∈ b1, k ≠ K := fun k hk => hAll k (List.mem_append_right _ hk)
  unfold Rk.counts
  rw [e1, e2, List.foldl_append, List.foldl_append, List.foldl_append]
  obtain ⟨r1, r2⟩ := x.step a1 [] [] (fun _ _ => rfl) hA
  generalize a1.foldl (bcStep (A ++ B)) [] = c at *
  generalize a1.foldl (bcStep (A ++ (K, K) :: B)) [] = c' at *
  have r2 : c'.lookup K = none := r2
  have hv : bcVal (A ++ (K, K) :: B) c' K = (1, 1) := by
    unfold bcVal
    rw [x.wantsK]
    show bcGo (A ++ (K, K) :: B) c' K (if [K] = [] then 0 else 1, 1) K = (1, 1)
    unfold bcGo
    rw [if_neg (by simp)]
    simp
  have e3 : [K].foldl (bcStep (A ++ (K, K) :: B)) c' = c' ++ [(K, (1, 1))] := by
    show bcStep (A ++ (K, K) :: B) c' K = _
    unfold bcStep
    rw [hv]
  rw [e3]
  obtain ⟨r3, r4⟩ := x.step b1 c (c' ++ [(K, (1, 1))]) (fun j hj => by
    rw [List.lookup_append]
    have e : ([(K, ((1 : Int), (1 : Int)))] : Cnt).lookup j = none := by
      rw [List.lookup_cons]
      have : (j == K) = false := by simpa using hj
      rw [this]; rfl
    rw [e, Option.or_none, r1 j hj]) hB
  refine ⟨r3, r4.trans ?_⟩
  rw [List.lookup_append, r2]
  simp
theorem Ext.ringCount (x : Ext A B K) {r : List Int} (hr : r ∈ Rk.rings (A ++ B)) (p : Bool) : ringCount (Rk.counts (A ++ (K, K) :: B)) r p = ringCount (Rk.counts (A ++ B)) r p := by
  have e : ∀ k ∈ r, cAt (Rk.counts (A ++ (K, K) :: B)) k = cAt (Rk.counts (A ++ B)) k := fun k hk => x.counts.1.at (x.ring_ne hr hk)
  have ehd := e _ (mem_rings.mp hr).hd
  have e1 : ringWhole (Rk.counts (A ++ (K, K) :: B)) r = ringWhole (Rk.counts (A ++ B)) r := foldl_cong (fun k hk b => by rw [e k hk]) _
  have e2 : ∀ tl, ringRun (Rk.counts (A ++ (K, K) :: B)) r.tail tl = ringRun (Rk.counts (A ++ B)) r.tail tl := fun tl => foldl_cong (fun k hk b => by rw [e k (List.mem_of_mem_tail hk)]) _
  unfold Rk.ringCount ringBoth
  rw [e1, e2, e2, ehd]
theorem Ext.count (x : Ext A B K) : countCovers (A ++ (K, K) :: B) = countCovers (A ++ B) := by
  have a1 : cntRings (A ++ (K, K) :: B) (Rk.rings (A ++ (K, K) :: B)) = cntRings (A ++ B) (Rk.rings (A ++ B)) := by
    unfold cntRings
    rw [x.rings, x.pures]
    exact foldl_cong (fun r hr b => by rw [x.ringCount hr]) _
  have a2 : ∀ f, cntStill (A ++ (K, K) :: B) (keys (A ++ (K, K) :: B)) f = cntStill (A ++ B) (keys (A ++ B)) f := fun f => by
    unfold cntStill
    have hK : cAt (Rk.counts (A ++ (K, K) :: B)) K = (1, 1) := by unfold cAt; rw [x.counts.2]; rfl
    rw [ext_keys, foldl_mid fun y => by rw [if_pos x.stillK, hK, Int.mul_one], ← old_keys]
    refine foldl_cong (fun k hk b => ?_) _
    rw [x.still hk, x.counts.1.at (x.kk hk)]
  have a3 : ∀ f, cntLoose (A ++ (K, K) :: B) (Rk.wanted (A ++ (K, K) :: B)) f = cntLoose (A ++ B) (Rk.wanted (A ++ B)) f := fun f => by
    obtain ⟨a, b, l1, l2⟩ := x.wanted
    unfold cntLoose
    rw [l1, foldl_mid fun y => by rw [if_neg (by rw [ext_keys]; simp)], ← l2]
    refine foldl_cong (fun k hk b => ?_) _
    have hne := x.kn (mem_wanted.mp hk)
    rw [x.counts.1.at hne]
    simp only [x.mk_iff hne]
  unfold countCovers
  rw [a1, a2, a3]
theorem strikeAll_filter : ∀ (ks : List Int) (l : Rows), strikeAll l ks = l.filter fun r => !decide (r.1 ∈ ks) && !decide (r.2 ∈ ks)
  | [], l => (List.filter_eq_self.mpr fun r _ => by simp).symm
  | k :: ks, l => by
    show strikeAll (struck l k) ks = _
    rw [strikeAll_filter ks]
    unfold struck
    rw [List.filter_filter]
    refine List.filter_congr fun r _ => ?_
    have e : hasK r k = (decide (r.1 = k) || decide (r.2 = k)) := by
      rw [Bool.eq_iff_iff, hasK_iff, Bool.or_eq_true, decide_eq_true_eq, decide_eq_true_eq]
      exact ⟨fun z => z.imp Eq.symm Eq.symm, fun z => z.imp Eq.symm Eq.symm⟩
    have e1 : ∀ y, decide (y ∈ k :: ks) = (decide (y = k) || decide (y ∈ ks)) := fun y => by
      rw [Bool.eq_iff_iff, Bool.or_eq_true, decide_eq_true_eq, decide_eq_true_eq, decide_eq_true_eq, List.mem_cons]
    rw [e, e1, e1]
    cases decide (r.1 = k) <;> cases decide (r.2 = k) <;> cases decide (r.1 ∈ ks) <;> cases decide (r.2 ∈ ks) <;> rfl
theorem Ext.strikesN (x : Ext A B K) {ch : List Int} (h : K ∉ ch) : strikeAll (A ++ (K, K) :: B) ch = strikeAll A ch ++ (K, K) :: strikeAll B ch := by
  rw [strikeAll_filter, strikeAll_filter, strikeAll_filter, filter_keep]
  simp [h]
theorem strikes_two (l1 l2 : Rows) (ch : List Int) : strikeAll (l1 ++ l2) ch = strikeAll l1 ch ++ strikeAll l2 ch := by
  rw [strikeAll_filter, strikeAll_filter, strikeAll_filter, List.filter_append]
/-- with K struck out too -/
theorem Ext.strikesK (x : Ext A B K) {l1 l2 : Rows} {ch ch' : List Int} (hs : ∀ r ∈ l1 ++ l2, r ∈ A ++ B) (hK : K ∈ ch') (h : ∀ y, y ≠ K → (y ∈ ch' ↔ y ∈ ch)) : strikeAll (l1 ++ (K, K) :: l2) ch' = strikeAll (l1 ++ l2) ch := by
  rw [strikeAll_filter, strikeAll_filter, filter_mid (by simp [hK])]
  refine List.filter_congr fun r hr => ?_
  have := x.k r (hs r hr)
  simp only [h r.1 this.1, h r.2 this.2]
theorem selfs_two (l1 l2 : Rows) : selfs (l1 ++ l2) = selfs l1 ++ selfs l2 := by
  unfold selfs
  rw [List.filter_append, List.map_append]
theorem selfs_mid (l1 l2 : Rows) (K : Int) : selfs (l1 ++ (K, K) :: l2) = selfs l1 ++ K :: selfs l2 := by
  unfold selfs
  rw [filter_keep (p := fun r : Int × Int => decide (r.1 = r.2)) (decide_eq_true rfl), List.map_append, List.map_cons]
theorem Ext.live (x : Ext A B K) (l : Rows) : live (A ++ (K, K) :: B) l = live (A ++ B) l := by unfold Rk.live; rw [x.rings]
def tailN (R l : Rows) : Nat :=
  (selfs l).length + ((peelGo (strikeAll l (selfs l)).length (strikeAll l (selfs l)) []).2.length + halfSum (Rk.live R (peelGo (strikeAll l (selfs l)).length (strikeAll l (selfs l)) []).1))
theorem leastN_tail (R : Rows) (ch : List Int) : leastN R ch = ch.length + tailN R (strikeAll R ch) := by
  unfold leastN tailN
  show _ + _ + _ + _ = _ + (_ + (_ + _))
  omega
theorem Ext.tail (x : Ext A B K) (l : Rows) : tailN (A ++ (K, K) :: B) l = tailN (A ++ B) l := by
  unfold tailN
  rw [x.live]
theorem Ext.tailK (x : Ext A B K) {l1 l2 : Rows} (h : ∀ r ∈ l1 ++ l2, r ∈ A ++ B) : tailN (A ++ (K, K) :: B) (l1 ++ (K, K) :: l2) = tailN (A ++ B) (l1 ++ l2) + 1 := by
  rw [x.tail]
  unfold tailN
  have e : strikeAll (l1 ++ (K, K) :: l2) (selfs (l1 ++ (K, K) :: l2)) = strikeAll (l1 ++ l2) (selfs (l1 ++ l2)) := x.strikesK h (by rw [selfs_mid]; simp) fun y hy => by
    rw [selfs_mid, selfs_two, List.mem_append, List.mem_append, List.mem_cons]
    exact ⟨fun z => z.imp id fun u => u.resolve_left hy, fun z => z.imp id Or.inr⟩
  rw [e, selfs_mid, selfs_two, List.length_append, List.length_append, List.length_cons]
  omega
theorem Ext.least (x : Ext A B K) {ch : List Int} (h : K ∉ ch) : leastN (A ++ (K, K) :: B) ch = leastN (A ++ B) ch + 1 := by
  rw [leastN_tail, leastN_tail, x.strikesN h, strikes_two, x.tailK fun r hr => ?_]
  · omega
  · rw [← strikes_two] at hr
    exact (strikeAll_sub _ _).subset hr
theorem Ext.leastK (x : Ext A B K) {a b : List Int} (ha : K ∉ a) (hb : K ∉ b) : leastN (A ++ (K, K) :: B) (a ++ K :: b) = leastN (A ++ B) (a ++ b) + 1 := by
  rw [leastN_tail, leastN_tail, x.strikesK (ch := a ++ b) (fun r hr => hr) (by simp), x.tail, List.length_append, List.length_append, List.length_cons]
  · omega
  · intro y hy
    rw [List.mem_append, List.mem_append, List.mem_cons]
    exact ⟨fun z => z.imp id fun u => u.resolve_left hy, fun z => z.imp id Or.inr⟩
theorem Ext.go1 (x : Ext A B K) (m : Nat) : ∀ (ws acc : List Int), K ∉ ws → K ∉ acc → firstGo (A ++ (K, K) :: B) ((m + 1 : Nat) : Int) ws acc = firstGo (A ++ B) (m : Nat) ws acc
  | [], acc, _, _ => rfl
  | k :: ws, acc, h1, h2 => by
    rw [List.mem_cons, not_or] at h1
    unfold firstGo
    have h3 : K ∉ acc ++ [k] := fun z => by
      rcases List.mem_append.mp z with z | z
      · exact h2 z
      · exact h1.1 (List.mem_singleton.mp z)
    have e : ((acc.length : Int) < ((m + 1 : Nat) : Int) ∧ Rk.least (A ++ (K, K) :: B) (acc ++ [k]) = ((m + 1 : Nat) : Int)) ↔ ((acc.length : Int) < (m : Nat) ∧ Rk.least (A ++ B) (acc ++ [k]) = (m : Nat)) := by
      rw [least_eq, least_eq, x.least h3]
      have := leastN_ge (A ++ B) (acc ++ [k])
      rw [List.length_append, List.length_singleton] at this
      omega
    by_cases c : (acc.length : Int) < (m : Nat) ∧ Rk.least (A ++ B) (acc ++ [k]) = (m : Nat)
    · rw [if_pos c, if_pos (e.mpr c)]
      exact x.go1 m ws _ h1.2 h3
    · rw [if_neg c, if_neg fun z => c (e.mp z)]
      exact x.go1 m ws _ h1.2 h2
theorem Ext.go2 (x : Ext A B K) (m : Nat) : ∀ (ws a b : List Int), K ∉ ws → K ∉ a → K ∉ b → ∃ s, firstGo (A ++ B) (m : Nat) ws (a ++ b) = a ++ b ++ s ∧ firstGo (A ++ (K, K) :: B) ((m + 1 : Nat) : Int) ws (a ++ K :: b) = a ++ K :: (b ++ s)
  | [], a, b, _, _, _ => ⟨[], by unfold firstGo; simp, by unfold firstGo; simp⟩
  | k :: ws, a, b, h1, h2, h3 => by
    rw [List.mem_cons, not_or] at h1
    unfold firstGo
    have h4 : K ∉ b ++ [k] := fun z => by
      rcases List.mem_append.mp z with z | z
      · exact h3 z
      · exact h1.1 (List.mem_singleton.mp z)
    have e0 : a ++ K :: b ++ [k] = a ++ K :: (b ++ [k]) := by simp
    have e : (((a ++ K :: b).length : Int) < ((m + 1 : Nat) : Int) ∧ Rk.least (A ++ (K, K) :: B) (a ++ K :: b ++ [k]) = ((m + 1 : Nat) : Int)) ↔ (((a ++ b).length : Int) < (m : Nat) ∧ Rk.least (A ++ B) (a ++ b ++ [k]) = (m : Nat)) := by
      rw [e0, least_eq, least_eq, x.leastK h2 h4, List.append_assoc, List.length_append, List.length_append, List.length_cons]
      omega
    by_cases c : ((a ++ b).length : Int) < (m : Nat) ∧ Rk.least (A ++ B) (a ++ b ++ [k]) = (m : Nat)
    · rw [if_pos c, if_pos (e.mpr c), e0, List.append_assoc]
      obtain ⟨s, s1, s2⟩ := x.go2 m ws a (b ++ [k]) h1.2 h2 h4
      exact ⟨k :: s, by rw [s1]; simp, by rw [s2]; simp⟩
    · rw [if_neg c, if_neg fun z => c (e.mp z)]
      exact x.go2 m ws a b h1.2 h2 h3
theorem go_app (R : Rows) (m : Int) : ∀ (a b acc : List Int), firstGo R m (a ++ b) acc = firstGo R m b (firstGo R m a acc)
  | [], b, acc => rfl
  | k :: a, b, acc => by
    show firstGo R m (a ++ b) _ = firstGo R m b (firstGo R m a _)
    exact go_app R m a b _
theorem Ext.first_ne (x : Ext A B K) : K ∉ firstCover (A ++ B) := fun hk => x.kn (mem_wanted.mp ((first_sub (A ++ B)).subset hk)) rfl
theorem Ext.first (x : Ext A B K) : firstCover (A ++ (K, K) :: B) = srt (firstCover (A ++ B) ++ [K]) := by
  obtain ⟨a, b, l1, l2⟩ := x.wanted
  have hne : ∀ y ∈ a ++ b, y ≠ K := fun y hy => x.kn (mem_wanted.mp (by rw [l2]; exact hy))
  have ha : K ∉ a := fun z => hne K (List.mem_append_left _ z) rfl
  have hb : K ∉ b := fun z => hne K (List.mem_append_right _ z) rfl
  have e0 : Rk.least (A ++ (K, K) :: B) [] = ((leastN (A ++ B) [] + 1 : Nat) : Int) := by
    rw [least_eq, x.least (ch := []) fun z => nomatch z]
  obtain ⟨s1, f1, f2, f3, f4⟩ := firstGo_spec (R := A ++ B) (many := ((leastN (A ++ B) [] : Nat) : Int)) (m := leastN (A ++ B) []) rfl a []
  rw [List.nil_append] at f1 f3
  have hs1 : K ∉ s1 := fun z => ha (f2.subset z)
  have hl : s1.length < leastN (A ++ B) [] + 1 := by
    have := leastN_ge (A ++ B) s1
    rw [f3 rfl] at this
    omega
  obtain ⟨s, g1, g2⟩ := x.go2 (leastN (A ++ B) []) b s1 [] hb hs1 (fun z => nomatch z)
  rw [List.append_nil] at g1
  have E1 : firstCover (A ++ B) = s1 ++ s := by
    unfold firstCover
    rw [least_eq, l2, go_app, f1, g1]
  have E2 : firstCover (A ++ (K, K) :: B) = s1 ++ K :: s := by
    unfold firstCover
    rw [e0, l1, go_app, x.go1 _ a [] ha (by simp), f1]
    show firstGo _ _ b (if (s1.length : Int) < _ ∧ _ then s1 ++ [K] else s1) = _
    rw [if_pos]
    · rw [g2, List.nil_append]
    · rw [least_eq, x.leastK (b := []) hs1 (by simp), List.append_nil, f3 rfl]
      omega
  have hs := first_asc (A ++ (K, K) :: B)
  rw [E2] at hs
  rw [E2, E1, asc_mid_srt hs]
theorem Ext.stills (x : Ext A B K) : stills (A ++ (K, K) :: B) = selfs A ++ K :: selfs B ∧ Rk.stills (A ++ B) = selfs A ++ selfs B := by
  rw [stills_selfs x.v, stills_selfs x.w, selfs_mid, selfs_two]
  exact ⟨rfl, rfl⟩
theorem Ext.pieces (x : Ext A B K) : piecesOf (A ++ (K, K) :: B) = srtT (piecesOf (A ++ B) ++ [[K]]) := by
  obtain ⟨t1, t2⟩ := x.stills
  have e : strikeAll (A ++ (K, K) :: B) (Rk.stills (A ++ (K, K) :: B)) = strikeAll (A ++ B) (Rk.stills (A ++ B)) := x.strikesK (fun r hr => hr) (by rw [t1]; simp) fun y hy => by
    rw [t1, t2, List.mem_append, List.mem_append, List.mem_cons]
    exact ⟨fun z => z.imp id fun u => u.resolve_left hy, fun z => z.imp id Or.inr⟩
  rw [pieces_eq, pieces_eq]
  refine srtT_congr ?_
  refine List.Perm.trans ?_ ((srtT_perm (piecesX (A ++ B))).symm.append_right _)
  unfold piecesX
  rw [e, x.rings, t1, t2, List.map_append, List.map_append, List.map_cons]
  generalize (selfs A).map (fun k => [k]) = u1
  generalize (selfs B).map (fun k => [k]) = u2
  generalize List.map (fun k => [k]) (peelGo _ _ _).2 = u3
  generalize List.flatMap _ _ = u4
  have : u1 ++ [K] :: u2 ++ u3 ++ u4 = u1 ++ ([[K]] ++ (u2 ++ u3 ++ u4)) := by simp
  rw [this]
  have : u1 ++ u2 ++ u3 ++ u4 ++ [[K]] = u1 ++ ((u2 ++ u3 ++ u4) ++ [[K]]) := by simp
  rw [this]
  exact List.Perm.append_left u1 List.perm_append_comm
theorem Ext.old_not (x : Ext A B K) : isCover (A ++ (K, K) :: B) (firstCover (A ++ B)) = false := by
  cases q : isCover (A ++ (K, K) :: B) (firstCover (A ++ B)) with
  | false => rfl
  | true =>
    have := VC.of_cover q (K, K) (ext_mr.mpr (Or.inr rfl))
    exact absurd (this.elim id id) x.first_ne
end
/-- such a row can be added -/
theorem ext_of {R : Rows} {K : Int} (w : WF R) (hl : R.length ≤ 39) (hK : inB K) (h : ∀ r ∈ R, r.1 ≠ K ∧ r.2 ≠ K) : ∃ A B, R = A ++ B ∧ tbl (R ++ [(K, K)]) = A ++ (K, K) :: B ∧ Ext A B K := by
  have g : Good (R ++ [(K, K)]) := by
    refine ⟨?_, fun r hr => ?_, by rw [List.length_append, List.length_singleton]; omega⟩
    · unfold keys
      rw [List.map_append]
      refine List.nodup_append.mpr ⟨w.nodup, by simp, fun a ha b hb e => ?_⟩
      obtain ⟨r, hr, e2⟩ := List.mem_map.mp ha
      have : b = K := by simpa using hb
      exact (h r hr).1 (e2.trans (e.trans this))
    · rcases List.mem_append.mp hr with hr | hr
      · exact w.bnd r hr
      · rw [List.mem_singleton.mp hr]; exact ⟨hK, hK⟩
  have v := tbl_wf g
  have p : (tbl (R ++ [(K, K)])).Perm (R ++ [(K, K)]) := srtP_perm _
  obtain ⟨A, B, e⟩ := List.append_of_mem (p.mem_iff.mpr (List.mem_append_right _ List.mem_cons_self))
  have eR : R = A ++ B := by
    have p2 : (A ++ B).Perm R := by
      rw [e] at p
      have p3 := (List.perm_middle.symm.trans p).trans (List.perm_append_comm (l₂ := [(K, K)]))
      exact List.Perm.cons_inv p3
    have ws : WF (A ++ B) := by
      rw [e] at v
      exact sub_wf v (List.Sublist.append_left (List.sublist_cons_self _ B) A)
    rw [← srtP_rows p2 w, ← srtP_rows (List.Perm.refl (A ++ B)) ws]
    exact (srtP_rows (List.Perm.refl (A ++ B)) ws).symm ▸ srtP_rows (List.Perm.refl (A ++ B)) ws
  subst eR
  rw [e] at v
  exact ⟨A, B, rfl, e, w, v, h⟩
end Rk
/-! part D40 -/
namespace Rk
open PySem PySem.Spec L2
theorem Da.strs {B : Hp} : ∀ {ss : List Str} {vs : List V}, Da B vs (ss.map .str) → vs = ss.map V.str
  | [], _, h => by cases h; rfl
  | s :: ss, _, h => by
    cases h with
    | cons h1 h2 => cases h1; rw [Da.strs h2]; rfl
theorem inV_str {k : Str} : ∀ {ss : List Str}, inV (.str k) (ss.map V.str) = decide (k ∈ ss)
  | [] => by simp [inV]
  | n :: ns => by
    have ih := inV_str (k := k) (ss := ns)
    unfold inV at ih ⊢
    rw [List.map_cons, List.any_cons, ih]
    show ((n == k) || decide (k ∈ ns)) = decide (k ∈ n :: ns)
    rw [Bool.beq_eq_decide_eq, ← Bool.decide_or]
    simp [List.mem_cons, eq_comm]
theorem flat_strs : ∀ ss : List Str, (ss.map V.str).all flatV = true
  | [] => rfl
  | n :: ns => by rw [List.map_cons, List.all_cons, flat_strs ns]; rfl
abbrev dS (ss : List Str) : PyData := .list (ss.map .str)
section
variable {P : Program} {w : World} {K : PySem.W.Frag} {mg : Str → Option Value} {base : Heap} {X : Cx} {Γ : Gm} {e : Expr} {pos p p1 p2 : Pos} {n : Nat}
theorem o_niS {k : Str} {ss : List Str} : Opt X (compareOp .NotIn) (tS k) (tD (dS ss)) (tB (!decide (k ∈ ss))) :=
  Opt.of op_notIn_seq fun u y H B Q sm rx ry q => by
    cases tS_R rx
    obtain ⟨a, xs, rfl, h1, h2, h3⟩ := tL_R ry
    cases h3.strs
    refine ⟨a, _, rfl, .inl (SqL.of (sm _ _ h1)), rfl, flat_strs ss, q _ _ _ (Stp.refl sm) ?_⟩
    rw [if_pos rfl, inV_str]; exact .bl _
theorem CT.chain {a b c : Expr} {ta tb tc : Ty} {op op' : CmpOp} {k k' : Bool} (ha : EV X Γ a ta) (hb : EV X Γ b tb) (hc : EV X Γ c tc) (ho : Opt X (compareOp op) ta tb (tB k)) (ho' : Opt X (compareOp op') tb tc (tB k')) (hm : lastMarks [op, op'] [b, c] = false := by rfl) : CT X Γ (.Compare a [op, op'] [b, c] pos) (k && k') := by
  refine PT.imp (pt_chain ho ho' ha hb hc hm) fun σ H Q ⟨B, sa, q⟩ => rd.two sa fun x y H1 B1 s1 rx ry => ⟨B1, s1.s, rx, ry, fun v H2 B2 s2 r2 => ⟨k, tB_R r2, ?_⟩⟩
  cases k with
  | true =>
    rw [if_pos rfl]
    exact ⟨B2, sa.mono (s1.trans s2), fun z H3 B3 s3 rz => ⟨B3, s3.s, tb.st (s2.b.trans s3.b) ry, rz, fun w H4 B4 s4 r4 => ⟨k', tB_R r4, by
      have := q H4 B4 ((s1.trans s2).trans (s3.trans s4))
      simpa using this⟩⟩⟩
  | false =>
    rw [if_neg (by decide)]
    exact ⟨false, rfl, q H2 B2 (s1.trans s2)⟩
abbrev nm_or : List Str := ["_law_table", "_law_keys", "_law_order", "_law_rule", "_law_outcome", "_law_again", "_law_key", "_law_good"]
theorem sc_law_or : FnScope nm_or ["_law_table", "_law_keys", "_law_order"] (defScope s_law_order_right) := ⟨rfl, rfl, rfl, by decide +kernel, rfl, by decide +kernel, by decide +kernel⟩
/-- which fates a row may have -/
def goodS (R : Rows) (order : List Int) (k : Int) : List Str := if k ∈ leftOf R order then ["always", "sometimes"] else ["never", "sometimes"]
theorem good_fate {R : Rows} {order : List Int} {k : Int} (wf : WF R) (hp : order.Perm (keys R)) (hk : k ∈ keys R) : Str.ofString (fate R k) ∈ goodS R order k := by
  have h := run_leftP wf hp
  unfold goodS
  by_cases c : k ∈ leftOf R order
  · rw [if_pos c]
    rcases h.fate_in wf c with z | z
    · rw [z]; exact List.mem_cons_self
    · rw [z]; exact List.mem_cons_of_mem _ List.mem_cons_self
  · rw [if_neg c]
    rcases h.fate_out wf hk c with z | z
    · rw [z]; exact List.mem_cons_self
    · rw [z]; exact List.mem_cons_of_mem _ List.mem_cons_self
theorem ok_law_order_right (T : Txt K mg) : DefT P w K mg base "_law_order_right" 13 (A := Rows × List Int × List Int) (fun a => [tT K a.1, tD (dI a.2.1), tD (dT a.2.2)]) (fun a => WF a.1 ∧ (∀ k ∈ a.2.1, k ∈ keys a.1) ∧ a.2.2.Perm (keys a.1)) (fun a => tB true) := by
  refine DefT.top T 52 68 sc_law_or (fun _ _ _ _ _ _ us hl => match us, hl with | [_, _, _], _ => rfl) (fun _ => rfl) fun f cdv Ar outer s H E a hp hr => ?_
  obtain ⟨R, ks, order⟩ := a
  obtain ⟨wf, hks, hperm⟩ := hp
  have wf : WF R := wf
  have hperm : order.Perm (keys R) := hperm
  have L := run_leftP wf hperm
  have la := left_asc wf hperm
  have ln := nodup_asc la
  have hll : (leftOf R order).length ≤ 40 := by
    have := ln.length_le_of_subset L.sub
    rw [keys_len] at this
    exact Nat.le_trans this wf.len
  have hset := L.isSet la
  have hleft := L.isLeft ln
  have hheld := held_eq wf hperm
  have hcov : isCover R (heldOf R order) = true := by rw [hheld]; exact L.cover wf
  have hn1 : (heldOf R order).Nodup := by rw [hheld]; exact (srt_perm _).nodup_iff.mpr (L.nd ln)
  have ha1 : (heldOf R order).Pairwise (· < ·) := by rw [hheld]; exact asc_of (srt_le _) ((srt_perm _).nodup_iff.mpr (L.nd ln))
  have hb1 : ∀ k ∈ heldOf R order, inB k := fun k hk => by
    have : allIn (heldOf R order) (wanted R) = true := by
      unfold isCover at hcov
      rw [Bool.and_eq_true] at hcov
      exact hcov.1
    exact wanted_bnd wf (allIn_iff.mp this k hk)
  have hlen : (endsOf (runP R order)).length = (heldOf R order).length := by unfold heldOf; rw [srt_len, List.length_map]
  have hperm2 := leaving_perm wf L
  have hl2 : leftOf R (orderLeaving R (leftOf R order)) = leftOf R order := leaving_left wf L la
  have hh2 : heldOf R (orderLeaving R (leftOf R order)) = heldOf R order := by rw [held_eq wf hperm2, hl2, hheld]
  refine GS.seq (G1.set 3 (EV.mkRep T) sc_law_or.nd) ?_
  refine GS.seq (G1.set 4 (EV.rule T (hr.mono (by decide)) (EV.var 3) (EV.var 0) (EV.var 2 (t := tD (dT order))) wf hperm) sc_law_or.nd) ?_
  refine GS.ifR (b := false) (CT.cast (CW.ct (CW.or (k := !decide (isLeft R (leftOf R order) = true)) (k' := !decide (isCover R (heldOf R order) = true)) (CT.cmp (EV.call (ok_can_be_left T) (R, leftOf R order) ⟨wf, hset, L.sub, hll⟩ (hr.mono (by decide)) (EA.cons (EV.var 0) (EA.one (EV.left T (hr.mono (by decide)) (EV.var 4 (t := tOut K R (endsOf (runP R order)))))))) EV.bl o_notB)
    fun _ => CW.or1 (CT.cmp (EV.call (ok_can_be_held T) (R, heldOf R order) ⟨wf, hb1, isAsc_of ha1⟩ (hr.mono (by decide)) (EA.cons (EV.var 0) (EA.one (EV.held T (hr.mono (by decide)) (EV.var 4 (t := tOut K R (endsOf (runP R order)))))))) EV.bl o_notB))) (by rw [hleft, hcov]; rfl)) (fun h => by cases h) fun _ => ?_
  refine GS.seq (G1.set 5 (EV.rule (order := orderLeaving R (leftOf R order)) T (hr.mono (by decide)) (EV.var 3) (EV.var 0) (EV.call (ok_order_leaving T) (R, leftOf R order) ⟨wf, hset, L.sub, hll, hleft⟩ (hr.mono (by decide)) (EA.cons (EV.var 0) (EA.one (EV.left T (hr.mono (by decide)) (EV.var 4 (t := tOut K R (endsOf (runP R order)))))))) wf hperm2) sc_law_or.nd) ?_
  refine GS.ifR (b := false) (CT.cast (CW.ct (CW.or (k := !PyData.eqv (dT (leftOf R (orderLeaving R (leftOf R order)))) (dT (leftOf R order))) (k' := !PyData.eqv (dT (heldOf R (orderLeaving R (leftOf R order)))) (dT (heldOf R order)))
    (CT.cmp (EV.left T (hr.mono (by decide)) (EV.var 5 (t := tOut K R (endsOf (runP R (orderLeaving R (leftOf R order))))))) (EV.left T (hr.mono (by decide)) (EV.var 4 (t := tOut K R (endsOf (runP R order))))) (o_neD hr.units (shaped_dT _) (shaped_dT _)))
    fun _ => CW.or1 (CT.cmp (EV.held T (hr.mono (by decide)) (EV.var 5 (t := tOut K R (endsOf (runP R (orderLeaving R (leftOf R order))))))) (EV.held T (hr.mono (by decide)) (EV.var 4 (t := tOut K R (endsOf (runP R order))))) (o_neD hr.units (shaped_dT _) (shaped_dT _))))) (by rw [eqv_dT, eqv_dT, hl2, hh2, decide_eq_true rfl, decide_eq_true rfl]; rfl)) (fun h => by cases h) fun _ => ?_
  refine GS.ifR (b := false) (CT.cast (CT.not (CT.chain (k := decide (((firstCover R).length : Int) ≤ ((heldOf R order).length : Nat))) (k' := decide ((((heldOf R order).length : Nat) : Int) ≤ ((mostLeft R).length : Int)))
    (EV.cast (EV.callB (T.free 5) c_lenT (EA.one (EV.ixT (ds := [dT (firstCover R), .tuple (dF (piecesOf R))]) (d := dT (firstCover R)) (EV.call (ok_fewest_left T) R wf (hr.mono (by decide)) (EA.one (EV.var 0))) EV.int (by rfl)))) (by rw [List.length_map]))
    (EV.cast (EV.callB (T.free 5) (c_lenO T (hr.mono (by decide)) (by rw [hlen]; have := hn1.length_le_of_subset (fun x hx => hx); have := held_le_most wf hn1 hcov; have := (most_sub R).length_le; have := wanted_len R; have := wf.len; omega)) (EA.one (EV.var 4 (t := tOut K R (endsOf (runP R order)))))) (by rw [hlen]))
    (EV.cast (EV.callB (T.free 5) c_lenT (EA.one (EV.call (ok_most_left T) R wf (hr.mono (by decide)) (EA.one (EV.var 0))))) (by rw [List.length_map])) o_le o_le)) (by
      have h1 := first_le wf hn1 hcov
      have h2 := held_le_most wf hn1 hcov
      rw [decide_eq_true (by omega), decide_eq_true (by omega)]; rfl)) (fun h => by cases h) fun _ => ?_
  let Iv : Nat → Gm → Prop := fun i Γ => ∃ a b, Γ = [some (.ty (tT K R)), some (.ty (tD (dI ks))), some (.ty (tD (dT order))), some (.ty (tRep K)), some (.ty (tOut K R (endsOf (runP R order)))), some (.ty (tOut K R (endsOf (runP R (orderLeaving R (leftOf R order)))))), a, b]
  refine GS.cons (N1 := Iv 0) (G1.forN 6 Iv (IV.list (c := fun k : Int => .int k) (xs := ks) (EV.var 1 (t := tD (dI ks)))) ⟨_, _, rfl⟩ sc_law_or.nd ?_ fun Γi h => h) ?_
  · rintro i k Γi hi ⟨a, b, rfl⟩
    have hk : k ∈ keys R := hks k (List.mem_of_getElem? hi)
    refine GS.seq (G1.set 7 (EV.ifE (t := tD (dS (goodS R order k))) (k := decide (k ∈ leftOf R order)) (CT.cmp (EV.var 6 (t := tI k)) (EV.left T (hr.mono (by decide)) (EV.var 4 (t := tOut K R (endsOf (runP R order))))) o_inT) (fun h => EV.cast (EV.lst (ds := [.str "always", .str "sometimes"]) (EA.cons EV.str (EA.one EV.str))) (by unfold goodS; rw [if_pos (of_decide_eq_true h)]; rfl)) fun h => EV.cast (EV.lst (ds := [.str "never", .str "sometimes"]) (EA.cons EV.str (EA.one EV.str))) (by unfold goodS; rw [if_neg (of_decide_eq_false h)]; rfl)) sc_law_or.nd) ?_
    refine GS.ifR (b := false) (CT.cast (CT.cmp (EV.call (ok_left_fate T) (R, k) ⟨wf, hk⟩ (hr.mono (by decide)) (EA.cons (EV.var 0) (EA.one (EV.var 6)))) (EV.var 7 (t := tD (dS (goodS R order k)))) o_niS) (by rw [decide_eq_true (good_fate wf hperm hk)]; rfl)) (fun h => by cases h) fun _ => ?_
    exact GS.nil ⟨_, _, rfl⟩
  · rintro _ ⟨a, b, rfl⟩
    exact GS.one (G1.ret EV.bl)
end
end Rk
/-! part D41 -/
namespace Rk
open PySem PySem.Spec L2
section
variable {P : Program} {w : World} {K : PySem.W.Frag} {mg : Str → Option Value} {base : Heap} {X : Cx} {Γ : Gm} {e : Expr} {pos p p1 p2 : Pos} {n : Nat}
abbrev nm_mr : List Str := ["_law_table", "_law_keys", "_law_key", "_law_more", "_law_least", "_law_held", "_law_pieces", "_law_one"]
theorem sc_law_mr : FnScope nm_mr ["_law_table", "_law_keys"] (defScope s_law_more_right) := ⟨rfl, rfl, rfl, by decide +kernel, rfl, by decide +kernel, by decide +kernel⟩
abbrev k29 : Int := 100000000000000000000000000001
theorem inB29 : inB k29 := by unfold inB B30 k29; omega
theorem dT_snoc (l : List Int) (k : Int) : (.tuple (l.map PyData.int ++ [.int k]) : PyData) = dT (l ++ [k]) := by rw [dT, List.map_append]; rfl
theorem dF_snoc (l : List (List Int)) (k : Int) : (.tuple (dF l ++ [dT [k]]) : PyData) = .tuple ((l ++ [[k]]).map fun r => dT r) := by rw [List.map_append]; rfl
/-- what holds of the table with the row added -/
theorem mr_facts {R : Rows} (wf : WF R) (hl : R.length ≤ 39) (hne : ∀ r ∈ R, r.1 ≠ k29 ∧ r.2 ≠ k29) : ∃ S, tbl (R ++ [(k29, k29)]) = S ∧ Good (R ++ [(k29, k29)]) ∧ WF S ∧ k29 ∈ keys S ∧ (∀ k ∈ keys R, k ∈ keys S) ∧ countCovers S = countCovers R ∧ fate S k29 = "always" ∧ mostLeft S = srt (mostLeft R ++ [k29]) ∧
    firstCover S = srt (firstCover R ++ [k29]) ∧ piecesOf S = srtT (piecesOf R ++ [[k29]]) ∧ isCover S (firstCover R) = false ∧ ∀ k ∈ keys R, fate S k = fate R k := by
  obtain ⟨A, B, rfl, eT, x⟩ := ext_of wf hl inB29 hne
  refine ⟨_, eT, ?_, x.v, ext_mk.mpr (Or.inr rfl), fun k hk => ext_mk.mpr (Or.inl hk), x.count, x.fateK, x.most, x.first, x.pieces, x.old_not, fun k hk => x.fate hk⟩
  refine ⟨?_, fun r hr => ?_, by rw [List.length_append, List.length_singleton]; omega⟩
  · unfold keys
    rw [List.map_append]
    refine List.nodup_append.mpr ⟨wf.nodup, by simp, fun a ha b hb e => ?_⟩
    obtain ⟨r, hr, e2⟩ := List.mem_map.mp ha
    have : b = k29 := by simpa using hb
    exact (hne r hr).1 (e2.trans (e.trans this))
  · rcases List.mem_append.mp hr with hr | hr
    · exact wf.bnd r hr
    · rw [List.mem_singleton.mp hr]; exact ⟨inB29, inB29⟩
theorem ok_law_more_right (T : Txt K mg) : DefT P w K mg base "_law_more_right" 13 (A := Rows × List Int) (fun a => [tT K a.1, tD (dI a.2)]) (fun a => WF a.1 ∧ (∀ k ∈ a.2, k ∈ keys a.1) ∧ a.1.length ≤ 39 ∧ ∀ r ∈ a.1, r.1 ≠ k29 ∧ r.2 ≠ k29) (fun a => tB true) := by
  refine DefT.top T 53 69 sc_law_mr (fun _ _ _ _ _ _ us hl => match us, hl with | [_, _], _ => rfl) (fun _ => rfl) fun f cdv Ar outer s H E a hp hr => ?_
  obtain ⟨R, ks⟩ := a
  obtain ⟨wf, hks, hlen, hne⟩ := hp
  have wf : WF R := wf
  have hlen : R.length ≤ 39 := hlen
  obtain ⟨S, eT, g, wS, kS, sS, e1, e2, e3, e4, e5, e6, e7⟩ := mr_facts wf hlen hne
  have hml : (mostLeft R).length ≤ 40 := by have := (most_sub R).length_le; have := wanted_len R; omega
  have hfl : (firstCover R).length ≤ 40 := by have := (first_sub R).length_le; have := wanted_len R; omega
  have shR := shows_pieces wf
  have u16 := Nat.lt_of_le_of_lt (Nat.add_le_add_left (show 16 ≤ 64 from by decide) _) hr.units
  have iF := shR.key
  have cF := shR.asc
  have shS := shows_pieces wS
  refine GS.seq (G1.set 2 (EV.cast (tb := tI k29) (EV.bin (EV.bin EV.int EV.int (o_pow ⟨by decide, by decide, by decide⟩)) EV.int o_add) (by congr 1)) sc_law_mr.nd) ?_
  refine GS.seq (G1.unp2 (u1 := tT K S) (u2 := tD (dFew (firstCover R) (piecesOf R))) 3 4 (EV.tupT (EA.cons (EV.cast (EV.bin (EV.var 0 (t := tT K R)) (EV.tup (ds := [dP (k29, k29)]) (EA.one (EV.tup (ds := [.int k29, .int k29]) (EA.cons (EV.var 2) (EA.one (EV.var 2)))))) (o_addTab (l := [(k29, k29)]) T (hr.mono (by decide)) wf g)) (by rw [eT]; rfl)) (EA.one (EV.call (ok_fewest_left T) R wf (hr.mono (by decide)) (EA.one (EV.var 0)))))) sc_law_mr.nd) ?_
  refine GS.ifR (b := false) (CT.cast (CW.ct (CW.or (k := !decide (countCovers S = countCovers R)) (k' := !decide (Str.ofString (fate S k29) = "always")) (CT.cmp (EV.call (ok_count_held T) S wS (hr.mono (by decide)) (EA.one (EV.var 3))) (EV.call (ok_count_held T) R wf (hr.mono (by decide)) (EA.one (EV.var 0))) o_neI)
    fun _ => CW.or1 (CT.cmp (EV.call (ok_left_fate T) (S, k29) ⟨wS, kS⟩ (hr.mono (by decide)) (EA.cons (EV.var 3) (EA.one (EV.var 2)))) EV.str o_neS))) (by rw [decide_eq_true e1, e2, decide_eq_true rfl]; rfl)) (fun h => by cases h) fun _ => ?_
  refine GS.ifR (b := false) (CT.cast (CT.cmp (EV.call (ok_most_left T) S wS (hr.mono (by decide)) (EA.one (EV.var 3))) (EV.callT (T.free 3) c_tupL (EA.one (EV.callB (T.free 9) (c_sortIT (ns := mostLeft R ++ [k29]) u16) (EA.one (EV.cast (EV.bin (EV.call (ok_most_left T) R wf (hr.mono (by decide)) (EA.one (EV.var 0))) (EV.tup (ds := [.int k29]) (EA.one (EV.var 2))) (o_catT (by rw [List.length_map, List.length_singleton]; unfold lim; omega))) (by rw [dT_snoc])))))) (o_neD hr.units (shaped_dT _) (shaped_dT _))) (by rw [eqv_dT, decide_eq_true e3]; rfl)) (fun h => by cases h) fun _ => ?_
  have hpl : (piecesOf R).length ≤ 50 := shR.len
  have hne2 : ∀ r ∈ piecesOf R ++ [[k29]], r ≠ [] := fun r hr => by
    rcases List.mem_append.mp hr with hr | hr
    · have := shR.pcs r hr
      intro z
      subst z
      unfold isPiece at this
      simp at this
    · rw [List.mem_singleton.mp hr]; exact fun z => nomatch z
  refine GS.seq (G1.par2 (u1 := tD (dT (firstCover S))) (u2 := tD (.tuple (dF (piecesOf S)))) 5 6
    (EV.callT (T.free 3) c_tupL (EA.one (EV.cast (EV.callB (T.free 9) (c_sortIT (ns := firstCover R ++ [k29]) u16) (EA.one (EV.cast (EV.bin (EV.ixT (ds := [dT (firstCover R), .tuple (dF (piecesOf R))]) (d := dT (firstCover R)) (EV.var 4) EV.int (by rfl)) (EV.tup (ds := [.int k29]) (EA.one (EV.var 2))) (o_catT (by rw [List.length_map, List.length_singleton]; unfold lim; omega))) (by rw [dT_snoc])))) (by rw [e4]))))
    (EV.callT (T.free 3) c_tupL (EA.one (EV.cast (EV.callB (T.free 9) (c_sortTT (l := piecesOf R ++ [[k29]]) hne2 u16) (EA.one (EV.cast (EV.bin (EV.ixT (ds := [dT (firstCover R), .tuple (dF (piecesOf R))]) (d := .tuple (dF (piecesOf R))) (EV.var 4) EV.int (by rfl)) (EV.tup (ds := [dT [k29]]) (EA.one (EV.tup (ds := [.int k29]) (EA.one (EV.var 2))))) (o_catT (by rw [List.length_map, List.length_singleton]; unfold lim; omega))) (by rw [dF_snoc])))) (by rw [e5])))) sc_law_mr.nd) ?_
  refine GS.ifR (b := false) (CT.cast (CW.ct (CW.or (k := !decide (true = true)) (k' := !PyData.eqv (dT (firstCover S)) (dT (firstCover S))) (CT.cmp (EV.call (ok_shows_fewest T) (S, firstCover S, piecesOf S) ⟨wS, shS⟩ (hr.mono (by decide)) (EA.cons (EV.var 3) (EA.one (EV.tup (ds := [dT (firstCover S), .tuple (dF (piecesOf S))]) (EA.cons (EV.var 5) (EA.one (EV.var 6))))))) EV.bl o_notB)
    fun _ => CW.or1 (CT.cmp (EV.ixT (ds := [dT (firstCover S), .tuple (dF (piecesOf S))]) (d := dT (firstCover S)) (EV.call (ok_fewest_left T) S wS (hr.mono (by decide)) (EA.one (EV.var 3))) EV.int (by rfl)) (EV.var 5) (o_neD hr.units (shaped_dT _) (shaped_dT _))))) (by rw [eqv_dT, decide_eq_true (rfl : firstCover S = firstCover S)]; rfl)) (fun h => by cases h) fun _ => ?_
  refine GS.ifR (b := false) (CT.cast (CW.ct (CW.or (k := !decide (isCover S (firstCover R) = false)) (k' := !decide (isCover S (firstCover S) = true)) (CT.cmp (EV.call (ok_can_be_held T) (S, firstCover R) ⟨wS, iF, cF⟩ (hr.mono (by decide)) (EA.cons (EV.var 3) (EA.one (EV.ixT (ds := [dT (firstCover R), .tuple (dF (piecesOf R))]) (d := dT (firstCover R)) (EV.var 4) EV.int (by rfl))))) EV.bl o_notB)
    fun _ => CW.or1 (CT.cmp (EV.call (ok_can_be_held T) (S, firstCover S) ⟨wS, shS.key, shS.asc⟩ (hr.mono (by decide)) (EA.cons (EV.var 3) (EA.one (EV.var 5)))) EV.bl o_notB))) (by rw [e6, shS.cov]; rfl)) (fun h => by cases h) fun _ => ?_
  have hfil : (ks.filter fun k => !decide (Str.ofString (fate S k) = Str.ofString (fate R k))) = [] := List.filter_eq_nil_iff.mpr fun k hk z => by
    rw [e7 k (hks k hk), decide_eq_true rfl] at z
    cases z
  refine GS.one (G1.ret (EV.cast (EV.eqNil (ns := []) hr (EV.cast (EV.lc (pd := fun k : Int => !decide (Str.ofString (fate S k) = Str.ofString (fate R k))) (f := fun k : Int => .int k) [("_law_one", 7)] (IV.list (c := fun k : Int => .int k) (xs := ks) (EV.var 1 (t := tD (dI ks)))) (fun s H C cl fp => pg_name (i := 7) sc_law_mr.nd rfl (Or.inl rfl)) (TgOk.name 7)
    (fun k hk s H C cl fp => CTs.one (CT.cmp (EV.call (ok_left_fate T) (S, k) ⟨wS, sS k (hks k hk)⟩ (hr.mono (by decide)) (EA.cons (EV.var 3) (EA.one (EV.var 7 (t := tI k))))) (EV.call (ok_left_fate T) (R, k) ⟨wf, hks k hk⟩ (hr.mono (by decide)) (EA.cons (EV.var 0) (EA.one (EV.var 7 (t := tI k))))) o_neS))
    (fun k hk _ s H C cl fp => EV.var 7 (t := tI k)) sc_law_mr.nd) (by rw [hfil]; try rfl))) (by rw [decide_eq_true rfl])))
end
end Rk
/-! part D42 -/
namespace Rk
open PySem PySem.Spec L2
section
variable {P : Program} {w : World} {K : PySem.W.Frag} {mg : Str → Option Value} {base : Heap} {X : Cx} {Γ : Gm} {e : Expr} {pos p p1 p2 pp : Pos} {n i : Nat} {x : Str} {C K1 : Gm → Prop} {t : Ty}
/-- pen = _law_pen(cell) -/
def rdPen (Γ : Gm) : TE := fun σ H Q => ∃ B, Sa Γ σ H B ∧ ∀ p ws H' B', Stp H B H' B' → H p = none → B' p = none → H' p = some (.lst ws) → PenOk 1 ws → Q (.ref p) H'
theorem pe_pen {cell : Int} (T : Txt X.K X.mg) (hr : Room 1 X.A) (he : EV X Γ e (tI cell)) (hg : Gl X "_law_pen" := by rfl) (hs : starEach [e] X.env = (false, eval e X.env) :: starEach [] X.env := by rfl) (hpl : (backTo pos (starEach [] X.env)).any (·.1) = false := by rfl) :
    PE X (.Call (.Name "_law_pen" pp) [e] [] pos) (rdPen Γ) := by
  obtain ⟨fd, F, hb, hk⟩ := ok_law_pen (P := X.prog) (w := X.w) (base := X.base) T
  refine PE.imp (pe_call F hr hg (T.glo 63) hk hb .nil pass0 (EA.one he hs) (hdb := by decide) (he := hs) (hpl := hpl)) fun σ H Q ⟨B, sa, q⟩ => ⟨B, sa, fun vs H1 B1 s1 r1 => ?_⟩
  obtain ⟨v, rfl, h⟩ := r1.one
  cases tI_R h
  refine ⟨cell, rfl, fun p ws H' k h1 h2 h3 => q p ws H' B1 (s1.trans (Stp.grow s1.s k)) (s1.h.free h1) (s1.s.free h1) h2 h3⟩
theorem G1.setPen {cell : Int} {pos' : Pos} (i : Nat) (T : Txt X.K X.mg) (hr : Room 1 X.A) (he : EV X Γ e (tI cell)) (nd : X.N.Nodup) (hl : i < Γ.length := by exact Nat.le_of_ble_eq_true rfl) (hg : Gl X "_law_pen" := by rfl) (hse : starEach [e] X.env = (false, eval e X.env) :: starEach [] X.env := by rfl) (hpl : (backTo pos (starEach [] X.env)).any (·.1) = false := by rfl) (hi : X.N[i]? = some x := by rfl) (hx : Loc X.env.scope x := by first | exact .inl rfl | exact .inr rfl)
    (hs : swapsWith (.Call (.Name "_law_pen" pp) [e] [] pos) (some (.Name x pos')) p.line X.env = pure false := by rfl) (hf : X.fn x = true ∨ X.env.scope.names.lookup x = some .local := by first | exact .inl rfl | exact .inr rfl) :
    G1 X Γ (.Assign [.Name x pos'] (.Call (.Name "_law_pen" pp) [e] [] pos) p) (fun Γ' => ∃ q, Γ' = Γ.set i (some (.own (oPen q 1)))) C K1 t :=
  PS.imp (ps_set nd hi hx (pe_pen T hr he hg hse hpl) hs hf) fun D σ H ⟨H0, B0, Bl, B, s, nx, _⟩ => ⟨B, s.sa, fun q ws H1 B1 k h1 h2 h3 h4 => by
    have s' := s.step k
    refine nx _ _ _ B1 ⟨q, rfl⟩ (s'.takeOwn (os := oPen q 1) hl (s.sp.h.free h1) h2 h3 (fun m om e e2 => ?_) ⟨rfl, ws, rfl, h4⟩)
    obtain ⟨q', hh, a1, _, _, a4, _⟩ := s.ow m om e
    rw [e2] at a1; cases a1
    rw [h1] at a4; cases a4⟩
end
end Rk
/-! part D43 -/
namespace Rk
open PySem PySem.Spec L2
def dT3 (t : Int × Int × Int) : PyData := .tuple [.int t.1, .int t.2.1, .int t.2.2]
def rk3 (R : Rows) (order : List Int) : List (List Int) := order.zipIdx.map fun q => [((pathOf R q.1).length : Int), (q.2 : Int), q.1]
theorem ranks_three (R : Rows) (order : List Int) : ∃ ts : List (Int × Int × Int), ((srtT (rk3 R order)).map fun r => dT r) = ts.map dT3 ∧ (ts.map fun t => t.2.2).Perm order := by
  refine ⟨(srtT (rk3 R order)).map fun r => (r.getD 0 0, r.getD 1 0, r.getD 2 0), ?_, ?_⟩
  · rw [List.map_map]
    refine List.map_congr_left fun r hr => ?_
    obtain ⟨q, _, rfl⟩ := List.mem_map.mp (mem_srtT.mp hr)
    rfl
  · rw [List.map_map]
    refine ((srtT_perm (rk3 R order)).map _).trans (List.Perm.of_eq ?_)
    unfold rk3
    rw [List.map_map]
    show order.zipIdx.map (fun q => q.1) = order
    simp
theorem Pairs.good {m : Nat} {l : Rows} (h : Pairs m l) (hm : m ≤ 39) : Good l := ⟨h.nd, fun r hr => ⟨(h.bnd r hr).1.1, (h.bnd r hr).2.1⟩, by have := h.len; omega⟩
theorem tbl_perm (l : Rows) : (tbl l).Perm l := srtP_perm l
theorem keys_perm (l : Rows) : (keys (tbl l)).Perm (l.map (·.1)) := (tbl_perm l).map _
section
variable {P : Program} {w : World} {K : PySem.W.Frag} {mg : Str → Option Value} {base : Heap} {X : Cx} {Γ : Gm} {e : Expr} {pos p p1 p2 pp : Pos} {n i : Nat} {x : Str} {C K1 : Gm → Prop} {t : Ty}
abbrev nm_law : List Str := ["_law_script", "_law_cell", "_law_pen_here", "_law_pairs_here", "_law_table", "_law_keys", "_law_order", "_law_ranks", "_law_some", "_law_told", "_law_key", "_law_new", "_law_at", "_law_many"]
theorem sc_law : FnScope nm_law ["_law_script"] (defScope s_law) := ⟨rfl, rfl, rfl, by decide +kernel, rfl, by decide +kernel, by decide +kernel⟩
abbrev cxLw (P : Program) (w : World) (K : PySem.W.Frag) (mg : Str → Option Value) (base : Heap) (f : Addr) (cdv : Value) (Ar : Around) (outer : List Env) (s : Shared) (H : Hp) (E : XK) : Cx := (cxOf CX0 P w K mg base nm_law "law" (defScope s_law) f cdv Ar outer s H E).nox
abbrev bodyLw : List Stmt := match (defBody s_law).getD 0 (.Break ⟨0, 0, 0, 0⟩) with
  | .For _ _ b _ _ => b
  | _ => []
abbrev gLw (K : PySem.W.Frag) (sc : List Int) (x1 x2 x3 x4 x5 x6 x7 x8 x9 x10 x11 x12 x13 : Option Sl) : Gm := [some (.ty (tSc K sc)), x1, x2, x3, x4, x5, x6, x7, x8, x9, x10, x11, x12, x13]
variable {f : Addr} {cdv : Value} {Ar : Around} {outer : List Env} {s : Shared} {H : Hp} {E : XK} {N : Gm → Prop}
/-- pairs_here = _law_pairs(pen, pick(pen, [39, 12, 12])) -/
theorem lw_pairs (T : Txt K mg) (hr : Room 13 (cxLw P w K mg base f cdv Ar outer s H E).A) {sc : List Int} {q : Addr} {x1 x3 x4 x5 x6 x7 x8 x9 x10 x11 x12 x13 : Option Sl} :
    G1 (cxLw P w K mg base f cdv Ar outer s H E) (gLw K sc x1 (some (.own (oPen q 1))) x3 x4 x5 x6 x7 x8 x9 x10 x11 x12 x13) (bodyLw.getD 1 (.Break ⟨0, 0, 0, 0⟩)) (fun Γ' => ∃ (m : Nat) (l : Rows), m ≤ 39 ∧ Pairs m l ∧ Γ' = gLw K sc x1 (some (.own (oPen q 2002))) (some (.ty (tD (dR l)))) x4 x5 x6 x7 x8 x9 x10 x11 x12 x13) C K1 t := by
  refine G1.to (G1.setP (i := 2) (n := 1) (n' := 1 + 1 + 2000) (p0 := q) 3 (EVp.callP (A := Nat) (P := fun m => m ≤ 39) (m := 2000) (ok_law_pairs (P := P) (w := w) (base := base) T) (fun m => m) (fun _ h => h) (fun _ _ => rfl) (hr.mono (by decide))
    (EAp.one (EVp.imp (EVp.pick (A := Unit) (PA := fun _ => True) (fs := fun _ => [.int 39, .int 12, .int 12]) T (hr.mono (by decide)) (EVp.of (EV.lst (EA.cons EV.int (EA.cons EV.int (EA.one EV.int))))) (fun _ _ => ⟨by simp, by decide⟩) (by decide) (pe_var rfl (Or.inl rfl))) (fun m : Nat => m ≤ 39) (fun m => tI (m : Nat)) fun c hc => ?_)) (by decide) (pe_var rfl (Or.inl rfl))) sc_law.nd) ?_
  · obtain ⟨_, hc⟩ := hc
    simp only [List.mem_cons, List.not_mem_nil, or_false] at hc
    rcases hc with hc | hc | hc
    · exact ⟨39, by decide, fun v B h => by rw [hc] at h; exact h⟩
    · exact ⟨12, by decide, fun v B h => by rw [hc] at h; exact h⟩
    · exact ⟨12, by decide, fun v B h => by rw [hc] at h; exact h⟩
  · rintro _ ⟨⟨m, l⟩, ⟨h1, h2⟩, rfl⟩
    exact ⟨m, l, h1, h2, rfl⟩
/-- table, keys = Table() + tuple(pairs_here), [key for key, new in pairs_here] -/
theorem lw_table (T : Txt K mg) (hr : Room 13 (cxLw P w K mg base f cdv Ar outer s H E).A) {sc : List Int} {m : Nat} {l : Rows} (hm : m ≤ 39) (hp : Pairs m l) {x1 x2 x4 x5 x6 x7 x8 x9 x10 x11 x12 x13 : Option Sl} :
    G1 (cxLw P w K mg base f cdv Ar outer s H E) (gLw K sc x1 x2 (some (.ty (tD (dR l)))) x4 x5 x6 x7 x8 x9 x10 x11 x12 x13) (bodyLw.getD 2 (.Break ⟨0, 0, 0, 0⟩)) (· = gLw K sc x1 x2 (some (.ty (tD (dR l)))) (some (.ty (tT K (tbl l)))) (some (.ty (tD (dI (l.map (·.1)))))) x6 x7 x8 x9 x10 x11 x12 x13) C K1 t := by
  have w0 : WF ([] : Rows) := ⟨List.Pairwise.nil, fun _ z => (nomatch z), Nat.zero_le _⟩
  refine G1.to (G1.unp2 (u1 := tT K (tbl l)) (u2 := tD (dI (l.map (·.1)))) 4 5 (EV.tupT (EA.cons (EV.cast (EV.bin (EV.mkTab0 T (hr.mono (by decide))) (EV.callT (T.free 3) c_tupL (EA.one (EV.var 3 (t := tD (dR l))))) (o_addTab (R := []) (l := l) T (hr.mono (by decide)) w0 (hp.good hm))) rfl)
    (EA.one (EV.cast (EV.lc (pd := fun _ => true) (f := fun r : Int × Int => .int r.1) [("_law_key", 10), ("_law_new", 11)] (IV.list (c := dP) (xs := l) (EV.var 3 (t := tD (dR l)))) (fun s H C cl fp => pg_tup rfl (pgs_cons (pg_name (i := 10) sc_law.nd rfl (Or.inl rfl)) (pgs_cons (pg_name (i := 11) sc_law.nd rfl (Or.inl rfl)) pgs_nil))) (TgOk.pair 10 11) (fun r _ s H C cl fp => CTs.nil) (fun r _ _ s H C cl fp => EV.var 10 (t := tI r.1)) sc_law.nd) (by rw [filter_yes, dI, List.map_map]; rfl))))) sc_law.nd) ?_
  rintro _ rfl
  rfl
/-- ranks = sorted([..]) -/
theorem lw_ranks (T : Txt K mg) (hr : Room 13 (cxLw P w K mg base f cdv Ar outer s H E).A) {sc : List Int} {R : Rows} {order : List Int} (wf : WF R) (ho : ∀ k ∈ order, k ∈ keys R) {x1 x2 x3 x5 x7 x8 x9 x10 x11 x12 x13 : Option Sl} :
    G1 (cxLw P w K mg base f cdv Ar outer s H E) (gLw K sc x1 x2 x3 (some (.ty (tT K R))) x5 (some (.ty (tD (dI order)))) x7 x8 x9 x10 x11 x12 x13) (bodyLw.getD 4 (.Break ⟨0, 0, 0, 0⟩)) (fun Γ' => ∃ ts : List (Int × Int × Int), (ts.map fun t => t.2.2).Perm order ∧ Γ' = gLw K sc x1 x2 x3 (some (.ty (tT K R))) x5 (some (.ty (tD (dI order)))) (some (.ty (tD (.list (ts.map dT3))))) x8 x9 x10 x11 x12 x13) C K1 t := by
  obtain ⟨ts, e1, e2⟩ := ranks_three R order
  refine G1.to (G1.set (u := tD (.list (ts.map dT3))) 7 (EV.cast (EV.callB (T.free 9) (c_sortTL (l := rk3 R order) (fun r hr => by obtain ⟨q, _, rfl⟩ := List.mem_map.mp hr; exact fun z => nomatch z) (hu16 hr)) (EA.one (EV.cast (EV.lc (pd := fun _ => true) (f := fun q : Int × Nat => dT [((pathOf R q.1).length : Int), (q.2 : Int), q.1]) [("_law_at", 12), ("_law_key", 10)] (IV.enum (c := fun k : Int => .int k) (xs := order) (T.free 15) (EV.var 6 (t := tD (dI order)))) (fun s H C cl fp => pg_tup rfl (pgs_cons (pg_name (i := 12) sc_law.nd rfl (Or.inl rfl)) (pgs_cons (pg_name (i := 10) sc_law.nd rfl (Or.inl rfl)) pgs_nil))) (TgOk.pair 12 10) (fun q _ s H C cl fp => CTs.nil)
    (fun q hq _ s H C cl fp => EV.tup (ds := [.int ((pathOf R q.1).length : Int), .int (q.2 : Int), .int q.1]) (EA.cons (EV.cast (EV.callB (T.free 5) c_lenT (EA.one (EV.ixT (ds := [dT (pathOf R q.1), .str (endS R (pathOf R q.1))]) (d := dT (pathOf R q.1)) (EV.call (ok_path T) (R, q.1) ⟨wf, ho q.1 ?_⟩ (hr.mono (by decide)) (EA.cons (EV.var 4 (t := tT K R)) (EA.one (EV.var 10 (t := tI q.1))))) EV.int (by rfl)))) (by rw [List.length_map])) (EA.cons (EV.var 12 (t := tI (q.2 : Int))) (EA.one (EV.var 10 (t := tI q.1)))))) sc_law.nd) (by rw [filter_yes]; unfold rk3; rw [List.map_map]; rfl)))) (by rw [e1])) sc_law.nd) ?_
  · have : q.1 ∈ order.zipIdx.map fun q => q.1 := List.mem_map.mpr ⟨q, hq, rfl⟩
    simpa using this
  · rintro _ rfl
    exact ⟨ts, e2, rfl⟩
/-- for some in [order, [.. ranks], [.. ranks[::-1]]]: .. -/
theorem lw_some (T : Txt K mg) (hr : Room 13 (cxLw P w K mg base f cdv Ar outer s H E).A) {sc : List Int} {R : Rows} {order ks : List Int} {ts : List (Int × Int × Int)} (wf : WF R) (hk : ks.Perm (keys R)) (ho : order.Perm (keys R)) (ht : (ts.map fun t => t.2.2).Perm order) {x1 x2 x3 x8 x9 x10 x11 x12 x13 : Option Sl} :
    G1 (cxLw P w K mg base f cdv Ar outer s H E) (gLw K sc x1 x2 x3 (some (.ty (tT K R))) (some (.ty (tD (dI ks)))) (some (.ty (tD (dI order)))) (some (.ty (tD (.list (ts.map dT3))))) x8 x9 x10 x11 x12 x13) (bodyLw.getD 5 (.Break ⟨0, 0, 0, 0⟩)) (fun Γ' => ∃ y, Γ' = gLw K sc x1 x2 x3 (some (.ty (tT K R))) (some (.ty (tD (dI ks)))) (some (.ty (tD (dI order)))) (some (.ty (tD (.list (ts.map dT3))))) y x9 x10 x11 x12 x13) C K1 (tB true) := by
  have hk2 : ∀ k ∈ ks, k ∈ keys R := fun k h => hk.mem_iff.mp h
  have hos : ∀ o ∈ [order, ts.map (fun t => t.2.2), ts.reverse.map (fun t => t.2.2)], o.Perm (keys R) := fun o h => by
    simp only [List.mem_cons, List.not_mem_nil, or_false] at h
    rcases h with rfl | rfl | rfl
    · exact ho
    · exact ht.trans ho
    · rw [List.map_reverse]; exact ((List.reverse_perm _).trans ht).trans ho
  refine G1.forN 8 (fun _ Γ' => ∃ y, Γ' = gLw K sc x1 x2 x3 (some (.ty (tT K R))) (some (.ty (tD (dI ks)))) (some (.ty (tD (dI order)))) (some (.ty (tD (.list (ts.map dT3))))) y x9 x10 x11 x12 x13) (IV.list (c := fun o : List Int => dI o) (xs := [order, ts.map (fun t => t.2.2), ts.reverse.map (fun t => t.2.2)])
    (EV.lst (ds := [dI order, dI (ts.map fun t => t.2.2), dI (ts.reverse.map fun t => t.2.2)]) (EA.cons (EV.var 6 (t := tD (dI order)))
      (EA.cons (EV.cast (EV.lc (pd := fun _ => true) (f := fun t : Int × Int × Int => .int t.2.2) [("_law_many", 13), ("_law_at", 12), ("_law_key", 10)] (IV.list (c := dT3) (xs := ts) (EV.var 7 (t := tD (.list (ts.map dT3))))) (fun s H C cl fp => pg_tup rfl (pgs_cons (pg_name (i := 13) sc_law.nd rfl (Or.inl rfl)) (pgs_cons (pg_name (i := 12) sc_law.nd rfl (Or.inl rfl)) (pgs_cons (pg_name (i := 10) sc_law.nd rfl (Or.inl rfl)) pgs_nil)))) (TgOk.three 13 12 10) (fun t _ s H C cl fp => CTs.nil) (fun t _ _ s H C cl fp => EV.var 10 (t := tI t.2.2)) sc_law.nd) (by rw [filter_yes, dI, List.map_map]; rfl))
      (EA.one (EV.cast (EV.lc (pd := fun _ => true) (f := fun t : Int × Int × Int => .int t.2.2) [("_law_many", 13), ("_law_at", 12), ("_law_key", 10)] (IV.list (c := dT3) (xs := ts.reverse) (EV.cast (EV.rev (EV.var 7 (t := tD (.list (ts.map dT3))))) (by rw [List.map_reverse]))) (fun s H C cl fp => pg_tup rfl (pgs_cons (pg_name (i := 13) sc_law.nd rfl (Or.inl rfl)) (pgs_cons (pg_name (i := 12) sc_law.nd rfl (Or.inl rfl)) (pgs_cons (pg_name (i := 10) sc_law.nd rfl (Or.inl rfl)) pgs_nil)))) (TgOk.three 13 12 10) (fun t _ s H C cl fp => CTs.nil) (fun t _ _ s H C cl fp => EV.var 10 (t := tI t.2.2)) sc_law.nd) (by rw [filter_yes, dI, List.map_map]; rfl))))))) ⟨x8, rfl⟩ sc_law.nd ?_ fun Γi h => h
  rintro i o Γi hi ⟨y, rfl⟩
  have ho := hos o (List.mem_of_getElem? hi)
  refine GS.one (G1.ifF (CT.cast (CT.not (CT.val (EV.call (ok_law_order_right T) (R, ks, o) ⟨wf, hk2, ho⟩ hr (EA.cons (EV.var 4 (t := tT K R)) (EA.cons (EV.var 5 (t := tD (dI ks))) (EA.one (EV.callT (T.free 3) c_tupL (EA.one (EV.var 8 (t := tD (dI o))))))))))) rfl) (GS.nil ⟨_, rfl⟩))
/-- the two tests behind it -/
theorem lw_told (T : Txt K mg) (hr : Room 13 (cxLw P w K mg base f cdv Ar outer s H E).A) {sc : List Int} {R : Rows} (wf : WF R) {x1 x2 x3 x5 x6 x7 x8 x9 x10 x11 x12 x13 : Option Sl} :
    G1 (cxLw P w K mg base f cdv Ar outer s H E) (gLw K sc x1 x2 x3 (some (.ty (tT K R))) x5 x6 x7 x8 x9 x10 x11 x12 x13) (bodyLw.getD 6 (.Break ⟨0, 0, 0, 0⟩)) (· = gLw K sc x1 x2 x3 (some (.ty (tT K R))) x5 x6 x7 x8 (some (.ty (tD (dFew (firstCover R) (piecesOf R))))) x10 x11 x12 x13) C K1 t := by
  refine G1.to (G1.set 9 (EV.call (ok_fewest_left T) R wf (hr.mono (by decide)) (EA.one (EV.var 4 (t := tT K R)))) sc_law.nd) ?_
  rintro _ rfl
  rfl
theorem lw_if1 (T : Txt K mg) (hr : Room 13 (cxLw P w K mg base f cdv Ar outer s H E).A) {sc : List Int} {R : Rows} (wf : WF R) {x1 x2 x3 x5 x6 x7 x8 x10 x11 x12 x13 : Option Sl} :
    G1 (cxLw P w K mg base f cdv Ar outer s H E) (gLw K sc x1 x2 x3 (some (.ty (tT K R))) x5 x6 x7 x8 (some (.ty (tD (dFew (firstCover R) (piecesOf R))))) x10 x11 x12 x13) (bodyLw.getD 7 (.Break ⟨0, 0, 0, 0⟩)) (· = gLw K sc x1 x2 x3 (some (.ty (tT K R))) x5 x6 x7 x8 (some (.ty (tD (dFew (firstCover R) (piecesOf R))))) x10 x11 x12 x13) C K1 t := by
  have sh := shows_pieces wf
  refine G1.ifF (CT.cast (CW.ct (CW.or (k := !decide (true = true)) (k' := !decide (isCover R (firstCover R) = true)) (CT.cmp (EV.call (ok_shows_fewest T) (R, firstCover R, piecesOf R) ⟨wf, sh⟩ (hr.mono (by decide)) (EA.cons (EV.var 4 (t := tT K R)) (EA.one (EV.var 9)))) EV.bl o_notB)
    fun _ => CW.or1 (CT.cmp (EV.call (ok_can_be_held T) (R, firstCover R) ⟨wf, sh.key, sh.asc⟩ (hr.mono (by decide)) (EA.cons (EV.var 4 (t := tT K R)) (EA.one (EV.ixT (ds := [dT (firstCover R), .tuple (dF (piecesOf R))]) (d := dT (firstCover R)) (EV.var 9) EV.int (by rfl))))) EV.bl o_notB))) (by rw [sh.cov]; rfl)) (GS.nil rfl)
theorem lw_if2 (T : Txt K mg) (hr : Room 13 (cxLw P w K mg base f cdv Ar outer s H E).A) {sc : List Int} {R : Rows} {ks : List Int} (wf : WF R) (hk : ks.Perm (keys R)) (hl : R.length ≤ 39) (hne : ∀ r ∈ R, r.1 ≠ k29 ∧ r.2 ≠ k29) {x1 x2 x3 x6 x7 x8 x9 x10 x11 x12 x13 : Option Sl} :
    G1 (cxLw P w K mg base f cdv Ar outer s H E) (gLw K sc x1 x2 x3 (some (.ty (tT K R))) (some (.ty (tD (dI ks)))) x6 x7 x8 x9 x10 x11 x12 x13) (bodyLw.getD 8 (.Break ⟨0, 0, 0, 0⟩)) (· = gLw K sc x1 x2 x3 (some (.ty (tT K R))) (some (.ty (tD (dI ks)))) x6 x7 x8 x9 x10 x11 x12 x13) C K1 t := by
  refine G1.ifF (CT.cast (CW.ct (CW.or (k := !decide (isCover R (mostLeft R) = true)) (k' := !true) (CT.cmp (EV.call (ok_can_be_held T) (R, mostLeft R) ⟨wf, fun k hk => wanted_bnd wf ((most_sub R).subset hk), isAsc_of (most_asc R)⟩ (hr.mono (by decide)) (EA.cons (EV.var 4 (t := tT K R)) (EA.one (EV.call (ok_most_left T) R wf (hr.mono (by decide)) (EA.one (EV.var 4 (t := tT K R))))))) EV.bl o_notB)
    fun _ => CW.or1 (CT.not (CT.val (EV.call (ok_law_more_right T) (R, ks) ⟨wf, fun k h => hk.mem_iff.mp h, hl, hne⟩ hr (EA.cons (EV.var 4 (t := tT K R)) (EA.one (EV.var 5 (t := tD (dI ks)))))))))) (by rw [most_cover wf]; rfl)) (GS.nil rfl)
theorem map_cut (l : List Int) (lo hi : Option Int) : cutD (l.map PyData.int) lo hi = (cutD l lo hi).map PyData.int := by
  unfold cutD
  rw [List.length_map, List.map_take, List.map_drop]
theorem law_typed (T : Txt K mg) : ∃ fd, Fun K "law" "law" s_law (He.ga K "law") fd ∧ FnOk P w K mg base CX0 14 (He.ga K "law") fd ["_law_script"] (spT (A := List Int) (fun a => [tSc K a]) (fun a => a.length ≤ 1000) (fun _ => tB true)) := by
  refine T.typed (k := 13) (A := List Int) (ts := fun a => [tSc K a]) (pre := fun a => a.length ≤ 1000) (tc := fun _ => tB true) (at_ := fun K => He.ga K "law") 54 sc_law (fun _ => rfl) rfl fun f cdv Ar outer s H E sc hp hr => ?_
  refine GS.cons (N1 := fun Γ' => ∃ x1 x2 x3 x4 x5 x6 x7 x8 x9 x10 x11 x12 x13, Γ' = gLw K sc x1 x2 x3 x4 x5 x6 x7 x8 x9 x10 x11 x12 x13) (G1.forN 1 (fun _ Γ' => ∃ x1 x2 x3 x4 x5 x6 x7 x8 x9 x10 x11 x12 x13, Γ' = gLw K sc x1 x2 x3 x4 x5 x6 x7 x8 x9 x10 x11 x12 x13) (IV.list (c := fun k : Int => .int k) (xs := [sc.headD 0] ++ cutD sc (some 1) (some 2))
    (EV.cast (EV.bin (EV.lst (ds := [.int (sc.headD 0)]) (EA.one (EV.call (ok_law_cell_at T) sc trivial (hr.mono (by decide)) (EA.cons (EV.var 0 (t := tSc K sc)) (EA.one EV.int))))) (EV.slSc (ns := sc) (Nat.le_trans hp (by decide)) (EV.var 0 (t := tSc K sc)) (EO.some EV.int) (EO.some EV.int)) (o_catL (by
      have hp : sc.length ≤ 1000 := hp
      rw [map_cut, List.length_map]
      have : (cutD sc (some 1) (some 2)).length ≤ sc.length := by unfold cutD; rw [List.length_take, List.length_drop]; omega
      show 1 + _ ≤ lim
      unfold lim
      omega))) (by rw [map_cut, List.map_append]; rfl))) ⟨_, _, _, _, _, _, _, _, _, _, _, _, _, rfl⟩ sc_law.nd ?_ fun Γi h => h) ?_
  · rintro i cell Γi hi ⟨x1, x2, x3, x4, x5, x6, x7, x8, x9, x10, x11, x12, x13, rfl⟩
    refine GS.cons (G1.setPen (cell := cell) 2 T (hr.mono (by decide)) (EV.var 1 (t := tI cell)) sc_law.nd) ?_
    rintro _ ⟨q, rfl⟩
    refine GS.cons (lw_pairs T hr) ?_
    rintro _ ⟨m, l, hm, hpl, rfl⟩
    have wf : WF (tbl l) := tbl_wf (hpl.good hm)
    have kp : (l.map (·.1)).Perm (keys (tbl l)) := (keys_perm l).symm
    have hll : l.length ≤ 39 := Nat.le_trans hpl.len hm
    refine GS.cons (lw_table T hr hm hpl) ?_
    rintro _ rfl
    refine GS.cons (G1.setP (i := 2) (n := 2002) (n' := 2002 + (l.map (·.1)).length) (p0 := q) 6 (EVp.mixed T (hr.mono (by decide)) (EV.var 5 (t := tD (dI (l.map (·.1))))) (by rw [List.length_map]; omega) (by rw [List.length_map]; unfold most; omega) (pe_var rfl (Or.inl rfl))) sc_law.nd) ?_
    rintro _ ⟨order, ho, rfl⟩
    have ho2 : order.Perm (keys (tbl l)) := ho.trans kp
    refine GS.cons (lw_ranks (R := tbl l) (order := order) T hr wf fun k h => ho2.mem_iff.mp h) ?_
    rintro _ ⟨ts, hts, rfl⟩
    refine GS.cons (lw_some T hr wf kp ho2 hts) ?_
    rintro _ ⟨y, rfl⟩
    refine GS.cons (lw_told T hr wf) ?_
    rintro _ rfl
    refine GS.cons (lw_if1 T hr wf) ?_
    rintro _ rfl
    refine GS.cons (lw_if2 T hr wf kp (by rw [(tbl_perm l).length_eq]; exact hll) fun r hr => ?_) ?_
    · have := hpl.bnd r ((tbl_perm l).mem_iff.mp hr)
      exact ⟨this.1.2, this.2.2⟩
    · rintro _ rfl
      exact GS.nil ⟨_, _, _, _, _, _, _, _, _, _, _, _, _, rfl⟩
  · rintro _ ⟨x1, x2, x3, x4, x5, x6, x7, x8, x9, x10, x11, x12, x13, rfl⟩
    exact GS.one (G1.ret EV.bl)
end
end Rk
/-! part D44 -/
namespace Rk
open PySem PySem.Spec PyProof.Rows L2
/-! ### the head -/
def gN : List Str := ["is_integer", "is_key", "is_row", "is_ascending", "checked_rows", "more_rows", "keys_of", "need_table", "need_row", "is_set", "need_rows", "is_order", "need_order", "waited", "path_of", "end_of", "path", "rings_of", "by_new", "waiting_for", "is_still", "wanted_keys", "pure_rings", "is_cover", "branch_counts"]
def gN2 : List Str := ["ring_count", "count_covers", "struck", "single_ends", "pieces_of", "least_with", "first_cover", "is_kept_right", "is_left", "can_be_left", "arriving", "order_leaving", "left_fate", "can_be_held", "count_held", "most_left", "fewest_left", "keys_of_piece", "is_piece", "shows_fewest", "holder_of", "_law_cell_at", "_law_pen", "_law_draw", "_law_pick"]
def gN3 : List Str := ["_law_mixed", "_law_pairs", "_law_order_right", "_law_more_right", "law", "Table", "Outcome", "Rule", "Continues", "Removes", "Replace"]
def cN : List Str := ["Table", "Outcome", "Rule", "Continues", "Removes", "Replace"]
def mN : List (Str × Str) := [("Table", "__init__"), ("Table", "rows"), ("Table", "__getitem__"), ("Table", "__contains__"), ("Table", "__add__"), ("Outcome", "__init__"), ("Outcome", "left"), ("Outcome", "held"), ("Outcome", "__len__"), ("Replace", "halts"), ("Replace", "settle"), ("Replace", "__call__")]
def pN : List (Str × Str) := [("Table", "rows"), ("Outcome", "left"), ("Outcome", "held")]
def nsOf (K : PySem.W.Frag) (C : Addr) : Addr := match K.lookup C with
  | some ⟨_, _, .cls cd, _⟩ => cd.ns
  | _ => 0
def cdOf (K : PySem.W.Frag) (f : Addr) : Addr := match K.lookup f with
  | some ⟨_, _, .func fd, _⟩ => (match fd.code with
    | .ref c => c
    | _ => 0)
  | _ => 0
def st1 (K : PySem.W.Frag) : List Addr := mainGlobals :: (gN ++ gN2 ++ gN3).map (He.ga K)
def st2 (as : List Addr) (K : PySem.W.Frag) : List Addr := as ++ cN.map fun c => nsOf K (He.ga K c)
def st3 (as : List Addr) (K : PySem.W.Frag) : List Addr := as ++ mN.map fun c => He.ma K (He.ga K c.1) c.2
def st4 (as : List Addr) (K : PySem.W.Frag) : List Addr := as ++ pN.map fun c => He5.wf K (He.ga K c.1) "property" c.2
def st5 (as : List Addr) (K : PySem.W.Frag) : List Addr := as ++ as.map (cdOf K) ++ [cStatics]
def asR (g : Addr → Option Obj) : List Addr :=
  (fun a1 => (fun a2 => (fun a3 => (fun a4 => st5 a4 (He.frG g a4)) (st4 a3 (He.frG g a3))) (st3 a2 (He.frG g a2))) (st2 a1 (He.frG g a1))) (st1 (He.frG g [mainGlobals]))
abbrev Obs : Type := He.AlD × Bool
def obG (g : Addr → Option Obj) : Obs := (He5.obsA faL fnL (He.frG g (asR g)), exB (He.frG g (asR g)))
def hk : PySem.W.Hook where
  α := Obs
  obs := fun s => obG s.heap.get?
  val := fun _ => (He5.valA fnL, true)
  says := fun _ h => ∃ K : PySem.W.Frag, K.In h ∧ Says K
  of := fun _ _ e => ⟨_, He.frG_in, ⟨congrArg (fun z : Obs => z.1) e, congrArg (fun z : Obs => z.2) e⟩⟩
  keeps := fun _ _ _ ⟨K, hK, c⟩ k => ⟨K, PySem.W.Frag.In.keeps hK k, c⟩
def ob (s : PySem.W.SharedT) : Obs := obG (HandSHeadRun.getT s)
theorem ob_eq (s : PySem.W.SharedT) : ob s = hk.obs s.abs := by
  have e : HandSHeadRun.getT s = s.abs.heap.get? := funext (HandSHeadRun.getT_eq s)
  unfold ob
  rw [e]
  rfl
def loose0 : List PySem.Str := ["_wall", "RowError", "NotRow", "NotTable", "NotKey", "NotKeys", "NotRows", "NotOrder", "Missing", "Impossible", "Twice", "TooMany", "MOST_ROWS", "KEY_BOUND", "is_integer", "is_key", "is_row", "is_ascending", "checked_rows", "more_rows", "Table", "keys_of", "need_table", "need_row", "is_set", "need_rows", "is_order", "need_order", "waited", "path_of"]
def loose1 : List PySem.Str := ["end_of", "path", "rings_of", "by_new", "waiting_for", "is_still", "wanted_keys", "pure_rings", "is_cover", "branch_counts", "ring_count", "count_covers", "struck", "single_ends", "pieces_of", "least_with", "first_cover", "is_kept_right", "is_left", "can_be_left", "arriving", "order_leaving", "left_fate", "can_be_held", "count_held", "most_left", "fewest_left", "keys_of_piece", "is_piece", "shows_fewest"]
def loose2 : List PySem.Str := ["Outcome", "holder_of", "Rule", "Continues", "Removes", "Replace", "_law_cell_at", "_law_pen", "_law_draw", "_law_pick", "_law_mixed", "_law_pairs", "_law_order_right", "_law_more_right"]
def looseH : List PySem.Str := loose0 ++ loose1 ++ loose2
abbrev Rw : PySem.W.OpenRow := PySem.W.OpenLaw.row PySem.Challenge.rw_rowclash_k47_whole_what_replace_leaves
theorem run (w : World) : HandSHeadRun.RunEq Rw (PySem.W.view Rw.prog [82]) hk ob 8000 looseH w := by
  intro os
  kernel_rfl
theorem fun_uniq {K : PySem.W.Frag} {x q : Str} {st : Stmt} {f : Addr} {fd1 fd2 : FuncData} (F1 : Fun K x q st f fd1) (F2 : Fun K x q st f fd2) : fd1 = fd2 := by
  obtain ⟨oc, od, kV, doc, pm, an, cdv, ct, osl, _, l1, _⟩ := F1.ex
  obtain ⟨oc2, od2, kV2, doc2, pm2, an2, cdv2, ct2, osl2, _, l2, _⟩ := F2.ex
  rw [l1] at l2
  cases l2
  rfl
theorem facts {P : Program} {w : World} {K : PySem.W.Frag} {h : Heap} {mg : Str → Option Value} {f : Addr} (X : K.In h) (G : h.Ns mainGlobals mg) (hfa : mg ("law" : Str) = some (.ref f)) (c : Says K) :
    ∃ fd : FuncData, (∀ (s : Shared) (v : Value), BindsTo s fd ⟨[v], []⟩ [("_law_script", v)]) ∧ ∀ base : Heap, K.In base → base.Ns mainGlobals mg → FnOk P w K mg base CX0 14 f fd ["_law_script"] (spT (A := List Int) (fun a => [tSc K a]) (fun a => a.length ≤ 1000) (fun _ => tB true)) := by
  have T : Txt K mg := ⟨c, h, X, G⟩
  obtain ⟨fd, F⟩ := T.def_ 54 (at_ := fun K => He.ga K "law") (nm := "law") (q := "law") (st := s_law)
  have e := hfa.symm.trans (T.glo 70)
  cases e
  have b : ∀ (s : Shared) (us : List Value), us.length = 1 → BindsTo s fd ⟨us, []⟩ ((["_law_script"] : List Str).zip us) := by
    obtain ⟨oc, od, kV, doc, pm, an, cdv, ct, osl, rfl, _, _⟩ := F.ex
    exact fun s us hl => .of_eq (match us, hl with | [_], _ => rfl)
  refine ⟨fd, fun s v => b s [v] rfl, fun base _ _ => ?_⟩
  obtain ⟨fd2, F2, h2⟩ := law_typed (P := P) (w := w) (base := base) T
  rw [fun_uniq F F2]
  exact h2
end Rk
/-! part D45 -/
open PySem PySem.W PySem.Calls PyProof.Rows
theorem PySem.Challenge.cw_rowclash_k47_whole_what_replace_leaves_holds : PySem.Challenge.rw_rowclash_k47_whole_what_replace_leaves.Holds := by
  w_on; o_law
  refine HandSHeadRun.head_any (r := OpenLaw.row PySem.Challenge.rw_rowclash_k47_whole_what_replace_leaves) (q := view (OpenLaw.row PySem.Challenge.rw_rowclash_k47_whole_what_replace_leaves).prog [82]) (H := Rk.hk) (ob := Rk.ob) (M := 8000) (loose := Rk.looseH) (d := HandSHeadRun.topDef (OpenLaw.row PySem.Challenge.rw_rowclash_k47_whole_what_replace_leaves).prog 82) (kwd := []) Rk.ob_eq
    (by kernel_rfl) (fun s => by kernel_rfl) Rk.run (by kernel_rfl) (by kernel_rfl) (by kernel_rfl) (by rfl) (by first | assumption | decide +kernel) (by decide +kernel) ⟨rfl, rfl, rfl, rfl, rfl, by decide +kernel⟩ ?hw ?hc
  case hw => w_witness2
  case hc =>
    refine L2.walk_ofE (l := PySem.Challenge.rw_rowclash_k47_whole_what_replace_leaves) (n := 63) (k := 14) (x := "_law_script") (CX := L2.CX0) rfl (by decide) (by kernel_rfl) ⟨rfl, by decide, by decide⟩ ?F (fun _ _ _ _ z => z)
    intro w mg fa h Y G hmg0
    obtain ⟨K, KX, c⟩ := Y
    have hmg : mg ("law" : PySem.Str) = some (.ref fa) := by
      have e : (HandSHeadRun.topDef (OpenLaw.row PySem.Challenge.rw_rowclash_k47_whole_what_replace_leaves).prog 82).name = ("law" : PySem.Str) := by kernel_rfl
      rw [← e]
      exact hmg0
    obtain ⟨fd, hb, hF⟩ := Rk.facts (P := (PySem.Challenge.rw_rowclash_k47_whole_what_replace_leaves).prog) (w := w) KX G hmg c
    refine ⟨K, fd, Rk.spT (A := List Int) (fun a => [Rk.tSc K a]) (fun a => a.length ≤ 1000) (fun _ => Rk.tB true), KX, hb, fun H a ns hl _ hS => ⟨ns, H, Nat.le_trans hl (by decide), fun _ _ e => e, .cons ⟨a, rfl, hS⟩ .nil, fun v H' B' _ r => Rk.tB_R r⟩, hF⟩
