import PyProof.Rows.All
import Wide.All
import OpenK.AllK
import Wide.FinOn
import HandS.ForMost
import HandS.Exc
import HandS.TryOnly
import HandS.ExcOwn
import HandS.WordsExc
import HandS.ExcIs
import HandS.IsInst
import HandS.Wide
import HandS.Evl
import HandS.Walk
import HandS.Style
import HandS.TupAny
import HandS.TupMul
import HandS.ExcInit
import HandS.ExcField
import HandS.ClsMeth
import HandS.RaiseMore
import KE.GoesMore
import KE.GoesEnum
import PySem.Challenge.RW_wentback_k01_whole_programs_by_their_for
set_option Elab.async false
set_option linter.all false
set_option maxRecDepth 100000
set_option maxHeartbeats 4000000
/-! ## Own base: tests, heaps, data, and a few rules in short forms -/
namespace My
open PySem L2
/-! ### tests whose bit is a decided proposition -/
theorem itd {c : Prop} [Decidable c] {A B : Prop} (h1 : c → A) (h2 : ¬ c → B) : if decide c = true then A else B := by
  by_cases h : c
  · rw [if_pos (decide_eq_true h)]; exact h1 h
  · rw [if_neg (by rw [decide_eq_false h]; decide)]; exact h2 h
theorem itT {c : Prop} [Decidable c] {A B : Prop} (h : c) (h1 : A) : if decide c = true then A else B := by
  rw [if_pos (decide_eq_true h)]; exact h1
theorem itF {c : Prop} [Decidable c] {A B : Prop} (h : ¬ c) (h1 : B) : if decide c = true then A else B := by
  rw [if_neg (by rw [decide_eq_false h]; decide)]; exact h1
theorem itb {b : Bool} {A B : Prop} (h1 : b = true → A) (h2 : b = false → B) : if b = true then A else B := by
  cases b with
  | true => exact iteT (h1 rfl)
  | false => exact iteF (h2 rfl)
theorem itbT {b : Bool} {A B : Prop} (h : b = true) (h1 : A) : if b = true then A else B := by rw [if_pos h]; exact h1
theorem itbF {b : Bool} {A B : Prop} (h : b = false) (h1 : B) : if b = true then A else B := by rw [h]; exact iteF h1
theorem fmod_lo (a : Int) {b : Int} (h : 0 < b) : 0 ≤ a.fmod b := by
  rw [Int.fmod_eq_emod_of_nonneg a (by omega)]; exact Int.emod_nonneg _ (by omega)
theorem fmod_hi (a : Int) {b : Int} (h : 0 < b) : a.fmod b < b := by
  rw [Int.fmod_eq_emod_of_nonneg a (by omega)]; exact Int.emod_lt_of_pos _ h
theorem take_snoc {α : Type} {l : List α} {i : Nat} {x : α} (h : l[i]? = some x) : l.take (i + 1) = l.take i ++ [x] := by
  rw [List.take_add_one, h]; rfl
theorem map_get {α : Type} {f : α → V} {l : List α} {i : Nat} {v : V} (h : (l.map f)[i]? = some v) : ∃ x, l[i]? = some x ∧ v = f x := by
  rw [List.getElem?_map] at h
  cases e : l[i]? with
  | none => rw [e] at h; cases h
  | some x => rw [e] at h; exact ⟨x, rfl, (Option.some.inj h).symm⟩
/-! ### heaps: all but what may change stands -/
theorem same_new {H : Hp} {p : Addr} {o : HO} (h : H p = none) : Same H (upd H p o) := fun b u e => by
  rw [upd_ne (ne_of_none e h)]; exact e
def Keep (N : Addr → Prop) (H H' : Hp) : Prop := ∀ b o, H b = some o → ¬ N b → H' b = some o
abbrev No : Addr → Prop := fun _ => False
theorem Keep.refl (N : Addr → Prop) (H : Hp) : Keep N H H := fun _ _ e _ => e
theorem Keep.trans {N : Addr → Prop} {H H1 H2 : Hp} (a : Keep N H H1) (b : Keep N H1 H2) : Keep N H H2 := fun c o e n => b c o (a c o e n) n
theorem Keep.of {N : Addr → Prop} {H H1 : Hp} (a : Same H H1) : Keep N H H1 := fun c o e _ => a c o e
theorem Keep.same {H H1 : Hp} (a : Keep No H H1) : Same H H1 := fun c o e => a c o e (fun z => z)
/-- all of N stands in the heap -/
def Alloc (N : Addr → Prop) (H : Hp) : Prop := ∀ b, N b → ∃ o, H b = some o
theorem Alloc.no (H : Hp) : Alloc No H := fun _ z => z.elim
theorem Alloc.same {N : Addr → Prop} {H H' : Hp} (a : Alloc N H) (s : Same H H') : Alloc N H' := fun b n => by
  obtain ⟨o, e⟩ := a b n
  exact ⟨o, s b o e⟩
theorem Alloc.ne {N : Addr → Prop} {H : Hp} {l : Addr} (a : Alloc N H) (h : H l = none) : ¬ N l := fun n => by
  obtain ⟨o, e⟩ := a l n
  rw [h] at e; cases e
/-! ### data: what a value tells, over objects that stay -/
/-- a tuple of the written part -/
def KT (K : PySem.W.Frag) (a : Addr) (xs : List V) : Prop :=
  ∃ (o : Obj) (its : Array Value) (n : Nat), K.lookup a = some o ∧ o.cls = .type "tuple" ∧ o.data = .seq its n ∧ its.size ≤ sizeLine ∧ Vals xs its.toList
theorem KT.sq {K : PySem.W.Frag} {a : Addr} {xs : List V} (h : KT K a xs) (H : Hp) : SqT K H a xs := .inr h
mutual
inductive DA (K : PySem.W.Frag) (H : Hp) (N : Addr → Prop) : V → PyData → Prop
  | non : DA K H N .non .none
  | bl (b : Bool) : DA K H N (.bl b) (.bool b)
  | int (i : Int) : DA K H N (.int i) (.int i)
  | str (x : Str) : DA K H N (.str x) (.str x)
  | lst {a : Addr} {xs : List V} {ds : List PyData} : H a = some (.lst xs) → ¬ N a → DAs K H N xs ds → DA K H N (.ref a) (.list ds)
  | tup {a : Addr} {xs : List V} {ds : List PyData} : H a = some (.tup xs) → ¬ N a → DAs K H N xs ds → DA K H N (.ref a) (.tuple ds)
  | kt {a : Addr} {xs : List V} {ds : List PyData} : KT K a xs → DAs K H N xs ds → DA K H N (.ref a) (.tuple ds)
inductive DAs (K : PySem.W.Frag) (H : Hp) (N : Addr → Prop) : List V → List PyData → Prop
  | nil : DAs K H N [] []
  | cons {v : V} {vs : List V} {d : PyData} {ds : List PyData} : DA K H N v d → DAs K H N vs ds → DAs K H N (v :: vs) (d :: ds)
end
abbrev Dt (K : PySem.W.Frag) (H : Hp) : V → PyData → Prop := DA K H No
abbrev Dts (K : PySem.W.Frag) (H : Hp) : List V → List PyData → Prop := DAs K H No
section
variable {K : PySem.W.Frag} {H H' : Hp} {N N' : Addr → Prop}
mutual
theorem DA.mono (k : ∀ b o, H b = some o → ¬ N b → H' b = some o) (n : ∀ b o, H b = some o → ¬ N b → ¬ N' b) : ∀ {v : V} {d : PyData}, DA K H N v d → DA K H' N' v d
  | _, _, .non => .non
  | _, _, .bl b => .bl b
  | _, _, .int i => .int i
  | _, _, .str x => .str x
  | _, _, .lst e h s => .lst (k _ _ e h) (n _ _ e h) (DAs.mono k n s)
  | _, _, .tup e h s => .tup (k _ _ e h) (n _ _ e h) (DAs.mono k n s)
  | _, _, .kt e s => .kt e (DAs.mono k n s)
theorem DAs.mono (k : ∀ b o, H b = some o → ¬ N b → H' b = some o) (n : ∀ b o, H b = some o → ¬ N b → ¬ N' b) : ∀ {vs : List V} {ds : List PyData}, DAs K H N vs ds → DAs K H' N' vs ds
  | _, _, .nil => .nil
  | _, _, .cons a s => .cons (DA.mono k n a) (DAs.mono k n s)
end
theorem DA.keep {v : V} {d : PyData} (k : Keep N H H') (h : DA K H N v d) : DA K H' N v d := h.mono k fun _ _ _ z => z
theorem DAs.keep {vs : List V} {ds : List PyData} (k : Keep N H H') (h : DAs K H N vs ds) : DAs K H' N vs ds := h.mono k fun _ _ _ z => z
theorem DA.same {v : V} {d : PyData} (k : Same H H') (h : DA K H N v d) : DA K H' N v d := h.keep (.of k)
theorem DAs.same {vs : List V} {ds : List PyData} (k : Same H H') (h : DAs K H N vs ds) : DAs K H' N vs ds := h.keep (.of k)
theorem DA.t {v : V} {d : PyData} (h : DA K H N v d) : Dt K H v d := h.mono (fun _ _ e _ => e) fun _ _ _ _ z => z
theorem DAs.t {vs : List V} {ds : List PyData} (h : DAs K H N vs ds) : Dts K H vs ds := h.mono (fun _ _ e _ => e) fun _ _ _ _ z => z
mutual
theorem DA.dp : ∀ {v : V} {d : PyData}, DA K H N v d → Dp K H v d
  | _, _, .non => .non
  | _, _, .bl b => .bl b
  | _, _, .int i => .int i
  | _, _, .str x => .str x
  | _, _, .lst e _ s => .lst (SqL.of e) (DAs.dp s)
  | _, _, .tup e _ s => .tup (SqT.of e) (DAs.dp s)
  | _, _, .kt e s => .tup (e.sq H) (DAs.dp s)
theorem DAs.dp : ∀ {vs : List V} {ds : List PyData}, DAs K H N vs ds → DpAll K H vs ds
  | _, _, .nil => .nil
  | _, _, .cons a s => .cons (DA.dp a) (DAs.dp s)
end
theorem DAs.length : ∀ {vs : List V} {ds : List PyData}, DAs K H N vs ds → vs.length = ds.length
  | _, _, .nil => rfl
  | _, _, .cons _ s => by rw [List.length_cons, List.length_cons, DAs.length s]
theorem DAs.get : ∀ {vs : List V} {ds : List PyData} {i : Nat} {d : PyData}, DAs K H N vs ds → ds[i]? = some d → ∃ v, vs[i]? = some v ∧ DA K H N v d
  | _, _, _, _, .nil, h => by simp at h
  | _, _, 0, _, .cons a _, h => ⟨_, rfl, by cases h; exact a⟩
  | _, _, i + 1, _, .cons _ s, h => by
    obtain ⟨v, e, q⟩ := DAs.get (i := i) s (by simpa using h)
    exact ⟨v, by simpa using e, q⟩
theorem DAs.getV : ∀ {vs : List V} {ds : List PyData} {i : Nat} {v : V}, DAs K H N vs ds → vs[i]? = some v → ∃ d, ds[i]? = some d ∧ DA K H N v d
  | _, _, _, _, .nil, h => by simp at h
  | _, _, 0, _, .cons a _, h => ⟨_, rfl, by cases h; exact a⟩
  | _, _, i + 1, _, .cons _ s, h => by
    obtain ⟨d, e, q⟩ := DAs.getV (i := i) s (by simpa using h)
    exact ⟨d, by simpa using e, q⟩
theorem DAs.append : ∀ {vs ws : List V} {ds es : List PyData}, DAs K H N vs ds → DAs K H N ws es → DAs K H N (vs ++ ws) (ds ++ es)
  | _, _, _, _, .nil, b => b
  | _, _, _, _, .cons a s, b => .cons a (DAs.append s b)
theorem DAs.drop : ∀ {vs : List V} {ds : List PyData} (n : Nat), DAs K H N vs ds → DAs K H N (vs.drop n) (ds.drop n)
  | _, _, 0, h => h
  | _, _, _ + 1, .nil => .nil
  | _, _, n + 1, .cons _ s => DAs.drop n s
theorem DAs.take : ∀ {vs : List V} {ds : List PyData} (n : Nat), DAs K H N vs ds → DAs K H N (vs.take n) (ds.take n)
  | _, _, 0, _ => .nil
  | _, _, _ + 1, .nil => .nil
  | _, _, n + 1, .cons a s => .cons a (DAs.take n s)
theorem DAs.one {v : V} {d : PyData} (h : DA K H N v d) : DAs K H N [v] [d] := .cons h .nil
theorem DAs.two {v w : V} {d e : PyData} (h : DA K H N v d) (g : DA K H N w e) : DAs K H N [v, w] [d, e] := .cons h (.cons g .nil)
theorem DAs.ints : ∀ ns : List Int, DAs K H N (ns.map V.int) (ns.map PyData.int)
  | [] => .nil
  | n :: ns => .cons (.int n) (DAs.ints ns)
theorem DAs.bools : ∀ ns : List Bool, DAs K H N (ns.map V.bl) (ns.map PyData.bool)
  | [] => .nil
  | n :: ns => .cons (.bl n) (DAs.bools ns)
theorem DAs.strs : ∀ ns : List Str, DAs K H N (ns.map V.str) (ns.map PyData.str)
  | [] => .nil
  | n :: ns => .cons (.str n) (DAs.strs ns)
/-- a tuple's items -/
theorem DA.tupV {v : V} {ds : List PyData} (h : DA K H N v (.tuple ds)) : ∃ a xs, v = .ref a ∧ SqT K H a xs ∧ DAs K H N xs ds := by
  cases h with
  | tup e n s => exact ⟨_, _, rfl, SqT.of e, s⟩
  | kt e s => exact ⟨_, _, rfl, e.sq H, s⟩
theorem DA.lstV {v : V} {ds : List PyData} (h : DA K H N v (.list ds)) : ∃ a xs, v = .ref a ∧ H a = some (.lst xs) ∧ ¬ N a ∧ DAs K H N xs ds := by
  cases h with
  | lst e n s => exact ⟨_, _, rfl, e, n, s⟩
theorem DA.intV {v : V} {n : Int} (h : DA K H N v (.int n)) : v = .int n := by cases h; rfl
theorem DA.strV {v : V} {n : Str} (h : DA K H N v (.str n)) : v = .str n := by cases h; rfl
theorem DA.boolV {v : V} {n : Bool} (h : DA K H N v (.bool n)) : v = .bl n := by cases h; rfl
theorem DA.noneV {v : V} (h : DA K H N v .none) : v = .non := by cases h; rfl
def tyN : PyData → String
  | .none => "NoneType" | .bool _ => "bool" | .int _ => "int" | .str _ => "str" | .list _ => "list" | .tuple _ => "tuple" | .dict _ => "dict"
theorem DA.ty {v : V} {d : PyData} (h : DA K H N v d) : TyX K H v (.type (tyN d)) := by
  cases h with
  | non => exact .base .non
  | bl b => exact .base (.bl b)
  | int i => exact .base (.int i)
  | str x => exact .base (.str x)
  | lst e _ _ => exact .base (.lst e)
  | tup e _ _ => exact .base (.tup e)
  | kt e _ =>
    obtain ⟨o, its, n, h1, h2, _⟩ := e
    exact .kTuple h1 h2
def isT : PyData → Bool
  | .tuple _ => true | _ => false
def isL : PyData → Bool
  | .list _ => true | _ => false
def isS : PyData → Bool
  | .str _ => true | _ => false
def isB : PyData → Bool
  | .bool _ => true | _ => false
def isI : PyData → Bool
  | .int _ => true | .bool _ => true | _ => false
theorem k_tup (d : PyData) : PySem.W.kitOne K (.type (tyN d)) (.type "tuple") = some (isT d) := by cases d <;> (refine kit_ty ?_; dsimp only [tyN, isT, isL, isS, isB, isI]; decide +kernel)
theorem k_list (d : PyData) : PySem.W.kitOne K (.type (tyN d)) (.type "list") = some (isL d) := by cases d <;> (refine kit_ty ?_; dsimp only [tyN, isT, isL, isS, isB, isI]; decide +kernel)
theorem k_str (d : PyData) : PySem.W.kitOne K (.type (tyN d)) (.type "str") = some (isS d) := by cases d <;> (refine kit_ty ?_; dsimp only [tyN, isT, isL, isS, isB, isI]; decide +kernel)
theorem k_bool (d : PyData) : PySem.W.kitOne K (.type (tyN d)) (.type "bool") = some (isB d) := by cases d <;> (refine kit_ty ?_; dsimp only [tyN, isT, isL, isS, isB, isI]; decide +kernel)
theorem k_int (d : PyData) : PySem.W.kitOne K (.type (tyN d)) (.type "int") = some (isI d) := by cases d <;> (refine kit_ty ?_; dsimp only [tyN, isT, isL, isS, isB, isI]; decide +kernel)
end
/-! ### short rules -/
/-- a constant of the module -/
def GV (mg : Str → Option Value) (x : Str) (v : V) : Prop := ∃ u, mg x = some u ∧ RelV v u
/-- a def's promise with its binding -/
def Fc (P : Program) (w : World) (K : PySem.W.Frag) (mg : Str → Option Value) (base : Heap) (CX : CXT) (k : Nat) (f : Addr) (ps : List Str) (sp : Sp) : Prop :=
  ∃ fd, FnOk P w K mg base CX k f fd ps sp ∧ Binds K fd ps []
section
variable {X : Cx} {CX : CXT} {k : Nat} {f C : Addr} {ps : List Str} {sp : Sp} {E : XK} {x m : Str} {p pos apos : Pos} {e o : Expr} {es : List Expr} {ta : TE} {t : TA} {v : V}
theorem pe_globE (hg : Gl X x) (h : GV X.mg x v) (hd : (x == ("__debug__" : Str)) = false := by decide) : PE X (.Name x pos) (tC v) := by
  obtain ⟨u, hm, r⟩ := h
  exact pe_glob hg hm r hd
theorem pe_callF (G : Fc X.prog X.w X.K X.mg X.base CX k f ps sp) (hr : Room k X.A) (hg : Gl X x) (hm : X.mg x = some (.ref f)) (hk : PySem.W.keepIn X.K (.ref f) = true) (hx : Passes CX X E) (ha : PA X (e :: es) t)
    (hdb : (x == ("__debug__" : Str)) = false := by decide) (he : starEach (e :: es) X.env = (false, eval e X.env) :: starEach es X.env := by rfl) (hpl : (backTo pos (starEach es X.env)).any (·.1) = false := by rfl) :
    PE X (.Call (.Name x p) (e :: es) [] pos) (tCall sp [] E t) := by
  obtain ⟨fd, F, b⟩ := G
  exact pe_call F hr hg hm hk b .nil hx ha hdb he hpl
theorem pe_call0F (G : Fc X.prog X.w X.K X.mg X.base CX k f ps sp) (hr : Room k X.A) (hg : Gl X x) (hm : X.mg x = some (.ref f)) (hk : PySem.W.keepIn X.K (.ref f) = true) (hx : Passes CX X E)
    (hdb : (x == ("__debug__" : Str)) = false := by decide) : PE X (.Call (.Name x p) [] [] pos) (tCall sp [] E tNil) := by
  obtain ⟨fd, F, b⟩ := G
  exact pe_call0 F hr hg hm hk b .nil hx hdb
theorem pe_methF {pl : Sem Bool} (c : Cls X.K C) (hm : Meth X.K C m f) (G : Fc X.prog X.w X.K X.mg X.base CX k f ps sp) (hr : Room k X.A) (hx : Passes CX X E) (he : PE X o ta) (ha : PA X (e :: es) t)
    (hst : starEach (e :: es) X.env = (false, eval e X.env) :: starEach es X.env := by rfl) (hpl : (backTo pos (starEach es X.env)).any (·.1) = false := by rfl)
    (ht : eval (.Call (.Attribute o m apos) (e :: es) [] pos) X.env = (do
      let ov ← eval o X.env; standAt apos.atName; let (f, first) ← holding [ov] (getMethod ov m pl)
      callWith pos f first (backTo pos (starEach (e :: es) X.env)) (backToKw pos (keywordEach [] X.env))) := by rfl) :
    PE X (.Call (.Attribute o m apos) (e :: es) [] pos) (tMeth C m sp [] E ta t) := by
  obtain ⟨fd, F, b⟩ := G
  exact pe_meth (pl := pl) he c hm F hr b .nil hx ha hst hpl ht
theorem pe_meth0F {pl : Sem Bool} (c : Cls X.K C) (hm : Meth X.K C m f) (G : Fc X.prog X.w X.K X.mg X.base CX k f ps sp) (hr : Room k X.A) (hx : Passes CX X E) (he : PE X o ta)
    (ht : eval (.Call (.Attribute o m apos) [] [] pos) X.env = (do
      let ov ← eval o X.env; standAt apos.atName; let (f, first) ← holding [ov] (getMethod ov m pl)
      callWith pos f first (backTo pos (starEach [] X.env)) (backToKw pos (keywordEach [] X.env))) := by rfl) :
    PE X (.Call (.Attribute o m apos) [] [] pos) (tMeth C m sp [] E ta tNil) := by
  obtain ⟨fd, F, b⟩ := G
  exact pe_meth0 (pl := pl) he c hm F hr b .nil hx ht
theorem pe_makeF (M : Mk X.K C f) (G : Fc X.prog X.w X.K X.mg X.base CX k f ps sp) (hr : Room (k + 1) X.A) (hg : Gl X x) (hm : X.mg x = some (.ref C)) (hx : Passes CX X E) (ha : PA X (e :: es) t)
    (hdb : (x == ("__debug__" : Str)) = false := by decide) (he : starEach (e :: es) X.env = (false, eval e X.env) :: starEach es X.env := by rfl) (hpl : (backTo pos (starEach es X.env)).any (·.1) = false := by rfl) :
    PE X (.Call (.Name x p) (e :: es) [] pos) (tMake C sp [] E t) := by
  obtain ⟨fd, F, b⟩ := G
  exact pe_make M F hr hg hm b .nil hx ha hdb he hpl
/-- what a raising callee may hand on, where W is wished for -/
theorem passW {W : WX} (tk : Takes X W) (hE : ∀ cls d σ H, σ.length = X.N.length → E cls d H → W cls d σ H) : Passes (L2.CX X.prog X.w) X E := fun _ σ _ _ u s' I c =>
  tk u s' (XE.of_call I (fun cls d H h => hE cls d σ H I.len h) c)
/-- .. where the wish is told for all slots -/
theorem passL {W : WX} (tk : Takes X W) : Passes (L2.CX X.prog X.w) X (fun cls d H => ∀ σ : St, σ.length = X.N.length → W cls d σ H) := passW tk fun _ _ σ _ l h => h σ l
/-- .. out of a def that raises -/
theorem passO (tk : Takes X (fun cls d _ H => E cls d H)) : Passes (L2.CX X.prog X.w) X E := passW tk fun _ _ _ _ _ h => h
theorem pmk_oexF {fI : Addr} (T : OexC X.K C) (M : Meth X.K C "__init__" fI) (tI : PySem.W.typeIn X.K (.ref fI) = some (.type "function"))
    (G : Fc X.prog X.w X.K X.mg X.base CX k fI ps sp) (hr : Room (k + 1) X.A) (hx : Passes CX X (fun _ _ _ => False)) (hg : Gl X x) (hm : X.mg x = some (.ref C)) (ha : PA X (e :: es) t)
    (hdb : (x == ("__debug__" : Str)) = false := by decide) (he : starEach (e :: es) X.env = (false, eval e X.env) :: starEach es X.env := by rfl) (hpl : (backTo pos (starEach es X.env)).any (·.1) = false := by rfl) :
    PMk X (.Call (.Name x p) (e :: es) [] pos) (tMkO C sp [] t) := by
  obtain ⟨fd, F, b⟩ := G
  exact pmk_oex T M.at_ tI F hr b .nil hx hg hm ha hdb he hpl
/-- the class B over ValueError: its __init__ is ValueError's -/
structure OInit (K : PySem.W.Frag) (mg : Str → Option Value) (b : Str) (B : Addr) : Prop where
  g : mg b = some (.ref B)
  ga : PySem.W.specialIn K (.ref B) "__getattribute__" = some (some (.builtin "type.__getattribute__"))
  at_ : ∃ mc, PySem.W.readsIn K B mc = true ∧ PySem.W.findCls K (.ref B) mc "__init__" = some (.val (.builtin "ValueError.__init__"))
theorem pe_oinit {b : Str} {B : Addr} {pl : Sem Bool} {p1 p2 : Pos} (O : OInit X.K X.mg b B) (hg : Gl X b) (ha : PA X (e :: es) t) (hdb : (b == ("__debug__" : Str)) = false := by decide)
    (hc : eval (.Call (.Attribute (.Name b p1) "__init__" p2) (e :: es) [] pos) X.env = (do
      let ov ← eval (.Name b p1) X.env; standAt p2.atName; let (f, first) ← holding [ov] (getMethod ov "__init__" pl)
      callWith pos f first (backTo pos (starEach (e :: es) X.env)) (backToKw pos (keywordEach [] X.env))) := by rfl)
    (he : starEach (e :: es) X.env = (false, eval e X.env) :: starEach es X.env := by rfl) (hpl : (backTo pos (starEach es X.env)).any (·.1) = false := by rfl) :
    PE X (.Call (.Attribute (.Name b p1) "__init__" p2) (e :: es) [] pos) (tVeI X.K t) := by
  obtain ⟨g, ga, mc, rd, at_⟩ := O
  refine ⟨fun pins s σ H Q I h => PySem.W.methodCall_KW (ld_glob I hg g ?_ hdb) hc⟩
  refine PySem.W.method_cls I.kIn ga (PySem.W.cls_value I.kIn rd at_ (by decide +kernel) ?_)
  refine PyProof.Rows.callWith_method1 (thn (ha.run pos pins _ σ H _ (I.tok _) h) fun us s1 hh => ?_) he hpl
  obtain ⟨vs, H1, I1, r1, a, C, ws, rfl, hl, T, ea, q⟩ := hh
  cases r1 with
  | @cons _ u0 _ ur ra rw' =>
    obtain rfl : u0 = Value.ref a := ra
    exact oinit_ok T I1 ea (by rw [← Paired.length rw', sizeLine_eq]; omega) fun s' J => ⟨.non, H1, J, rfl, q⟩
end
/-- isinstance(e, c), e the exception that the suite holds, its class told at the reading -/
def rIsE2 (K : PySem.W.Frag) (cls : Value) (d : Option Addr) (a : Addr) : List V → Hp → VK → Prop := fun xs H Q =>
  ∃ (D : Addr) (c : V) (cv : Value) (b : Bool), cls = .ref D ∧ ExcC K D ∧ xs = [.ref a, c] ∧ (∀ u, RelV c u → u = cv) ∧ PySem.W.kitOne K (.ref D) cv = some b ∧ Q (.bl b) H
/-- e.f of such, its class told at the reading -/
def tXf2 (K : PySem.W.Frag) (a : Addr) (cls : Value) (d : Option Addr) (f : Str) (te : TE) : TE := fun σ H Q => te σ H fun x H1 => ∃ (C dd : Addr) (fs : List (Str × V)) (v : V),
  x = .ref a ∧ cls = .ref C ∧ XfC K C ∧ PySem.W.findIn K (.ref C) f = some none ∧ d = some dd ∧ H1 dd = some (.xd fs) ∧ fs.lookup f = some v ∧ Q v H1
theorem pe_xf2 {X : Cx} {a : Addr} {oe : Obj} {cls : Value} {d : Option Addr} {pn : List (Addr × Obj)} {e : Expr} {te : TE} {pos : Pos} {n : Str} (hz : Zc cls d oe) (hf : ∃ vs, oe.data = .fields vs)
    (he : PE (X.suite a ((a, oe) :: pn)) e te) (hb : attributeBase e n X.env (eval e X.env) = eval e X.env := by rfl) : PE (X.suite a ((a, oe) :: pn)) (.Attribute e n pos) (tXf2 X.K a cls d n te) := by
  refine ⟨fun pins s σ H Q I h => ?_⟩
  refine attr_of hb (thn (he.run pins s σ H _ I h) fun u s1 hh => ?_)
  obtain ⟨x, H1, I1, rx, C, dd, fs, v, rfl, rfl, T, hno, rfl, ea, l, q⟩ := hh
  obtain rfl : u = Value.ref a := rx
  obtain ⟨ha, _⟩ := I1.pin (a, oe) (List.mem_append_left _ List.mem_cons_self)
  obtain ⟨vs, hd⟩ := hf
  obtain ⟨mA, hns, hr⟩ : ObjOk X.prog X.w H1 s1.heap dd (.xd fs) := I1.hok dd _ ea
  obtain ⟨od, ho, hl⟩ := lookIn_ns hns
  obtain ⟨w, hu, ru⟩ := RelO.some_of (v := v) (o := mA n) (by rw [← l]; exact hr n)
  have J : PySem.W.InstAt s1.heap a oe C (some od) := ⟨ha, hz.1, (by unfold PySem.W.notCls; rw [hd] <;> rfl), (by rw [hz.2]; exact ho)⟩
  exact HandSPX.exc_get I1.kIn J T.ga T.gg T.exC (PySem.W.findObj_own T.hdC hno rfl (by rw [hl, hu])) (handed_of ru) ⟨v, H1, I1.tok _, ru, q⟩
end My

set_option Elab.async false
set_option linter.all false
set_option maxRecDepth 100000
set_option maxHeartbeats 4000000
namespace My
open PySem L2
def top (i : Nat) : Stmt := PySem.Challenge.pw_wentback_k01_whole_programs_by_their_for.main.body.getD i (.Pass ⟨0, 0, 0, 0⟩)
abbrev s_BadProgram_init : Stmt := inClass (top 2) 0
abbrev s_is_whole : Stmt := top 7
abbrev s_is_word : Stmt := top 8
abbrev s_Program_init : Stmt := inClass (top 18) 0
abbrev s_Program_told : Stmt := inClass (top 18) 1
abbrev s_is_name : Stmt := top 19
abbrev s_look_at_proc : Stmt := top 20
abbrev s_is_instruction : Stmt := top 21
abbrev s_is_place : Stmt := top 22
abbrev s_is_program : Stmt := top 23
abbrev s_needs : Stmt := top 24
abbrev s_law_draws : Stmt := top 26
abbrev s_law_draw : Stmt := top 27
abbrev s_law_same : Stmt := top 28
abbrev s_law_pick : Stmt := top 29
abbrev s_law_snippet : Stmt := top 30
abbrev s_law_goer : Stmt := top 31
abbrev s_law_program : Stmt := top 32
abbrev s_law_proc : Stmt := top 33
abbrev s_law_takes : Stmt := top 34
abbrev s_law_asked : Stmt := top 35
abbrev s_law : Stmt := top 36
structure Ad where
  (BadProgram_init is_whole is_word Program_init Program_told is_name look_at_proc is_instruction is_place is_program needs law_draws : Addr)
  (law_draw law_same law_pick law_snippet law_goer law_program law_proc law_takes law_asked law C_BackError C_BadProgram : Addr)
  (C_Program c_WORKS c_CONDITIONS c_ALONE : Addr)
structure Txt (K : PySem.W.Frag) (mg : Str → Option Value) (a : Ad) : Prop where
  g_is_whole : mg "is_whole" = some (.ref a.is_whole)
  k_is_whole : PySem.W.keepIn K (.ref a.is_whole) = true
  g_is_word : mg "is_word" = some (.ref a.is_word)
  k_is_word : PySem.W.keepIn K (.ref a.is_word) = true
  g_is_name : mg "is_name" = some (.ref a.is_name)
  k_is_name : PySem.W.keepIn K (.ref a.is_name) = true
  g_look_at_proc : mg "look_at_proc" = some (.ref a.look_at_proc)
  k_look_at_proc : PySem.W.keepIn K (.ref a.look_at_proc) = true
  g_is_instruction : mg "is_instruction" = some (.ref a.is_instruction)
  k_is_instruction : PySem.W.keepIn K (.ref a.is_instruction) = true
  g_is_place : mg "is_place" = some (.ref a.is_place)
  k_is_place : PySem.W.keepIn K (.ref a.is_place) = true
  g_is_program : mg "is_program" = some (.ref a.is_program)
  k_is_program : PySem.W.keepIn K (.ref a.is_program) = true
  g_needs : mg "needs" = some (.ref a.needs)
  k_needs : PySem.W.keepIn K (.ref a.needs) = true
  g_law_draws : mg "_law_draws" = some (.ref a.law_draws)
  k_law_draws : PySem.W.keepIn K (.ref a.law_draws) = true
  g_law_draw : mg "_law_draw" = some (.ref a.law_draw)
  k_law_draw : PySem.W.keepIn K (.ref a.law_draw) = true
  g_law_same : mg "_law_same" = some (.ref a.law_same)
  k_law_same : PySem.W.keepIn K (.ref a.law_same) = true
  g_law_pick : mg "_law_pick" = some (.ref a.law_pick)
  k_law_pick : PySem.W.keepIn K (.ref a.law_pick) = true
  g_law_snippet : mg "_law_snippet" = some (.ref a.law_snippet)
  k_law_snippet : PySem.W.keepIn K (.ref a.law_snippet) = true
  g_law_goer : mg "_law_goer" = some (.ref a.law_goer)
  k_law_goer : PySem.W.keepIn K (.ref a.law_goer) = true
  g_law_program : mg "_law_program" = some (.ref a.law_program)
  k_law_program : PySem.W.keepIn K (.ref a.law_program) = true
  g_law_proc : mg "_law_proc" = some (.ref a.law_proc)
  k_law_proc : PySem.W.keepIn K (.ref a.law_proc) = true
  g_law_takes : mg "_law_takes" = some (.ref a.law_takes)
  k_law_takes : PySem.W.keepIn K (.ref a.law_takes) = true
  g_law_asked : mg "_law_asked" = some (.ref a.law_asked)
  k_law_asked : PySem.W.keepIn K (.ref a.law_asked) = true
  g_law : mg "law" = some (.ref a.law)
  k_law : PySem.W.keepIn K (.ref a.law) = true
  g_HALF : GV mg "HALF" (.int 2147483648)
  g_WORKS : GV mg "WORKS" (.ref a.c_WORKS)
  t_WORKS : KT K a.c_WORKS [.str "add", .str "sub", .str "mul", .str "div", .str "rem", .str "and", .str "or", .str "xor"]
  g_CONDITIONS : GV mg "CONDITIONS" (.ref a.c_CONDITIONS)
  t_CONDITIONS : KT K a.c_CONDITIONS [.str "lt", .str "le", .str "eq", .str "ne", .str "gt", .str "ge"]
  g_SMALL : GV mg "SMALL" (.str "abcdefghijklmnopqrstuvwxyz")
  g_MOST_CELLS : GV mg "MOST_CELLS" (.int 16)
  g_MOST_LOCKS : GV mg "MOST_LOCKS" (.int 6)
  g_MOST_PROCS : GV mg "MOST_PROCS" (.int 12)
  g_MOST_PARAMS : GV mg "MOST_PARAMS" (.int 4)
  g_MOST_LOCALS : GV mg "MOST_LOCALS" (.int 8)
  g_MOST_CODE : GV mg "MOST_CODE" (.int 80)
  g_ALONE : GV mg "ALONE" (.ref a.c_ALONE)
  t_ALONE : KT K a.c_ALONE [.str "add", .str "sub", .str "mul", .str "div", .str "rem", .str "and", .str "or", .str "xor", .str "dup", .str "drop", .str "neg", .str "give", .str "fetch", .str "set", .str "ask", .str "tell", .str "join"]
  b_all : mg "all" = none
  b_bool : mg "bool" = none
  b_enumerate : mg "enumerate" = none
  b_int : mg "int" = none
  b_isinstance : mg "isinstance" = none
  b_len : mg "len" = none
  b_list : mg "list" = none
  b_min : mg "min" = none
  b_range : mg "range" = none
  b_str : mg "str" = none
  b_tuple : mg "tuple" = none
  g_BackError : mg "BackError" = some (.ref a.C_BackError)
  k_BackError : PySem.W.keepIn K (.ref a.C_BackError) = true
  sb_BackError : PySem.W.subIn K (.ref a.C_BackError) (.type "BaseException") = some true
  ty_BackError : PySem.W.typeIn K (.ref a.C_BackError) = some (.type "type")
  hd_BackError : PySem.W.hasDictIn K a.C_BackError = true
  ga_BackError : PySem.W.findIn K (.ref a.C_BackError) "__getattribute__" = some (some (.builtin "BaseException.__getattribute__"))
  gg_BackError : PySem.W.findIn K (.ref a.C_BackError) "__getattr__" = some none
  gc_BackError : PySem.W.findIn K (.ref a.C_BackError) "__class__" = some (some (.builtin "object.__class__"))
  mo_BackError : PySem.W.mroIn K a.C_BackError (.type "object") = some true
  ec_BackError : ExcC K a.C_BackError
  xf_BackError : XfC K a.C_BackError
  x_BackError : PySem.W.excIn K a.C_BackError [.type "ValueError", .type "Exception", .type "BaseException", .type "object"] "ValueError.__new__" = true
  oi_BackError : OInit K mg "BackError" a.C_BackError
  g_BadProgram : mg "BadProgram" = some (.ref a.C_BadProgram)
  k_BadProgram : PySem.W.keepIn K (.ref a.C_BadProgram) = true
  sb_BadProgram : PySem.W.subIn K (.ref a.C_BadProgram) (.type "BaseException") = some true
  ty_BadProgram : PySem.W.typeIn K (.ref a.C_BadProgram) = some (.type "type")
  hd_BadProgram : PySem.W.hasDictIn K a.C_BadProgram = true
  ga_BadProgram : PySem.W.findIn K (.ref a.C_BadProgram) "__getattribute__" = some (some (.builtin "BaseException.__getattribute__"))
  gg_BadProgram : PySem.W.findIn K (.ref a.C_BadProgram) "__getattr__" = some none
  gc_BadProgram : PySem.W.findIn K (.ref a.C_BadProgram) "__class__" = some (some (.builtin "object.__class__"))
  mo_BadProgram : PySem.W.mroIn K a.C_BadProgram (.type "object") = some true
  ec_BadProgram : ExcC K a.C_BadProgram
  xf_BadProgram : XfC K a.C_BadProgram
  oc_BadProgram : OexC K a.C_BadProgram
  no_BadProgram_place : PySem.W.findIn K (.ref a.C_BadProgram) "place" = some none
  no_BadProgram_word : PySem.W.findIn K (.ref a.C_BadProgram) "word" = some none
  m_BadProgram_init : Meth K a.C_BadProgram "__init__" a.BadProgram_init
  mt_BadProgram_init : PySem.W.typeIn K (.ref a.BadProgram_init) = some (.type "function")
  g_Program : mg "Program" = some (.ref a.C_Program)
  cp_Program : PySem.W.plainGet K a.C_Program Str.empty = true
  ch_Program : PySem.W.hasDictIn K a.C_Program = true
  co_Program : PySem.W.plainOver K a.C_Program = true
  cs_Program : PySem.W.findIn K (.ref a.C_Program) "__setattr__" = some (some (.builtin "object.__setattr__"))
  gc_Program : PySem.W.findIn K (.ref a.C_Program) "__class__" = some (some (.builtin "object.__class__"))
  mo_Program : PySem.W.mroIn K a.C_Program (.type "object") = some true
  cl_Program : Cls K a.C_Program
  no_Program_by : NoAttr K a.C_Program "by"
  no_Program_cells : NoAttr K a.C_Program "cells"
  no_Program_locks : NoAttr K a.C_Program "locks"
  no_Program_procs : NoAttr K a.C_Program "procs"
  no_Program_start : NoAttr K a.C_Program "start"
  m_Program_init : Meth K a.C_Program "__init__" a.Program_init
  mk_Program : Mk K a.C_Program a.Program_init
  m_Program_told : Meth K a.C_Program "told" a.Program_told
  ki_BackError_BackError : PySem.W.kitOne K (.ref a.C_BackError) (.ref a.C_BackError) = some true
  ex_BackError_BackError : PySem.W.exmOne K (.ref a.C_BackError) (.ref a.C_BackError) = some true
  ki_BackError_BadProgram : PySem.W.kitOne K (.ref a.C_BackError) (.ref a.C_BadProgram) = some false
  ex_BackError_BadProgram : PySem.W.exmOne K (.ref a.C_BackError) (.ref a.C_BadProgram) = some false
  ki_BadProgram_BackError : PySem.W.kitOne K (.ref a.C_BadProgram) (.ref a.C_BackError) = some true
  ex_BadProgram_BackError : PySem.W.exmOne K (.ref a.C_BadProgram) (.ref a.C_BackError) = some true
  ki_BadProgram_BadProgram : PySem.W.kitOne K (.ref a.C_BadProgram) (.ref a.C_BadProgram) = some true
  ex_BadProgram_BadProgram : PySem.W.exmOne K (.ref a.C_BadProgram) (.ref a.C_BadProgram) = some true
  oc_get : PySem.W.specialIn K (.builtin "object.__class__") "__get__" = some (some (.builtin "getset_descriptor.__get__"))
  oc_tak : PySem.W.takesIn K (.builtin "object.__class__") = some true
structure Funs (K : PySem.W.Frag) (a : Ad) : Prop where
  F_BadProgram_init : ∃ fd, Fun K "__init__" "BadProgram.__init__" s_BadProgram_init a.BadProgram_init fd ∧ Binds K fd ["self", "place", "word"] []
  F_is_whole : ∃ fd, Fun K "is_whole" "is_whole" s_is_whole a.is_whole fd ∧ Binds K fd ["value"] []
  F_is_word : ∃ fd, Fun K "is_word" "is_word" s_is_word a.is_word fd ∧ Binds K fd ["value"] []
  F_Program_init : ∃ fd, Fun K "__init__" "Program.__init__" s_Program_init a.Program_init fd ∧ Binds K fd ["self", "cells", "locks", "procs", "start"] []
  F_Program_told : ∃ fd, Fun K "told" "Program.told" s_Program_told a.Program_told fd ∧ Binds K fd ["self"] []
  F_is_name : ∃ fd, Fun K "is_name" "is_name" s_is_name a.is_name fd ∧ Binds K fd ["value"] []
  F_look_at_proc : ∃ fd, Fun K "look_at_proc" "look_at_proc" s_look_at_proc a.look_at_proc fd ∧ Binds K fd ["program", "one"] []
  F_is_instruction : ∃ fd, Fun K "is_instruction" "is_instruction" s_is_instruction a.is_instruction fd ∧ Binds K fd ["program", "proc", "value"] []
  F_is_place : ∃ fd, Fun K "is_place" "is_place" s_is_place a.is_place fd ∧ Binds K fd ["proc", "value"] []
  F_is_program : ∃ fd, Fun K "is_program" "is_program" s_is_program a.is_program fd ∧ Binds K fd ["value"] []
  F_needs : ∃ fd, Fun K "needs" "needs" s_needs a.needs fd ∧ Binds K fd ["program", "op"] []
  F_law_draws : ∃ fd, Fun K "_law_draws" "_law_draws" s_law_draws a.law_draws fd ∧ Binds K fd ["script"] []
  F_law_draw : ∃ fd, Fun K "_law_draw" "_law_draw" s_law_draw a.law_draw fd ∧ Binds K fd ["draws", "limit"] []
  F_law_same : ∃ fd, Fun K "_law_same" "_law_same" s_law_same a.law_same fd ∧ Binds K fd ["actual", "expected"] []
  F_law_pick : ∃ fd, Fun K "_law_pick" "_law_pick" s_law_pick a.law_pick fd ∧ Binds K fd ["draws", "things"] []
  F_law_snippet : ∃ fd, Fun K "_law_snippet" "_law_snippet" s_law_snippet a.law_snippet fd ∧ Binds K fd ["draws", "cells", "locks", "deep"] []
  F_law_goer : ∃ fd, Fun K "_law_goer" "_law_goer" s_law_goer a.law_goer fd ∧ Binds K fd ["draws", "cells", "locks"] []
  F_law_program : ∃ fd, Fun K "_law_program" "_law_program" s_law_program a.law_program fd ∧ Binds K fd ["draws"] []
  F_law_proc : ∃ fd, Fun K "_law_proc" "_law_proc" s_law_proc a.law_proc fd ∧ Binds K fd ["told", "name"] []
  F_law_takes : ∃ fd, Fun K "_law_takes" "_law_takes" s_law_takes a.law_takes fd ∧ Binds K fd ["told", "op"] []
  F_law_asked : ∃ fd, Fun K "_law_asked" "_law_asked" s_law_asked a.law_asked fd ∧ Binds K fd ["told"] []
  F_law : ∃ fd, Fun K "law" "law" s_law a.law fd ∧ Binds K fd ["script"] []
section
variable {P : Program} {w : World} {K : PySem.W.Frag} {mg : Str → Option Value} {base : Heap}
theorem Fc.ok {x qual : Str} {st : Stmt} {f : Addr} {N ps : List Str} {k : Nat} {sp : Sp} (F : ∃ fd, Fun K x qual st f fd ∧ Binds K fd ps []) (S : FnScope N ps (defScope st)) (len : ∀ vs H Q E, sp vs H Q E → vs.length = ps.length)
    (hbody : ∀ (cdv : Value) (A : Around) (outer : List Env) (s : Shared) (f : Addr) (H : Hp) (vs : List V) (Q : VK) (E : XK), Room k (A.deeper (PyProof.Rows.envOfC qual (defScope st) s.heap.objs.size f cdv)) → sp vs H Q E →
      ∃ t, PSs (cxOf CX0 P w K mg base N qual (defScope st) f cdv A outer s H E).nox (defBody st) t ∧ t { nx := fun _ H' => Q .non H', rt := Q } (start N vs) H) : Fc P w K mg base CX0 (k + 1) f ps sp := by
  obtain ⟨fd, F, b⟩ := F
  exact ⟨fd, F.ok S len fun cdv A outer s H vs Q E hr h => hbody cdv A outer s f H vs Q E hr h, b⟩
theorem Fc.okX {x qual : Str} {st : Stmt} {f : Addr} {N ps : List Str} {k : Nat} {sp : Sp} (F : ∃ fd, Fun K x qual st f fd ∧ Binds K fd ps []) (S : FnScope N ps (defScope st)) (len : ∀ vs H Q E, sp vs H Q E → vs.length = ps.length)
    (hbody : ∀ (cdv : Value) (A : Around) (outer : List Env) (s : Shared) (f : Addr) (H : Hp) (vs : List V) (Q : VK) (E : XK), Room k (A.deeper (PyProof.Rows.envOfC qual (defScope st) s.heap.objs.size f cdv)) → sp vs H Q E →
      ∃ t, PSs (cxOf (L2.CX P w) P w K mg base N qual (defScope st) f cdv A outer s H E) (defBody st) t ∧ t { nx := fun _ H' => Q .non H', rt := Q } (start N vs) H) : Fc P w K mg base (L2.CX P w) (k + 1) f ps sp := by
  obtain ⟨fd, F, b⟩ := F
  exact ⟨fd, F.okX S len fun cdv A outer s H vs Q E hr h => hbody cdv A outer s f H vs Q E hr h, b⟩
end
end My

set_option Elab.async false
set_option linter.all false
set_option maxRecDepth 100000
set_option maxHeartbeats 4000000
/-! ## for i, x in enumerate(t), t a tuple -/
namespace My
open PySem PySem.Spec PySem.W PyProof.Rows
set_option maxHeartbeats 1000000 in
theorem en_new {v : Value} {o : Obj} {D : Heap → Prop} (B : Begins v o D) :
    Meets (Builtin.«enumerate.__new__» ⟨[.type "enumerate", v], []⟩) fun _ R s => D s.heap ∧
      R (.ok (.ret (.ref (s.heap.push o).objs.size))) { s with heap := (s.heap.push o).push { cls := .type "enumerate", data := .fields #[.none, .bool false, .ref s.heap.objs.size, rawInt 0, .none, .none] } } := by
  refine .of_wp fun pr wo ar R s hh => ?_
  obtain ⟨hd, hh⟩ := hh
  obtain ⟨hp, ge, dr, tk, os⟩ := s
  have sub := sub_enumerate
  have it1 : ∀ {ar' : Around} {E Q : Value → Shared → Prop}, Q (.ref hp.objs.size) ⟨hp.push o, ge, dr, tk, os⟩ → wpAny (model pr wo) ar' (pyIter v) Q E ⟨hp, ge, dr, tk, os⟩ := fun {_ _ _} q =>
    B.iter pr wo _ _ ⟨hp, ge, dr, tk, os⟩ _ hd q
  wp_walk using it1
  refine wpAny_stack_any (fun below => (wpAny_pure ?_))
  split
  · rename_i c a1 a2 a3 a4 a5
    cases (c == Value.type "enumerate") <;> (wp_walk using it1; exact ⟨_, rfl, hh⟩)
  · wp_walk using it1
    exact ⟨_, rfl, hh⟩
theorem en_call {pr : Program} {wo : World} {ar : Around} {E : Value → Shared → Prop} {s : Shared} {t : Addr} {items : Array Value} {Q : Value → Shared → Prop} (ht : s.heap.IsTuple t items)
    (hq : ∀ h', IsEnum h' (s.heap.objs.size + 1) s.heap.objs.size 0 .none → h'.IsTupleIter s.heap.objs.size t 0 → (∀ b ob, s.heap.get? b = some ob → h'.get? b = some ob) →
      Q (.ref (s.heap.objs.size + 1)) { s with heap := h' }) : wpAny (model pr wo) ar (call (.type "enumerate") [.ref t]) Q E s := by
  have B := begins_tuple t items
  refine callType_new F.called_enumerate (by decide) (F.typeCall_enumerate_1 _) (F.newCall_enumerate_1 _) (fun ob => F.args_object_init_2 ob _) F.entry_enumerate_new (en_new B) ⟨ht, ?_⟩
  have one : (s.heap.push ({ cls := .type "tuple_iterator", data := .fields #[.ref t, .int 0 0] } : Obj)).objs.size = s.heap.objs.size + 1 := Heap.size_push ..
  show _ ∧ _
  rw [one]
  have isE : IsEnum ((s.heap.push { cls := .type "tuple_iterator", data := .fields #[.ref t, .int 0 0] }).push ({ cls := .type "enumerate", data := .fields #[.none, .bool false, .ref s.heap.objs.size, rawInt 0, .none, .none] } : Obj)) (s.heap.objs.size + 1) s.heap.objs.size 0 .none := by
    have z := Heap.get?_push_size (s.heap.push { cls := .type "tuple_iterator", data := .fields #[.ref t, .int 0 0] }) (o := { cls := .type "enumerate", data := .fields #[.none, .bool false, .ref s.heap.objs.size, rawInt 0, .none, .none] }) rfl
    rw [one] at z
    exact z
  exact ⟨⟨_, isE, rfl⟩, hq _ isE ⟨_, Heap.get?_push_of_some _ (Heap.get?_push_size _ rfl), rfl, rfl⟩ fun b ob x => (Heap.get?_push_of_some _ (Heap.get?_push_of_some _ x))⟩
end My
namespace My
open PySem PySem.Spec PyProof.Rows L2
/-- the tuple at a as it stands, each item in a new pair with its number -/
def Ien (K : PySem.W.Frag) (a : Addr) : It :=
  ⟨fun i H => ∃ (xs : List V) (x : V), SqT K H a xs ∧ xs[i]? = some x,
   fun i H v H' => ∃ (p : Addr) (x : V), v = .ref p ∧ H p = none ∧ H' = upd H p (.tup [.int (i : Nat), x]) ∧ ∀ xs, SqT K H a xs → xs[i]? = some x,
   fun i H => ∃ xs : List V, SqT K H a xs ∧ xs.length = i⟩
theorem turn_en {P : Program} {w : World} {K : PySem.W.Frag} {elts : List Expr} {kk : Nat} {tpos : Pos} (a e it : Addr) (ae : a ≠ e) (ai : a ≠ it) (ei : e ≠ it) :
    Turn P w K (.Tuple elts kk tpos) (Ien K a) [e, it] e fun i h => (∃ old, IsEnum h e it ((i : Nat) : Int) old) ∧ h.IsTupleIter it a i where
  mem := List.mem_cons_self
  obj := fun i h st b hb => by
    obtain ⟨⟨old, he⟩, o, ho, hc, hd⟩ := st
    rcases List.mem_cons.mp hb with rfl | hb
    · exact ⟨_, he, fun v q => nomatch q⟩
    · obtain rfl := List.mem_singleton.mp hb
      exact ⟨o, ho, fun v q => by rw [hd] at q; cases q⟩
  keep := fun i h h' st k => by
    obtain ⟨⟨old, he⟩, hi⟩ := st
    exact ⟨⟨old, k e List.mem_cons_self _ he⟩, hi.at fun o q => k it (by simp) o q⟩
  item := by
    intro X hP hw hK hc i pins s σ H E I hf st hg
    subst hP hw hK
    obtain ⟨⟨old, he⟩, hit⟩ := st
    obtain ⟨xs, x, hq, hx⟩ := hg
    obtain ⟨its, rv, p, hz⟩ := I.tuple hq
    obtain ⟨u, hu, ru⟩ := rv.get hx
    have hel : e < s.heap.objs.size := Heap.lt_size he
    have hil : it < s.heap.objs.size := by obtain ⟨_, q, _⟩ := hit; exact Heap.lt_size q
    have hlt : i < its.toArray.size := by simpa using (List.getElem?_eq_some_iff.mp hu).1
    have D := Draws.tuple (prog := X.prog) (w := X.w) (A := X.A.in1) (I.ok.hd hc) it a ai its.toArray
    have q0 : e ∉ [it, a] := fun m => by
      rcases List.mem_cons.mp m with z | m
      · exact ei z
      · exact ae (List.mem_singleton.mp m).symm
    refine wpAny_pyNext_enum_itemD D he ⟨hit, (show s.heap.IsTuple a its.toArray from p)⟩ hlt ei q0 fun y h' tk hy ho hst hT hsz hk => ?_
    have ey : y = u := by
      have e1 : its.toArray[i]? = some u := by simpa using hu
      rw [e1] at hy; exact (Option.some.inj hy).symm
    subst ey
    refine ⟨_, rfl, wpAny_letOwnedTupleGo_enum (s := { s with heap := h', toks := tk + 1 }) ho fun h2 he' sb => ?_⟩
    have hT2 : h2.get? s.heap.objs.size = some { cls := .type "tuple", data := .seq #[.int i tk, y] } := (sb.2 _ (Nat.ne_of_gt hel)).trans hT
    have pair : ObjOk X.prog X.w (upd H s.heap.objs.size (.tup [.int (i : Nat), x])) h2 s.heap.objs.size (.tup [.int (i : Nat), x]) :=
      ⟨(by show 2 ≤ sizeLine; decide), [.int i tk, y], .cons ⟨_, rfl⟩ (.cons ru .nil), _, hT2, rfl, _, rfl⟩
    have I1 : Inv X pins σ (upd H s.heap.objs.size (.tup [.int (i : Nat), x])) { s with heap := h2, toks := tk + 1 } :=
      I.turnedNew (ch := [e, it]) (fun b ob hb q => by
        have b1 : b ≠ e := fun z => hb (by simp [z])
        have b2 : b ≠ it := fun z => hb (by simp [z])
        exact (sb.2 b b1).trans (hk b ob b1 b2 q)) hf (Nat.le_refl _) pair
    refine ⟨.ref s.heap.objs.size, _, I1, rfl, ⟨_, x, rfl, I.hok.fresh (Nat.le_refl _), rfl, fun ys hy => by rw [I.tuple_inj hy hq]; exact hx⟩, ⟨⟨y, ?_⟩, hst.1.at fun o q => (sb.2 it (Ne.symm ei)).trans q⟩, fun b hb => ?_⟩
    · have e1 : ((i + 1 : Nat) : Int) = (i : Int) + 1 := by omega
      rw [e1]
      exact he'
    · have lt : b < s.heap.objs.size := by
        rcases List.mem_cons.mp hb with z | hb
        · rw [z]; exact hel
        · rw [List.mem_singleton.mp hb]; exact hil
      rw [upd_ne (Nat.ne_of_lt lt)]
      exact (hf b hb).1
  done := by
    intro X hP hw hK hc i pins s σ H E I hf st hg
    subst hP hw hK
    obtain ⟨⟨old, he⟩, hit⟩ := st
    obtain ⟨xs, hq, hx⟩ := hg
    obtain ⟨its, rv, p, hz⟩ := I.tuple hq
    obtain ⟨f0, f1, f2, f3, f4, f5⟩ := hf it (by simp)
    have D := Draws.tuple (prog := X.prog) (w := X.w) (A := X.A.in1) (I.ok.hd hc) it a ai its.toArray
    have ez : its.toArray.size = i := by have := rv.length; simp; omega
    subst ez
    exact wpAny_pyNext_enum_endD D he ⟨hit, (show s.heap.IsTuple a its.toArray from p)⟩ fun h' eb => ⟨rfl, I.turned (t' := s.toks) (fun b o hb q => eb b o hb q) f0 f1 f3 f4 f5⟩
  self := fun A i s Q E st h => by
    obtain ⟨⟨old, he⟩, _⟩ := st
    exact wpAny_pyIter_enum he h
/-- what the walk asks: the tuple as it stands -/
def iEnT (K : PySem.W.Frag) (ta : TA) : TI := fun σ H R => ta σ H fun vs H1 => ∃ a xs, vs = [.ref a] ∧ SqT K H1 a xs ∧ R (Ien K a) H1
theorem pi_enumT {X : Cx} {e : Expr} {ta : TA} {p pos tpos : Pos} {elts : List Expr} {kk : Nat} (hg : Gl X "enumerate") (hm : X.mg "enumerate" = none) (ha : PA X [e] ta) (hs : starEach [e] X.env = [(false, eval e X.env)] := by rfl) :
    PI X (.Tuple elts kk tpos) (.Call (.Name "enumerate" p) [e] [] pos) (iEnT X.K ta) := by
  refine ⟨fun pins s σ H R I h => Call_ (ld_blt I hg hm boot_enumerate (PyProof.Rows.callWith_type1 (thn (ha.run pos pins s σ H _ I h) fun us s1 hh => ?_) hs rfl))⟩
  obtain ⟨vs, H1, I1, r1, a, xs, rfl, hq, q⟩ := hh
  rw [Vals.ref1 r1]
  obtain ⟨its, rv, pt, hz⟩ := I1.tuple hq
  have hal : a < s1.heap.objs.size := by obtain ⟨o, ho, _⟩ := pt; exact Heap.lt_size ho
  refine en_call (show s1.heap.IsTuple a its.toArray from pt) fun h' he hit hk => wpAny_pyIter_enum he ?_
  have I2 : Inv X pins σ H1 { s1 with heap := h' } := I1.kept (t' := s1.toks) hk
  refine ⟨s1.heap.objs.size + 1, [s1.heap.objs.size + 1, s1.heap.objs.size], _, _, H1, rfl, I2, turn_en a (s1.heap.objs.size + 1) s1.heap.objs.size (Nat.ne_of_lt (Nat.lt_succ_of_lt hal)) (Nat.ne_of_lt hal) (Nat.succ_ne_self _), ⟨⟨.none, he⟩, hit⟩, fun b hb => ?_, q⟩
  have le : s1.heap.objs.size ≤ b := by
    rcases List.mem_cons.mp hb with z | hb
    · rw [z]; exact Nat.le_succ _
    · rw [List.mem_singleton.mp hb]; exact Nat.le_refl _
  exact I1.fpOk le (I1.hok.fresh le)
theorem walk_en {K : PySem.W.Frag} {a : Addr} {xs : List V} : Walk (Ien K a) xs.length (fun H => SqT K H a xs) (YPair (fun i => some (.int (i : Nat))) (fun i => xs[i]?)) := by
  refine ⟨fun i _ hi q => ⟨xs, xs[i], q, by simp [hi]⟩, fun _ q => ⟨xs, q, rfl⟩, fun i H v H' _ q y => ?_⟩
  obtain ⟨p, x, h1, h2, h3, h4⟩ := y
  exact ⟨p, .int (i : Nat), x, h1, h2, h3, rfl, h4 xs q⟩
end My

set_option Elab.async false
set_option linter.all false
set_option maxRecDepth 100000
set_option maxHeartbeats 4000000
/-! ## the program's form: mirrors over data -/
namespace My
open PySem L2
def small26 : Str := "abcdefghijklmnopqrstuvwxyz"
def wholeD : PyData → Bool
  | .int _ => true | _ => false
def wordD : PyData → Bool
  | .int n => decide (-2147483648 ≤ n) && decide (n < 2147483648) | _ => false
def nameS (s : Str) : Bool := decide (0 < s.length) && decide (s.length ≤ 12) && s.cps.toList.all fun c => decide (c ∈ small26.cps.toList)
def nameD : PyData → Bool
  | .str s => nameS s | _ => false
/-- an int between lo and below hi -/
def inD (lo hi : Int) : PyData → Bool
  | .int n => decide (lo ≤ n) && decide (n < hi) | _ => false
theorem whole_kit (d : PyData) : (isI d && !isB d) = wholeD d := by cases d <;> rfl
section
variable {P : Program} {w : World} {K : PySem.W.Frag} {mg : Str → Option Value} {base : Heap} {ad : Ad}
/-! ### is_whole, is_word -/
def spWhole (K : PySem.W.Frag) : Sp := fun vs H Q _ => ∃ (v : V) (d : PyData), vs = [v] ∧ Dt K H v d ∧ Q (.bl (wholeD d)) H
theorem sc_is_whole : FnScope ["value"] ["value"] (defScope s_is_whole) := ⟨rfl, rfl, rfl, by decide +kernel, rfl, by decide +kernel, by decide +kernel⟩
theorem ok_is_whole (T : Txt K mg ad) (U : Funs K ad) : Fc P w K mg base CX0 1 ad.is_whole ["value"] (spWhole K) := by
  refine Fc.ok U.F_is_whole sc_is_whole (fun vs H Q E h => ?_) (fun cdv A outer s f H vs Q E hr h => ?_)
  · obtain ⟨a, _, rfl, _⟩ := h
    rfl
  · obtain ⟨v, d, rfl, ht, k⟩ := h
    refine ⟨_, (pss_one (ps_ret (pe_and (pe_callB call_isi (by rfl) T.b_isinstance (by decide +kernel) (pa_cons (pv 0) (pa_cons (pe_bltn (v := .ty "int") (by rfl) T.b_int (by decide +kernel) rfl) pa_nil))) (pe_one (pe_not (pe_callB call_isi (by rfl) T.b_isinstance (by decide +kernel) (pa_cons (pv 0) (pa_cons (pe_bltn (v := .ty "bool") (by rfl) T.b_bool (by decide +kernel) rfl) pa_nil)))))))), ?_⟩
    rw [← whole_kit] at k
    refine ⟨_, rfl, v, _, _, _, _, rfl, .ty _, ht.ty, k_int d, _, rfl, itb (fun c => ?_) (fun c => ?_)⟩
    · rw [c] at k
      exact ⟨_, rfl, v, _, _, _, _, rfl, .ty _, ht.ty, k_bool d, _, rfl, k⟩
    · rw [c] at k
      exact k
def spWord (K : PySem.W.Frag) : Sp := fun vs H Q _ => ∃ (v : V) (d : PyData), vs = [v] ∧ Dt K H v d ∧ Q (.bl (wordD d)) H
theorem sc_is_word : FnScope ["value"] ["value"] (defScope s_is_word) := ⟨rfl, rfl, rfl, by decide +kernel, rfl, by decide +kernel, by decide +kernel⟩
theorem ok_is_word (T : Txt K mg ad) (U : Funs K ad) : Fc P w K mg base CX0 2 ad.is_word ["value"] (spWord K) := by
  have G_is_whole := ok_is_whole (P := P) (w := w) (base := base) T U
  refine Fc.ok U.F_is_word sc_is_word (fun vs H Q E h => ?_) (fun cdv A outer s f H vs Q E hr h => ?_)
  · obtain ⟨a, _, rfl, _⟩ := h
    rfl
  · obtain ⟨v, d, rfl, ht, k⟩ := h
    refine ⟨_, (pss_one (ps_ret (pe_and (pe_callF G_is_whole (hr.mono (by decide)) rfl T.g_is_whole T.k_is_whole pass0 (pa_cons (pv 0) pa_nil)) (pe_one (pe_chain op_le op_lt (pe_un un_neg (pe_globE rfl T.g_HALF)) (pv 0) (pe_globE rfl T.g_HALF)))))), ?_⟩
    refine ⟨_, rfl, v, d, rfl, ht, _, rfl, ?_⟩
    cases d with
    | int n =>
      cases ht
      refine iteT ⟨_, rfl, _, rfl, _, _, rfl, rfl, _, rfl, itd (fun c => ?_) (fun c => ?_)⟩
      · have e : wordD (.int n) = decide (n < 2147483648) := by show (decide (-2147483648 ≤ n) && decide (n < 2147483648)) = _; rw [decide_eq_true (show -2147483648 ≤ n from c)]; rfl
        rw [e] at k
        exact ⟨_, _, rfl, rfl, k⟩
      · have e : wordD (.int n) = false := by show (decide (-2147483648 ≤ n) && decide (n < 2147483648)) = _; rw [decide_eq_false (show ¬ -2147483648 ≤ n from c)]; rfl
        rw [e] at k
        exact k
    | none => exact iteF k
    | bool b => exact iteF k
    | str b => exact iteF k
    | list b => exact iteF k
    | tuple b => exact iteF k
    | dict b => exact iteF k
/-! ### is_name -/
def spName (K : PySem.W.Frag) : Sp := fun vs H Q _ => ∃ (v : V) (d : PyData), vs = [v] ∧ Dt K H v d ∧ (∀ s, d = .str s → s.length ≤ 100000) ∧ ∀ H', Same H H' → Q (.bl (nameD d)) H'
theorem sc_is_name : FnScope ["value", "sign"] ["value"] (defScope s_is_name) := ⟨rfl, rfl, rfl, by decide +kernel, rfl, by decide +kernel, by decide +kernel⟩
theorem ok_is_name (T : Txt K mg ad) (U : Funs K ad) : Fc P w K mg base CX0 1 ad.is_name ["value"] (spName K) := by
  refine Fc.ok U.F_is_name sc_is_name (fun vs H Q E h => ?_) (fun cdv A outer s f H vs Q E hr h => ?_)
  · obtain ⟨a, _, rfl, _⟩ := h
    rfl
  · obtain ⟨v, d, rfl, ht, hl, k⟩ := h
    refine ⟨_, (pss_one (ps_ret (pe_and (pe_callB call_isi (by rfl) T.b_isinstance (by decide +kernel) (pa_cons (pv 0) (pa_cons (pe_bltn (v := .ty "str") (by rfl) T.b_str (by decide +kernel) rfl) pa_nil))) (pe_and (pe_chain op_lt op_le pe_int (pe_callB call_len_str (by rfl) T.b_len (by decide +kernel) (pa_cons (pv 0) pa_nil)) pe_int) (pe_one (pe_callB (cr_all rfl) (by rfl) T.b_all (by decide +kernel) (pa_cons (pe_lc (own := [("sign", 1)]) (g := gName 1) (by rfl) sc_is_name.nd (pi_str (pv 0)) (blkOk_by (own := [("sign", 1)]) (N := ["value", "sign"]) (sc := defScope s_is_name) (by decide +kernel)) (fun _ _ _ _ _ => (pg_name (i := 1) sc_is_name.nd rfl (Or.inl rfl))) (fun _ _ _ _ _ => pts_nil) (fun _ _ _ _ _ => (pe_cmpR op_in_sign (pv 1) (pe_globE rfl T.g_SMALL) (by rfl)))) pa_nil))))))), ?_⟩
    refine ⟨_, rfl, v, _, _, _, _, rfl, .ty _, ht.ty, k_str d, _, rfl, itb (fun c => ?_) (fun c => ?_)⟩
    · cases d <;> cases c
      rename_i s
      cases ht
      have hl := hl s rfl
      refine ⟨_, rfl, _, rfl, Evl.sz_of hl, _, _, rfl, rfl, _, rfl, itd (fun c1 => ?_) (fun c1 => ?_)⟩
      · refine ⟨_, _, rfl, rfl, _, rfl, itd (fun c2 => ?_) (fun c2 => ?_)⟩
        · have c1' : 0 < s.length := by omega
          have c2' : s.length ≤ 12 := by omega
          refine ⟨_, rfl, s, rfl, fun D hD => lc_it walk_str (fun i H' => H D = none ∧ Same H H' ∧ H' D = some (.lst (((s.cps.toList.take i).map fun c => decide (c ∈ small26.cps.toList)).map V.bl))) ⟨hD, same_new hD, upd_same⟩ (fun _ _ _ _ => trivial) ?_ ?_⟩
          · rintro i x H1 H2 hi ⟨_, sm, hDl⟩ ⟨rfl, c, hc, rfl⟩
            refine ⟨rfl, ?_⟩
            refine iteT (B := H D = none ∧ Same H H2 ∧ H2 D = some (.lst (((s.cps.toList.take (i + 1)).map fun c => decide (c ∈ small26.cps.toList)).map V.bl))) ?_
            refine ⟨_, rfl, c, small26, rfl, rfl, _, hDl, ?_, hD, ?_, ?_⟩
            · rw [List.length_map, List.length_map, List.length_take]
              exact Nat.lt_of_le_of_lt (Nat.min_le_left _ _) (Nat.lt_of_lt_of_le (show i < 13 by have : s.cps.size = s.length := rfl; omega) (by decide))
            · intro b o eb
              rw [upd_ne (ne_of_none eb hD)]
              exact sm b o eb
            · have hc' : s.cps.toList[i]? = some c := by rw [Array.getElem?_toList]; exact hc
              rw [take_snoc hc', List.map_append, List.map_append]
              exact upd_same
          · rintro H1 ⟨_, sm, hDl⟩
            refine ⟨D, _, rfl, SqL.of hDl, ?_⟩
            have e : (((s.cps.toList.take s.cps.size).map fun c => decide (c ∈ small26.cps.toList)).all id) = nameD (.str s) := by
              rw [List.take_of_length_le (by simp)]
              show _ = nameS s
              unfold nameS
              rw [decide_eq_true c1', decide_eq_true c2', List.all_map]
              rfl
            rw [e]
            exact k H1 sm
        · have e : nameD (.str s) = false := by
            show nameS s = false
            unfold nameS
            rw [decide_eq_false (show ¬ s.length ≤ 12 by omega)]; simp
          rw [e] at k
          exact k H (Same.refl _)
      · have e : nameD (.str s) = false := by
          show nameS s = false
          unfold nameS
          rw [decide_eq_false (show ¬ 0 < s.length by omega)]; simp
        exact ⟨_, rfl, iteF (by rw [e] at k; exact k H (Same.refl _))⟩
    · have e : nameD d = false := by cases d <;> first | rfl | cases c
      rw [e] at k
      exact k H (Same.refl _)
end
end My

set_option Elab.async false
set_option linter.all false
set_option maxRecDepth 100000
set_option maxHeartbeats 4000000
namespace My
open PySem L2
/-! ## BadProgram(place, word) -/
def spBP (C : Addr) : Sp := fun vs H Q _ => ∃ (e : Addr) (p w : V), vs = [.ref e, p, w] ∧ H e = some (exo e C none) ∧
  ∀ d, H d = none → d ≠ e → Q .non (upd (upd (upd H d (exd d [("place", p)])) e (exo e C (some d))) d (exd d [("word", w), ("place", p)]))
/-- what a raising def lets out -/
def Bad (K : PySem.W.Frag) (C : Addr) (H : Hp) (E : XK) (place : PyData) (word : Str) : Prop :=
  ∀ (d : Addr) (H' : Hp) (v : V), Same H H' → H' d = some (.xd [("word", .str word), ("place", v)]) → Dt K H' v place → E (.ref C) (some d) H'
theorem Bad.same {K : PySem.W.Frag} {C : Addr} {H H1 : Hp} {E : XK} {place : PyData} {word : Str} (s : Same H H1) (h : Bad K C H E place word) : Bad K C H1 E place word := fun d H' v sm e D => h d H' v (s.trans sm) e D
section
variable {P : Program} {w : World} {K : PySem.W.Frag} {mg : Str → Option Value} {base : Heap} {ad : Ad}
theorem sc_BadProgram_init : FnScope ["self", "place", "word"] ["self", "place", "word"] (defScope s_BadProgram_init) := ⟨rfl, rfl, rfl, by decide +kernel, rfl, by decide +kernel, by decide +kernel⟩
theorem ok_BadProgram_init (T : Txt K mg ad) (U : Funs K ad) : Fc P w K mg base CX0 1 ad.BadProgram_init ["self", "place", "word"] (spBP ad.C_BadProgram) := by
  refine Fc.ok U.F_BadProgram_init sc_BadProgram_init (fun vs H Q E h => ?_) (fun cdv A outer s f H vs Q E hr h => ?_)
  · obtain ⟨a, _, _, rfl, _⟩ := h
    rfl
  · obtain ⟨e, p, w, rfl, he, k⟩ := h
    refine ⟨_, (pss_cons (ps_expr (pe_oinit T.oi_BackError rfl (pa_cons (pv 0) (pa_cons (pv 2) pa_nil))))
      (pss_cons (ps_ost (pv 0) (pv 1))
      (pss_one (ps_ost (pv 0) (pv 2))))), ?_⟩
    refine ⟨_, rfl, _, rfl, e, ad.C_BadProgram, [w], rfl, (by show 1 ≤ 1000; decide), T.oc_BadProgram, he, ?_⟩
    refine ⟨_, rfl, _, rfl, e, ad.C_BadProgram, rfl, T.oc_BadProgram, T.no_BadProgram_place, .inl ⟨he, fun d hd ne => ?_⟩⟩
    refine ⟨_, rfl, _, rfl, e, ad.C_BadProgram, rfl, T.oc_BadProgram, T.no_BadProgram_word, .inr ⟨d, _, upd_same, by rw [upd_ne ne]; exact upd_same, (by show 1 ≤ 900; decide), ?_⟩⟩
    exact k d hd ne
/-- the reading of raise BadProgram(place, word), the arguments told -/
theorem raise_bp {p : V} {place : PyData} {word : Str} {H H1 : Hp} {E : XK} (q : Bad K ad.C_BadProgram H E place word) (sm : Same H H1) (hp : Dt K H1 p place) :
    [p, .str word].length ≤ 1000 ∧ ∀ a, H1 a = none → spBP ad.C_BadProgram (.ref a :: ([p, .str word] ++ [])) (upd H1 a (exo a ad.C_BadProgram none))
      (fun v H2 => v = .non ∧ ∃ (d : Addr) (fs : List (Str × V)), H2 a = some (exo a ad.C_BadProgram (some d)) ∧ H2 d = some (exd d fs) ∧ H1 d = none ∧ E (.ref ad.C_BadProgram) (some d) (upd (del H2 a) d (.xd fs))) fun _ _ _ => False := by
  refine ⟨by show 2 ≤ 1000; decide, fun a ha => ⟨a, p, .str word, rfl, upd_same, fun d hd ne => ⟨rfl, d, _, by rw [upd_ne ne.symm]; exact upd_same, upd_same, ?_, ?_⟩⟩⟩
  · rw [upd_ne ne] at hd; exact hd
  · have hd' : H1 d = none := by rw [upd_ne ne] at hd; exact hd
    have e : (upd (del (upd (upd (upd (upd H1 a (exo a ad.C_BadProgram none)) d (exd d [("place", p)])) a (exo a ad.C_BadProgram (some d))) d (exd d [("word", V.str word), ("place", p)])) a) d (.xd [("word", .str word), ("place", p)])) = upd H1 d (.xd [("word", .str word), ("place", p)]) := by
      funext b
      by_cases h1 : b = d
      · subst h1; rw [upd_same, upd_same]
      · rw [upd_ne h1, upd_ne h1]
        by_cases h2 : b = a
        · subst h2; rw [del_same, ha]
        · rw [del_ne h2, upd_ne h1, upd_ne h2, upd_ne h1, upd_ne h2]
    rw [e]
    exact q d _ p (sm.trans (same_new hd')) upd_same (hp.same (same_new hd'))
/-! ## is_place -/
def spPlace (K : PySem.W.Frag) : Sp := fun vs H Q _ => ∃ (p v : V) (a b c d : PyData) (code : List PyData), vs = [p, v] ∧ Dt K H p (.tuple [a, b, c, .tuple code]) ∧ Dt K H v d ∧ Q (.bl (inD 0 code.length d)) H
theorem sc_is_place : FnScope ["proc", "value"] ["proc", "value"] (defScope s_is_place) := ⟨rfl, rfl, rfl, by decide +kernel, rfl, by decide +kernel, by decide +kernel⟩
theorem inD_int (lo hi n : Int) : inD lo hi (.int n) = (decide (lo ≤ n) && decide (n < hi)) := rfl
theorem inD_no {lo hi : Int} {d : PyData} (h : wholeD d = false) : inD lo hi d = false := by cases d <;> first | rfl | cases h
theorem whole_int {d : PyData} (h : wholeD d = true) : ∃ n, d = .int n := by
  cases d <;> first | exact ⟨_, rfl⟩ | cases h
theorem ok_is_place (T : Txt K mg ad) (U : Funs K ad) : Fc P w K mg base CX0 2 ad.is_place ["proc", "value"] (spPlace K) := by
  have G_is_whole := ok_is_whole (P := P) (w := w) (base := base) T U
  refine Fc.ok U.F_is_place sc_is_place (fun vs H Q E h => ?_) (fun cdv A outer s f H vs Q E hr h => ?_)
  · obtain ⟨_, _, _, _, _, _, _, rfl, _⟩ := h
    rfl
  · obtain ⟨p, v, a, b, c, d, code, rfl, hp, hv, k⟩ := h
    refine ⟨_, (pss_one (ps_ret (pe_and (pe_callF G_is_whole (hr.mono (by decide)) rfl T.g_is_whole T.k_is_whole pass0 (pa_cons (pv 1) pa_nil)) (pe_one (pe_chain op_le op_lt pe_int (pv 1) (pe_callB call_len_seq (by rfl) T.b_len (by decide +kernel) (pa_cons (pe_ix ix_tup (pv 0) pe_int (fun _ _ => rfl)) pa_nil))))))), ?_⟩
    obtain ⟨pa, xs, rfl, hs, hds⟩ := hp.tupV
    obtain ⟨x3, e3, h3⟩ := hds.get (i := 3) rfl
    obtain ⟨ca, ys, rfl, hc, hcs⟩ := h3.tupV
    refine ⟨_, rfl, v, d, rfl, hv, _, rfl, itb (fun c1 => ?_) (fun c1 => ?_)⟩
    · obtain ⟨n, rfl⟩ := whole_int c1
      cases hv
      rw [inD_int] at k
      refine ⟨_, rfl, _, _, rfl, rfl, _, rfl, itd (fun c2 => ?_) (fun c2 => ?_)⟩
      · rw [decide_eq_true c2] at k
        refine ⟨_, rfl, pa, xs, 3, _, rfl, rfl, hs, at_of (j := 3) rfl e3, ca, ys, rfl, .inr hc, _, _, rfl, rfl, ?_⟩
        rw [hcs.length]
        exact k
      · rw [decide_eq_false c2] at k
        exact k
    · rw [inD_no c1] at k
      exact k
/-! ## look_at_proc -/
def none2 : PyData := .tuple [.none, .none]
/-- what is wrong with a proc, the names ahead of it told -/
def lookT (n : Str) (p m c : PyData) : Option (PyData × Str) :=
  match p with
      | .int i => if decide (0 ≤ i) && decide (i ≤ 4) then (match m with
          | .int j => if decide (0 ≤ j) && decide (j ≤ 8 - i) then (match c with
              | .tuple code => if decide (0 < code.length) && decide (code.length ≤ 80) then none else some (.tuple [.str n, .none], "code")
              | _ => some (.tuple [.str n, .none], "code")) else some (.tuple [.str n, .none], "locals")
          | _ => some (.tuple [.str n, .none], "locals")) else some (.tuple [.str n, .none], "params")
      | _ => some (.tuple [.str n, .none], "params")
def lookN (names : List Str) (n p m c : PyData) : Option (PyData × Str) :=
  match n with
  | .str q => if nameS q = false then some (none2, "proc") else if q ∈ names then some (.tuple [.str q, .none], "twice") else lookT q p m c
  | _ => some (none2, "proc")
def look4 (names : List Str) (ds : List PyData) : Option (PyData × Str) :=
  match ds with
  | [n, p, m, c] => lookN names n p m c
  | _ => some (none2, "proc")
def lookD (names : List Str) (d : PyData) : Option (PyData × Str) :=
  match d with
  | .tuple ds => look4 names ds
  | _ => some (none2, "proc")
/-- the program's object: the fields that the looks ask -/
structure PrAt (K : PySem.W.Frag) (H : Hp) (C a b : Addr) (cells : List PyData) (locks : PyData) (names : List (Str × V)) : Prop where
  ob : ∃ (dx : Addr) (fs : List (Str × V)) (vc vl : V), H a = some (.ins C dx fs) ∧ fs.lookup ("by" : Str) = some (.ref b) ∧ fs.lookup ("cells" : Str) = some vc ∧ fs.lookup ("locks" : Str) = some vl ∧ Dt K H vc (.tuple cells) ∧ Dt K H vl locks ∧ fs.length ≤ 5
  by_ : H b = some (.dK (names.map fun x => (Sum.inr x.1, x.2)))
theorem PrAt.same {K : PySem.W.Frag} {H H' : Hp} {C a b : Addr} {cells : List PyData} {locks : PyData} {names : List (Str × V)} (s : Same H H') (h : PrAt K H C a b cells locks names) : PrAt K H' C a b cells locks names := by
  obtain ⟨⟨dx, fs, vc, vl, h1, h2, h3, h4, h5, h6, h7⟩, h8⟩ := h
  exact ⟨⟨dx, fs, vc, vl, s _ _ h1, h2, h3, h4, h5.same s, h6.same s, h7⟩, s _ _ h8⟩
theorem valV_names {names : List (Str × V)} {n : Str} : (valV (names.map fun x => ((Sum.inr x.1 : Key), x.2)) (Sum.inr n)).isSome = decide (n ∈ names.map (·.1)) := by
  induction names with
  | nil => rfl
  | cons p r ih =>
    obtain ⟨x, v⟩ := p
    by_cases h : x = n
    · subst h
      have e : valV (((x, v) :: r).map fun x => ((Sum.inr x.1 : Key), x.2)) (Sum.inr x) = some v := by simp [valV]
      rw [e, decide_eq_true (by simp)]; rfl
    · have e : valV (((x, v) :: r).map fun x => ((Sum.inr x.1 : Key), x.2)) (Sum.inr n) = valV (r.map fun x => ((Sum.inr x.1 : Key), x.2)) (Sum.inr n) := by
        unfold valV
        rw [List.map_cons, List.find?_cons_of_neg (by simpa using h)]
      rw [e, ih]
      have : (n ∈ ((x, v) :: r).map (·.1)) ↔ (n ∈ r.map (·.1)) := by
        rw [List.map_cons, List.mem_cons]
        exact ⟨fun z => z.resolve_left fun q => h q.symm, .inr⟩
      simp only [this]
def shortD : PyData → Prop
  | .str s => s.length ≤ 100000 | _ => True
def spLook (K : PySem.W.Frag) (ad : Ad) : Sp := fun vs H Q E => ∃ (a b : Addr) (v : V) (d : PyData) (cells : List PyData) (locks : PyData) (names : List (Str × V)), vs = [.ref a, v] ∧ PrAt K H ad.C_Program a b cells locks names ∧ Dt K H v d ∧
  (∀ x r, d = .tuple (x :: r) → shortD x) ∧ (lookD (names.map (·.1)) d = none → ∀ H', Same H H' → Q .non H') ∧
  (∀ pl wd, lookD (names.map (·.1)) d = some (pl, wd) → Bad K ad.C_BadProgram H E pl wd)
theorem sc_look_at_proc : FnScope ["program", "one", "name", "params", "more", "code"] ["program", "one"] (defScope s_look_at_proc) := ⟨rfl, rfl, rfl, by decide +kernel, rfl, by decide +kernel, by decide +kernel⟩
theorem lookD_len {names : List Str} {ds : List PyData} (h : ds.length ≠ 4) : lookD names (.tuple ds) = some (none2, ("proc" : Str)) := by
  match ds, h with
  | [], _ => rfl
  | [_], _ => rfl
  | [_, _], _ => rfl
  | [_, _, _], _ => rfl
  | [_, _, _, _], h => exact absurd rfl h
  | _ :: _ :: _ :: _ :: _ :: _, _ => rfl
theorem four {ds : List PyData} (h : ds.length = 4) : ∃ a b c d, ds = [a, b, c, d] := by
  match ds, h with
  | [a, b, c, d], _ => exact ⟨a, b, c, d, rfl⟩
theorem bnot {b : Bool} (h : (!b) = true) : b = false := by cases b <;> first | rfl | cases h
theorem bnotF {b : Bool} (h : (!b) = false) : b = true := by cases b <;> first | rfl | cases h
theorem isT_ex {d : PyData} (h : isT d = true) : ∃ ds, d = .tuple ds := by
  cases d <;> first | exact ⟨_, rfl⟩ | cases h
theorem isS_ex {d : PyData} (h : isS d = true) : ∃ s, d = .str s := by
  cases d <;> first | exact ⟨_, rfl⟩ | cases h
theorem Dt.pair {H : Hp} {l : Addr} {v w : V} {d e : PyData} (h : H l = some (.tup [v, w])) (a : Dt K H v d) (b : Dt K H w e) : Dt K H (.ref l) (.tuple [d, e]) := .tup h (fun z => z) (.two a b)
theorem _root_.L2.Same.seqT {H H' : Hp} {a : Addr} {xs : List V} (e : Same H H') (h : SqT K H a xs) : SqT K H' a xs := by
  rcases h with (h | ⟨o, h⟩) | h
  · exact .inl (.inl (e _ _ h))
  · exact .inl (.inr ⟨o, e _ _ h⟩)
  · exact .inr h
theorem lookT_p {n : Str} {p m c : PyData} (h : wholeD p = false) : lookT n p m c = some (.tuple [.str n, .none], ("params" : Str)) := by cases p <;> first | rfl | cases h
theorem and2 {A B : Prop} [Decidable A] [Decidable B] : (decide A && decide B) = true ↔ A ∧ B := by rw [Bool.and_eq_true, decide_eq_true_iff, decide_eq_true_iff]
theorem lookT_p2 {n : Str} {i : Int} {m c : PyData} (h : ¬ (0 ≤ i ∧ i ≤ 4)) : lookT n (.int i) m c = some (.tuple [.str n, .none], ("params" : Str)) := by
  show (if (decide (0 ≤ i) && decide (i ≤ 4)) = true then _ else _) = _
  rw [if_neg (by rw [and2]; exact h)]
theorem lookT_m {n : Str} {i : Int} {m c : PyData} (h : 0 ≤ i ∧ i ≤ 4) (hm : wholeD m = false) : lookT n (.int i) m c = some (.tuple [.str n, .none], ("locals" : Str)) := by
  show (if (decide (0 ≤ i) && decide (i ≤ 4)) = true then _ else _) = _
  rw [if_pos (by rw [and2]; exact h)]
  cases m <;> first | rfl | cases hm
theorem lookT_m2 {n : Str} {i j : Int} {c : PyData} (h : 0 ≤ i ∧ i ≤ 4) (hm : ¬ (0 ≤ j ∧ j ≤ 8 - i)) : lookT n (.int i) (.int j) c = some (.tuple [.str n, .none], ("locals" : Str)) := by
  show (if (decide (0 ≤ i) && decide (i ≤ 4)) = true then _ else _) = _
  rw [if_pos (by rw [and2]; exact h)]
  show (if (decide (0 ≤ j) && decide (j ≤ 8 - i)) = true then _ else _) = _
  rw [if_neg (by rw [and2]; exact hm)]
theorem lookT_c {n : Str} {i j : Int} {c : PyData} (h : 0 ≤ i ∧ i ≤ 4) (hm : 0 ≤ j ∧ j ≤ 8 - i) : lookT n (.int i) (.int j) c = match c with
    | .tuple code => if decide (0 < code.length) && decide (code.length ≤ 80) then none else some (.tuple [.str n, .none], "code")
    | _ => some (.tuple [.str n, .none], "code") := by
  show (if (decide (0 ≤ i) && decide (i ≤ 4)) = true then _ else _) = _
  rw [if_pos (by rw [and2]; exact h)]
  show (if (decide (0 ≤ j) && decide (j ≤ 8 - i)) = true then _ else _) = _
  rw [if_pos (by rw [and2]; exact hm)]
theorem ok_look_at_proc (T : Txt K mg ad) (U : Funs K ad) : Fc P w K mg base (L2.CX P w) 5 ad.look_at_proc ["program", "one"] (spLook K ad) := by
  have G_is_whole := ok_is_whole (P := P) (w := w) (base := base) T U
  have G_is_name := ok_is_name (P := P) (w := w) (base := base) T U
  have G_BadProgram_init := ok_BadProgram_init (P := P) (w := w) (base := base) T U
  refine Fc.okX U.F_look_at_proc sc_look_at_proc (fun vs H Q E h => ?_) (fun cdv A outer s f H vs Q E hr h => ?_)
  · obtain ⟨_, _, _, _, _, _, _, rfl, _⟩ := h
    rfl
  · obtain ⟨a, b, v, d, cells, locks, names, rfl, hP, hv, hsh, kn, ke⟩ := h
    refine ⟨_, (pss_cons (ps_if (PW.pt (pw_or (pt_not (pt_val (pe_callB call_isi (by rfl) T.b_isinstance (by decide +kernel) (pa_cons (pv 1) (pa_cons (pe_bltn (v := .ty "tuple") (by rfl) T.b_tuple (by decide +kernel) rfl) pa_nil))))) (pw_or (pt_cmpR op_ne (pe_callB call_len_seq (by rfl) T.b_len (by decide +kernel) (pa_cons (pv 1) pa_nil)) pe_int (nomark _)) (pw_or1 (pt_not (pt_val (pe_callF G_is_name (hr.mono (by decide)) rfl T.g_is_name T.k_is_name pass0 (pa_cons (pe_ix ix_tup (pv 1) pe_int (fun _ _ => rfl)) pa_nil)))))))) (pss_one (ps_raise rfl (takes_of rfl rfl rfl rfl) (pmk_oexF T.oc_BadProgram T.m_BadProgram_init T.mt_BadProgram_init G_BadProgram_init (hr.mono (by decide)) pass0 rfl T.g_BadProgram (pa_cons (pe_tup (pa_cons pe_non (pa_cons pe_non pa_nil))) (pa_cons pe_str pa_nil))))) pss_nil)
      (pss_cons (ps_asg (pv 1) (pg_tup rfl (pgs_cons (pg_name (i := 2) sc_look_at_proc.nd rfl (Or.inl rfl)) (pgs_cons (pg_name (i := 3) sc_look_at_proc.nd rfl (Or.inl rfl)) (pgs_cons (pg_name (i := 4) sc_look_at_proc.nd rfl (Or.inl rfl)) (pgs_cons (pg_name (i := 5) sc_look_at_proc.nd rfl (Or.inl rfl)) pgs_nil))))))
      (pss_cons (ps_if (pt_cmp (pc_din (hu_of hr) (pv 2) (pe_fld (pv 0) rfl))) (pss_one (ps_raise rfl (takes_of rfl rfl rfl rfl) (pmk_oexF T.oc_BadProgram T.m_BadProgram_init T.mt_BadProgram_init G_BadProgram_init (hr.mono (by decide)) pass0 rfl T.g_BadProgram (pa_cons (pe_tup (pa_cons (pv 2) (pa_cons pe_non pa_nil))) (pa_cons pe_str pa_nil))))) pss_nil)
      (pss_cons (ps_if (PW.pt (pw_or (pt_not (pt_val (pe_callF G_is_whole (hr.mono (by decide)) rfl T.g_is_whole T.k_is_whole pass0 (pa_cons (pv 3) pa_nil)))) (pw_or1 (pt_not (pt_chain op_le op_le pe_int (pv 3) (pe_globE rfl T.g_MOST_PARAMS)))))) (pss_one (ps_raise rfl (takes_of rfl rfl rfl rfl) (pmk_oexF T.oc_BadProgram T.m_BadProgram_init T.mt_BadProgram_init G_BadProgram_init (hr.mono (by decide)) pass0 rfl T.g_BadProgram (pa_cons (pe_tup (pa_cons (pv 2) (pa_cons pe_non pa_nil))) (pa_cons pe_str pa_nil))))) pss_nil)
      (pss_cons (ps_if (PW.pt (pw_or (pt_not (pt_val (pe_callF G_is_whole (hr.mono (by decide)) rfl T.g_is_whole T.k_is_whole pass0 (pa_cons (pv 4) pa_nil)))) (pw_or1 (pt_not (pt_chain op_le op_le pe_int (pv 4) (pe_op op_sub (pe_globE rfl T.g_MOST_LOCALS) (pv 3))))))) (pss_one (ps_raise rfl (takes_of rfl rfl rfl rfl) (pmk_oexF T.oc_BadProgram T.m_BadProgram_init T.mt_BadProgram_init G_BadProgram_init (hr.mono (by decide)) pass0 rfl T.g_BadProgram (pa_cons (pe_tup (pa_cons (pv 2) (pa_cons pe_non pa_nil))) (pa_cons pe_str pa_nil))))) pss_nil)
      (pss_one (ps_if (PW.pt (pw_or (pt_not (pt_val (pe_callB call_isi (by rfl) T.b_isinstance (by decide +kernel) (pa_cons (pv 5) (pa_cons (pe_bltn (v := .ty "tuple") (by rfl) T.b_tuple (by decide +kernel) rfl) pa_nil))))) (pw_or1 (pt_not (pt_chain op_lt op_le pe_int (pe_callB call_len_seq (by rfl) T.b_len (by decide +kernel) (pa_cons (pv 5) pa_nil)) (pe_globE rfl T.g_MOST_CODE)))))) (pss_one (ps_raise rfl (takes_of rfl rfl rfl rfl) (pmk_oexF T.oc_BadProgram T.m_BadProgram_init T.mt_BadProgram_init G_BadProgram_init (hr.mono (by decide)) pass0 rfl T.g_BadProgram (pa_cons (pe_tup (pa_cons (pv 2) (pa_cons pe_non pa_nil))) (pa_cons pe_str pa_nil))))) pss_nil))))))), ?_⟩
    refine ⟨_, rfl, v, _, _, _, _, rfl, .ty _, hv.ty, k_tup d, _, rfl, itb (fun c => ?_) (fun c => ?_)⟩
    · have hT := bnot c
      have e : lookD (names.map (·.1)) d = some (none2, ("proc" : Str)) := by cases d <;> first | rfl | cases hT
      refine iteT ⟨by show 2 ≤ sizeLine; decide, fun l hl => ?_⟩
      exact raise_bp (ke _ _ e) (same_new hl) (Dt.pair upd_same .non .non)
    obtain ⟨ds, rfl⟩ := isT_ex (bnotF c)
    clear c
    obtain ⟨va, xs, rfl, hs, hds⟩ := hv.tupV
    refine ⟨_, rfl, va, xs, rfl, .inr hs, rfl, _, rfl, ?_⟩
    by_cases h4 : ds.length = 4
    case neg =>
      rw [decide_eq_false (by intro z; exact h4 (by rw [← hds.length]; exact Int.ofNat.inj (V.int.inj z)))]
      refine iteT (iteT ⟨by show 2 ≤ sizeLine; decide, fun l hl => ?_⟩)
      exact raise_bp (ke _ _ (lookD_len h4)) (same_new hl) (Dt.pair upd_same .non .non)
    rw [decide_eq_true (by rw [hds.length, h4]; rfl)]
    refine iteF ?_
    obtain ⟨n, p, m, c, rfl⟩ := four h4
    clear h4
    obtain ⟨x0, e0, h0⟩ := hds.get (i := 0) rfl
    obtain ⟨x1, e1, h1⟩ := hds.get (i := 1) rfl
    obtain ⟨x2, e2, h2⟩ := hds.get (i := 2) rfl
    obtain ⟨x3, e3, h3⟩ := hds.get (i := 3) rfl
    have ex : xs = [x0, x1, x2, x3] := by
      have hl := hds.length
      match xs, hl with
      | [y0, y1, y2, y3], _ => cases e0; cases e1; cases e2; cases e3; rfl
    refine ⟨_, rfl, va, xs, 0, _, rfl, rfl, hs, at_of (j := 0) rfl e0, x0, n, rfl, h0, ?_, fun H1 sm1 => ⟨_, rfl, itb (fun c1 => ?_) (fun c1 => ?_)⟩⟩
    · intro q hq
      have := hsh n _ rfl
      rw [hq] at this
      exact this
    · have hn := bnot c1
      have e : lookD (names.map (·.1)) (.tuple [n, p, m, c]) = some (none2, ("proc" : Str)) := by
        cases n with
        | str q =>
          have : nameS q = false := hn
          show (if nameS q = false then _ else _) = _
          rw [if_pos this]
        | _ => rfl
      refine ⟨by show 2 ≤ sizeLine; decide, fun l hl => ?_⟩
      exact raise_bp (ke _ _ e) (sm1.trans (same_new hl)) (Dt.pair upd_same .non .non)
    have hn := bnotF c1
    clear c1
    cases n with
    | str q =>
      cases h0
      have hq : ¬ nameS q = false := by
        have : nameS q = true := hn
        rw [this]; exact Bool.noConfusion
      subst ex
      obtain ⟨⟨dx, fs, vc, vl, o1, o2, o3, o4, o5, o6, o7⟩, o8⟩ := hP
      refine ⟨_, rfl, va, [_, _, _, _], rfl, sm1.seqT hs, rfl, _, _, rfl, _, _, rfl, _, _, rfl, _, _, rfl, rfl, ?_⟩
      refine ⟨_, rfl, _, rfl, a, ad.C_Program, dx, fs, _, rfl, sm1 _ _ o1, T.cl_Program, T.no_Program_by, o2, b, _, rfl, DGet.k (k := Sum.inr q) (sm1 _ _ o8), _, rfl, ?_⟩
      rw [valV_names]
      have L0 : lookD (names.map (·.1)) (.tuple [.str q, p, m, c]) = if q ∈ names.map (·.1) then some (.tuple [.str q, .none], ("twice" : Str)) else lookT q p m c := by
        show (if nameS q = false then _ else _) = _
        rw [if_neg hq]
      have nq : ∀ {l : Addr} {H2 : Hp}, H2 l = some (.tup [.str q, .non]) → Dt K H2 (.ref l) (.tuple [.str q, .none]) := fun h => Dt.pair h (.str q) .non
      refine itd (fun c2 => ?_) (fun c2 => ?_)
      · refine ⟨_, rfl, by show 2 ≤ sizeLine; decide, fun l hl => ?_⟩
        exact raise_bp (ke _ _ (by rw [L0, if_pos c2])) (sm1.trans (same_new hl)) (nq upd_same)
      rw [L0, if_neg c2] at ke kn
      have h1 := h1.same sm1
      have h2 := h2.same sm1
      have h3 := h3.same sm1
      -- params
      refine ⟨_, rfl, x1, p, rfl, h1, _, rfl, itb (fun c3 => ?_) (fun c3 => ?_)⟩
      · refine iteT ⟨_, rfl, by show 2 ≤ sizeLine; decide, fun l hl => ?_⟩
        exact raise_bp (ke _ _ (lookT_p (bnot c3))) (sm1.trans (same_new hl)) (nq upd_same)
      obtain ⟨i, rfl⟩ := whole_int (bnotF c3)
      cases h1
      clear c3
      refine ⟨_, rfl, _, _, rfl, rfl, _, rfl, itd (fun c3 => ⟨_, _, rfl, rfl, _, rfl, itb (fun c4 => ?_) (fun c4 => ?_)⟩) (fun c3 => ?_)⟩
      · have z : ¬ (0 ≤ i ∧ i ≤ 4) := fun y => by rw [decide_eq_true y.2] at c4; cases c4
        refine ⟨_, rfl, by show 2 ≤ sizeLine; decide, fun l hl => ?_⟩
        exact raise_bp (ke _ _ (lookT_p2 z)) (sm1.trans (same_new hl)) (nq upd_same)
      · have pi : 0 ≤ i ∧ i ≤ 4 := ⟨c3, of_decide_eq_true (bnotF c4)⟩
        clear c3 c4
        refine ⟨_, rfl, x2, m, rfl, h2, _, rfl, itb (fun c3 => ?_) (fun c3 => ?_)⟩
        · refine iteT ⟨_, rfl, by show 2 ≤ sizeLine; decide, fun l hl => ?_⟩
          exact raise_bp (ke _ _ (lookT_m pi (bnot c3))) (sm1.trans (same_new hl)) (nq upd_same)
        obtain ⟨j, rfl⟩ := whole_int (bnotF c3)
        cases h2
        clear c3
        refine ⟨_, rfl, _, _, rfl, rfl, _, rfl, itd (fun c3 => ⟨_, rfl, _, _, rfl, rfl, _, _, rfl, rfl, _, rfl, itb (fun c4 => ?_) (fun c4 => ?_)⟩) (fun c3 => ?_)⟩
        · have z : ¬ (0 ≤ j ∧ j ≤ 8 - i) := fun y => by rw [decide_eq_true y.2] at c4; cases c4
          refine ⟨_, rfl, by show 2 ≤ sizeLine; decide, fun l hl => ?_⟩
          exact raise_bp (ke _ _ (lookT_m2 pi z)) (sm1.trans (same_new hl)) (nq upd_same)
        · have pj : 0 ≤ j ∧ j ≤ 8 - i := ⟨c3, of_decide_eq_true (bnotF c4)⟩
          clear c3 c4
          rw [lookT_c pi pj] at ke kn
          refine ⟨_, rfl, x3, _, _, _, _, rfl, .ty _, h3.ty, k_tup c, _, rfl, itb (fun c3 => ?_) (fun c3 => ?_)⟩
          · have hT := bnot c3
            refine iteT ⟨_, rfl, by show 2 ≤ sizeLine; decide, fun l hl => ?_⟩
            refine raise_bp (ke (.tuple [.str q, .none]) "code" ?_) (sm1.trans (same_new hl)) (nq upd_same)
            cases c <;> first | rfl | cases hT
          obtain ⟨cs, rfl⟩ := isT_ex (bnotF c3)
          obtain ⟨ca, ys, rfl, hc, hcs⟩ := h3.tupV
          have el : (ys.length : Int) = (cs.length : Int) := by rw [hcs.length]
          refine ⟨_, rfl, ca, ys, rfl, .inr hc, _, _, rfl, rfl, _, rfl, itd (fun c4 => ⟨_, _, rfl, rfl, _, rfl, itb (fun c5 => ?_) (fun c5 => ?_)⟩) (fun c4 => ?_)⟩
          · have z : ¬ (0 < cs.length ∧ cs.length ≤ 80) := fun y => by rw [decide_eq_true (by omega)] at c5; cases c5
            refine ⟨_, rfl, by show 2 ≤ sizeLine; decide, fun l hl => ?_⟩
            refine raise_bp (ke (.tuple [.str q, .none]) "code" ?_) (sm1.trans (same_new hl)) (nq upd_same)
            show (if (decide (0 < cs.length) && decide (cs.length ≤ 80)) = true then _ else _) = _
            rw [if_neg (by rw [and2]; exact z)]
          · have c5' := of_decide_eq_true (bnotF c5)
            refine kn ?_ H1 sm1
            show (if (decide (0 < cs.length) && decide (cs.length ≤ 80)) = true then _ else _) = _
            rw [if_pos (by rw [and2]; omega)]
          · refine ⟨_, rfl, iteT ⟨_, rfl, by show 2 ≤ sizeLine; decide, fun l hl => ?_⟩⟩
            refine raise_bp (ke (.tuple [.str q, .none]) "code" ?_) (sm1.trans (same_new hl)) (nq upd_same)
            show (if (decide (0 < cs.length) && decide (cs.length ≤ 80)) = true then _ else _) = _
            rw [if_neg (by rw [and2]; omega)]
        · refine ⟨_, rfl, iteT ⟨_, rfl, by show 2 ≤ sizeLine; decide, fun l hl => ?_⟩⟩
          exact raise_bp (ke _ _ (lookT_m2 pi (fun y => c3 y.1))) (sm1.trans (same_new hl)) (nq upd_same)
      · refine ⟨_, rfl, iteT ⟨_, rfl, by show 2 ≤ sizeLine; decide, fun l hl => ?_⟩⟩
        exact raise_bp (ke _ _ (lookT_p2 (fun y => c3 y.1))) (sm1.trans (same_new hl)) (nq upd_same)
    | _ => exact absurd hn (by intro z; cases z)
end
end My

set_option Elab.async false
set_option linter.all false
set_option maxRecDepth 100000
set_option maxHeartbeats 4000000
namespace My
open PySem L2
/-! ## is_instruction -/
def worksV : List V := [.str "add", .str "sub", .str "mul", .str "div", .str "rem", .str "and", .str "or", .str "xor"]
def condsV : List V := [.str "lt", .str "le", .str "eq", .str "ne", .str "gt", .str "ge"]
def aloneV : List V := [.str "add", .str "sub", .str "mul", .str "div", .str "rem", .str "and", .str "or", .str "xor", .str "dup", .str "drop", .str "neg", .str "give", .str "fetch", .str "set", .str "ask", .str "tell", .str "join"]
def memD (names : List Str) (x : PyData) : Bool :=
  match x with
  | .str s => decide (s ∈ names) | _ => false
/-- what the looks lean on: cells, locks, the proc's own names and its length, the procs' names -/
structure Bnd where
  (cells : Nat) (locks own : Int) (code : Nat) (names : List Str)
def argD (B : Bnd) (w : Str) (x : PyData) : Bool :=
  if w = "int" then wordD x
  else if inV (.str w) [.str "load", .str "store"] = true then inD 0 B.own x
  else if w = "goto" then inD 0 B.code x
  else if inV (.str w) [.str "get", .str "put", .str "trade"] = true then inD 0 B.cells x
  else if inV (.str w) [.str "lock", .str "free"] = true then inD 0 B.locks x
  else inV (.str w) [.str "call", .str "spawn"] && (nameD x && memD B.names x)
def inVD (d : PyData) (vs : List V) : Bool :=
  match d with
  | .str s => inV (.str s) vs | _ => false
def restD (B : Bnd) (w : Str) (rest : List PyData) : Bool :=
  match rest with
  | [x] => argD B w x | _ => false
def ifD (B : Bnd) (rest : List PyData) : Bool :=
  match rest with
  | [c, p] => isS c && (inVD c condsV && inD 0 B.code p) | _ => false
def opD (B : Bnd) (w : Str) (rest : List PyData) : Bool :=
  if inV (.str w) aloneV = true then decide (rest.length = 0)
  else if w = "if" then ifD B rest else restD B w rest
def headD (B : Bnd) (x : PyData) (rest : List PyData) : Bool :=
  match x with
  | .str w => opD B w rest | _ => false
def tupD (B : Bnd) (ds : List PyData) : Bool :=
  match ds with
  | x :: rest => headD B x rest | [] => false
def instrD (B : Bnd) (d : PyData) : Bool :=
  match d with
  | .tuple ds => tupD B ds | _ => false
def spInstr (K : PySem.W.Frag) (ad : Ad) : Sp := fun vs H Q _ => ∃ (a b : Addr) (p v : V) (nm : Str) (i j L : Int) (d : PyData) (cells code : List PyData) (names : List (Str × V)), vs = [.ref a, p, v] ∧ PrAt K H ad.C_Program a b cells (.int L) names ∧
  Dt K H p (.tuple [.str nm, .int i, .int j, .tuple code]) ∧ Dt K H v d ∧ (∀ x y r, d = .tuple (x :: y :: r) → shortD y) ∧
  ∀ H', Same H H' → Q (.bl (instrD ⟨cells.length, L, i + j, code.length, names.map (·.1)⟩ d)) H'
theorem cut1 {x : V} {xs : List V} : ¬ (HT.sIx (x :: xs).length 0 (some 1) = 0 ∧ HT.sIx (x :: xs).length (x :: xs).length none = (x :: xs).length) ∧ cutV (x :: xs) (some 1) none = xs := by
  have e : HT.sIx (x :: xs).length 0 (some 1) = 1 := by
    rw [show (1 : Int) = ((1 : Nat) : Int) from rfl, HT.sIx_nat, List.length_cons]; omega
  refine ⟨fun z => ?_, ?_⟩
  · rw [e] at z; exact absurd z.1 (by decide)
  · unfold cutV
    rw [e, HT.sIx_none, List.length_cons, List.drop_one, List.tail_cons]
    exact List.take_of_length_le (by omega)
theorem flat_strs : ∀ ss : List Str, (ss.map V.str).all flatV = true
  | [] => rfl
  | _ :: r => by rw [List.map_cons, List.all_cons, flat_strs r]; rfl
section
variable {P : Program} {w : World} {K : PySem.W.Frag} {mg : Str → Option Value} {base : Heap} {ad : Ad}
theorem sc_is_instruction : FnScope ["program", "proc", "value", "word", "rest"] ["program", "proc", "value"] (defScope s_is_instruction) := ⟨rfl, rfl, rfl, by decide +kernel, rfl, by decide +kernel, by decide +kernel⟩
theorem ok_is_instruction (T : Txt K mg ad) (U : Funs K ad) : Fc P w K mg base CX0 3 ad.is_instruction ["program", "proc", "value"] (spInstr K ad) := by
  have G_is_whole := ok_is_whole (P := P) (w := w) (base := base) T U
  have G_is_name := ok_is_name (P := P) (w := w) (base := base) T U
  have G_is_word := ok_is_word (P := P) (w := w) (base := base) T U
  have G_is_place := ok_is_place (P := P) (w := w) (base := base) T U
  refine Fc.ok U.F_is_instruction sc_is_instruction (fun vs H Q E h => ?_) (fun cdv A outer s f H vs Q E hr h => ?_)
  · obtain ⟨_, _, _, _, _, _, _, _, _, _, _, _, rfl, _⟩ := h
    rfl
  · obtain ⟨a, b, pr, v, nm, pi, pj, L, d, cells, code, names, rfl, hP, hp, hv, hsh, k⟩ := h
    refine ⟨_, (pss_cons (ps_if (PW.pt (pw_or (pt_not (pt_val (pe_callB call_isi (by rfl) T.b_isinstance (by decide +kernel) (pa_cons (pv 2) (pa_cons (pe_bltn (v := .ty "tuple") (by rfl) T.b_tuple (by decide +kernel) rfl) pa_nil))))) (pw_or (pt_cmpR op_eq (pe_callB call_len_seq (by rfl) T.b_len (by decide +kernel) (pa_cons (pv 2) pa_nil)) pe_int (nomark _)) (pw_or1 (pt_not (pt_val (pe_callB call_isi (by rfl) T.b_isinstance (by decide +kernel) (pa_cons (pe_ix ix_tup (pv 2) pe_int (fun _ _ => rfl)) (pa_cons (pe_bltn (v := .ty "str") (by rfl) T.b_str (by decide +kernel) rfl) pa_nil))))))))) (pss_one (ps_ret pe_bl)) pss_nil)
      (pss_cons (ps_par (i := 3) (j := 4) (by rfl) sc_is_instruction.nd rfl rfl (by decide) rfl rfl (pa_cons (pe_ix ix_tup (pv 2) pe_int (fun _ _ => rfl)) (pa_cons (pe_slice sl_tupA (pv 2) (po_some pe_int) po_none) pa_nil)) (by rfl))
      (pss_cons (ps_if (pt_cmpR op_in_seq (pv 3) (pe_globE rfl T.g_ALONE) (by rfl)) (pss_one (ps_ret (pe_cmpR op_eq (pe_callB call_len_seq (by rfl) T.b_len (by decide +kernel) (pa_cons (pv 4) pa_nil)) pe_int (nomark _)))) pss_nil)
      (pss_cons (ps_if (pt_cmpR op_eq (pv 3) pe_str (nomark _)) (pss_one (ps_ret (pe_and (pe_cmpR op_eq (pe_callB call_len_seq (by rfl) T.b_len (by decide +kernel) (pa_cons (pv 4) pa_nil)) pe_int (nomark _)) (pe_and (pe_callB call_isi (by rfl) T.b_isinstance (by decide +kernel) (pa_cons (pe_ix ix_tup (pv 4) pe_int (fun _ _ => rfl)) (pa_cons (pe_bltn (v := .ty "str") (by rfl) T.b_str (by decide +kernel) rfl) pa_nil))) (pe_and (pe_cmpR op_in_seq (pe_ix ix_tup (pv 4) pe_int (fun _ _ => rfl)) (pe_globE rfl T.g_CONDITIONS) (by rfl)) (pe_one (pe_callF G_is_place (hr.mono (by decide)) rfl T.g_is_place T.k_is_place pass0 (pa_cons (pv 1) (pa_cons (pe_ix ix_tup (pv 4) pe_int (fun _ _ => rfl)) pa_nil))))))))) pss_nil)
      (pss_cons (ps_if (pt_cmpR op_ne (pe_callB call_len_seq (by rfl) T.b_len (by decide +kernel) (pa_cons (pv 4) pa_nil)) pe_int (nomark _)) (pss_one (ps_ret pe_bl)) pss_nil)
      (pss_cons (ps_if (pt_cmpR op_eq (pv 3) pe_str (nomark _)) (pss_one (ps_ret (pe_callF G_is_word (hr.mono (by decide)) rfl T.g_is_word T.k_is_word pass0 (pa_cons (pe_ix ix_tup (pv 4) pe_int (fun _ _ => rfl)) pa_nil)))) pss_nil)
      (pss_cons (ps_if (pt_cmpR op_in_seq (pv 3) (pe_tup (pa_cons pe_str (pa_cons pe_str pa_nil))) (by rfl)) (pss_one (ps_ret (pe_and (pe_callF G_is_whole (hr.mono (by decide)) rfl T.g_is_whole T.k_is_whole pass0 (pa_cons (pe_ix ix_tup (pv 4) pe_int (fun _ _ => rfl)) pa_nil)) (pe_one (pe_chain op_le op_lt pe_int (pe_ix ix_tup (pv 4) pe_int (fun _ _ => rfl)) (pe_op op_add (pe_ix ix_tup (pv 1) pe_int (fun _ _ => rfl)) (pe_ix ix_tup (pv 1) pe_int (fun _ _ => rfl)))))))) pss_nil)
      (pss_cons (ps_if (pt_cmpR op_eq (pv 3) pe_str (nomark _)) (pss_one (ps_ret (pe_callF G_is_place (hr.mono (by decide)) rfl T.g_is_place T.k_is_place pass0 (pa_cons (pv 1) (pa_cons (pe_ix ix_tup (pv 4) pe_int (fun _ _ => rfl)) pa_nil))))) pss_nil)
      (pss_cons (ps_if (pt_cmpR op_in_seq (pv 3) (pe_tup (pa_cons pe_str (pa_cons pe_str (pa_cons pe_str pa_nil)))) (by rfl)) (pss_one (ps_ret (pe_and (pe_callF G_is_whole (hr.mono (by decide)) rfl T.g_is_whole T.k_is_whole pass0 (pa_cons (pe_ix ix_tup (pv 4) pe_int (fun _ _ => rfl)) pa_nil)) (pe_one (pe_chain op_le op_lt pe_int (pe_ix ix_tup (pv 4) pe_int (fun _ _ => rfl)) (pe_callB call_len_seq (by rfl) T.b_len (by decide +kernel) (pa_cons (pe_fld (pv 0) rfl) pa_nil))))))) pss_nil)
      (pss_cons (ps_if (pt_cmpR op_in_seq (pv 3) (pe_tup (pa_cons pe_str (pa_cons pe_str pa_nil))) (by rfl)) (pss_one (ps_ret (pe_and (pe_callF G_is_whole (hr.mono (by decide)) rfl T.g_is_whole T.k_is_whole pass0 (pa_cons (pe_ix ix_tup (pv 4) pe_int (fun _ _ => rfl)) pa_nil)) (pe_one (pe_chain op_le op_lt pe_int (pe_ix ix_tup (pv 4) pe_int (fun _ _ => rfl)) (pe_fld (pv 0) rfl)))))) pss_nil)
      (pss_one (ps_ret (pe_and (pe_cmpR op_in_seq (pv 3) (pe_tup (pa_cons pe_str (pa_cons pe_str pa_nil))) (by rfl)) (pe_and (pe_callF G_is_name (hr.mono (by decide)) rfl T.g_is_name T.k_is_name pass0 (pa_cons (pe_ix ix_tup (pv 4) pe_int (fun _ _ => rfl)) pa_nil)) (pe_one (pe_cmp (pc_din (hu_of hr) (pe_ix ix_tup (pv 4) pe_int (fun _ _ => rfl)) (pe_fld (pv 0) rfl)))))))))))))))))), ?_⟩
    -- the form
    refine ⟨_, rfl, v, _, _, _, _, rfl, .ty _, hv.ty, k_tup d, _, rfl, itb (fun c => ?_) (fun c => ?_)⟩
    · have e : instrD ⟨cells.length, L, pi + pj, code.length, names.map (·.1)⟩ d = false := by
        have := bnot c
        cases d <;> first | rfl | cases this
      rw [e] at k
      exact iteT (k H (Same.refl _))
    obtain ⟨ds, rfl⟩ := isT_ex (bnotF c)
    clear c
    obtain ⟨va, xs, rfl, hs, hds⟩ := hv.tupV
    cases hds with
    | nil =>
      refine ⟨_, rfl, va, [], rfl, .inr hs, rfl, _, rfl, iteT (iteT ?_)⟩
      exact k H (Same.refl _)
    | @cons x0 xs d0 rest h0 hrest =>
    have e0 : (x0 :: xs)[0]? = some x0 := rfl
    refine ⟨_, rfl, va, _, rfl, .inr hs, rfl, _, rfl, itF (fun z => ?_) ?_⟩
    · have := V.int.inj z
      rw [List.length_cons] at this
      omega
    refine ⟨_, rfl, va, _, 0, _, rfl, rfl, hs, at_of (j := 0) rfl e0, x0, _, _, _, _, rfl, .ty _, h0.ty, k_str d0, _, rfl, itb (fun c => ?_) (fun c => ?_)⟩
    · have e : instrD ⟨cells.length, L, pi + pj, code.length, names.map (·.1)⟩ (.tuple (d0 :: rest)) = false := by
        have := bnot c
        cases d0 <;> first | rfl | cases this
      rw [e] at k
      exact k H (Same.refl _)
    obtain ⟨wd, rfl⟩ := isS_ex (bnotF c)
    clear c
    cases h0
    -- word, rest
    refine ⟨_, rfl, va, _, 0, _, rfl, rfl, hs, at_of (j := 0) rfl e0, _, rfl, _, rfl, va, _, rfl, hs, fun z => absurd z cut1.1, fun _ l hl => ⟨_, _, rfl, ?_⟩⟩
    rw [cut1.2]
    have sm : Same H (upd H l (.tup xs)) := same_new hl
    have hl' : (upd H l (.tup xs)) l = some (.tup xs) := upd_same
    generalize upd H l (.tup xs) = H1 at sm hl'
    have hrest := hrest.same sm
    have hlen : xs.length = rest.length := hrest.length
    have k : ∀ H', Same H1 H' → Q (.bl (opD ⟨cells.length, L, pi + pj, code.length, names.map (·.1)⟩ wd rest)) H' := fun H' s' => k H' (sm.trans s')
    have hP := hP.same sm
    have hp := hp.same sm
    have hsh : ∀ y r, rest = y :: r → shortD y := fun y r e => hsh _ y r (by rw [e])
    clear hv hs sm hl
    have eqn : ∀ {m : Nat}, decide (V.int (xs.length : Int) = V.int (m : Int)) = decide (rest.length = m) := fun {m} => by
      rw [hlen]
      exact decide_eq_decide.mpr ⟨fun z => Int.ofNat.inj (V.int.inj z), fun z => by rw [z]⟩
    -- alone
    refine ⟨_, rfl, ad.c_ALONE, _, rfl, .inr (T.t_ALONE.sq _), rfl, rfl, _, rfl, ite2 (fun c => ?_) (fun c => ?_)⟩
    · have c' : inV (.str wd) aloneV = true := c
      have e : opD ⟨cells.length, L, pi + pj, code.length, names.map (·.1)⟩ wd rest = decide (rest.length = 0) := if_pos c'
      rw [e] at k
      refine ⟨_, rfl, l, xs, rfl, .inr (SqT.of hl'), rfl, ?_⟩
      show Q (.bl (decide (V.int (xs.length : Int) = V.int ((0 : Nat) : Int)))) H1
      rw [eqn]
      exact k H1 (Same.refl _)
    have c0 : ¬ inV (.str wd) aloneV = true := c
    clear c
    -- if
    refine ⟨_, rfl, rfl, _, rfl, itd (fun c => ?_) (fun c => ?_)⟩
    · have e : opD ⟨cells.length, L, pi + pj, code.length, names.map (·.1)⟩ wd rest = ifD ⟨cells.length, L, pi + pj, code.length, names.map (·.1)⟩ rest := by
        unfold opD
        rw [if_neg c0, if_pos (V.str.inj c)]
      rw [e] at k
      refine ⟨_, rfl, l, xs, rfl, .inr (SqT.of hl'), rfl, _, rfl, ?_⟩
      rw [show V.int 2 = V.int ((2 : Nat) : Int) from rfl, eqn]
      refine itd (fun c2 => ?_) (fun c2 => ?_)
      · obtain ⟨dc, dp, rfl⟩ : ∃ dc dp, rest = [dc, dp] := by
          match rest, c2 with
          | [dc, dp], _ => exact ⟨dc, dp, rfl⟩
        cases hrest with
        | @cons xc _ _ _ hc hr2 =>
        cases hr2 with
        | @cons xp _ _ _ hpp hr3 =>
        cases hr3
        have k : ∀ H', Same H1 H' → Q (.bl (isS dc && (inVD dc condsV && inD 0 code.length dp))) H' := k
        refine ⟨_, rfl, l, _, 0, _, rfl, rfl, SqT.of hl', at_of (j := 0) rfl rfl, xc, _, _, _, _, rfl, .ty _, hc.ty, k_str dc, _, rfl, itb (fun c3 => ?_) (fun c3 => ?_)⟩
        · obtain ⟨cs, rfl⟩ := isS_ex c3
          cases hc
          refine ⟨_, rfl, l, _, 0, _, rfl, rfl, SqT.of hl', at_of (j := 0) rfl rfl, ad.c_CONDITIONS, _, rfl, .inr (T.t_CONDITIONS.sq _), rfl, rfl, _, rfl, ite2 (fun c4 => ?_) (fun c4 => ?_)⟩
          · have c4' : inVD (.str cs) condsV = true := c4
            rw [c4'] at k
            exact ⟨_, rfl, _, rfl, l, _, 1, _, rfl, rfl, SqT.of hl', at_of (j := 1) rfl rfl, pr, xp, .str nm, .int pi, .int pj, dp, code, rfl, hp, hpp, k H1 (Same.refl _)⟩
          · have c4' : inVD (.str cs) condsV = false := by
              cases z : inVD (.str cs) condsV with
              | false => rfl
              | true => exact absurd z c4
            rw [c4'] at k
            exact k H1 (Same.refl _)
        · rw [c3] at k
          exact k H1 (Same.refl _)
      · have e2 : ifD ⟨cells.length, L, pi + pj, code.length, names.map (·.1)⟩ rest = false := by
          match rest, c2 with
          | [], _ => rfl
          | [_], _ => rfl
          | [_, _], c2 => exact absurd rfl c2
          | _ :: _ :: _ :: _, _ => rfl
        rw [e2] at k
        exact k H1 (Same.refl _)
    have e : opD ⟨cells.length, L, pi + pj, code.length, names.map (·.1)⟩ wd rest = restD ⟨cells.length, L, pi + pj, code.length, names.map (·.1)⟩ wd rest := by
      unfold opD
      rw [if_neg c0, if_neg (fun z => c (by rw [z]))]
    rw [e] at k
    clear e c c0
    -- one argument
    refine ⟨_, rfl, l, xs, rfl, .inr (SqT.of hl'), rfl, _, rfl, ?_⟩
    rw [show V.int 1 = V.int ((1 : Nat) : Int) from rfl, eqn]
    by_cases c : rest.length = 1
    case neg =>
      rw [decide_eq_false c]
      have e2 : restD ⟨cells.length, L, pi + pj, code.length, names.map (·.1)⟩ wd rest = false := by
        match rest, c with
        | [], _ => rfl
        | [_], c => exact absurd rfl c
        | _ :: _ :: _, _ => rfl
      rw [e2] at k
      exact iteT (k H1 (Same.refl _))
    rw [decide_eq_true c]
    refine iteF ?_
    obtain ⟨d, rfl⟩ : ∃ d, rest = [d] := by
      match rest, c with
      | [d], _ => exact ⟨d, rfl⟩
    have hsd : shortD d := hsh d [] rfl
    cases hrest with
    | @cons x _ _ _ hx hr2 =>
    cases hr2
    clear c hsh eqn hlen
    have k : ∀ H', Same H1 H' → Q (.bl (argD ⟨cells.length, L, pi + pj, code.length, names.map (·.1)⟩ wd d)) H' := k
    -- int
    refine ⟨_, rfl, rfl, _, rfl, itd (fun c => ?_) (fun c => ?_)⟩
    · have e : argD ⟨cells.length, L, pi + pj, code.length, names.map (·.1)⟩ wd d = wordD d := if_pos (V.str.inj c)
      rw [e] at k
      exact ⟨_, rfl, l, _, 0, _, rfl, rfl, SqT.of hl', at_of (j := 0) rfl rfl, x, d, rfl, hx, k H1 (Same.refl _)⟩
    have n1 : ¬ wd = "int" := fun z => c (by rw [z])
    clear c
    -- load, store
    refine ⟨_, rfl, by show 2 ≤ sizeLine; decide, fun t1 ht1 => ⟨t1, _, rfl, .inr (SqT.of upd_same), rfl, rfl, _, rfl, ?_⟩⟩
    have s1 := same_new (o := .tup [.str "load", .str "store"]) ht1
    generalize upd H1 t1 (.tup [.str "load", .str "store"]) = H2 at s1
    have hl2 := s1 _ _ hl'
    obtain ⟨pa, ps, rfl, hps, hpd⟩ := (hp.same s1).tupV
    obtain ⟨y1, q1, g1⟩ := hpd.get (i := 1) rfl
    obtain ⟨y2, q2, g2⟩ := hpd.get (i := 2) rfl
    cases g1
    cases g2
    refine ite2 (fun c => ?_) (fun c => ?_)
    · have c' : inV (.str wd) [.str "load", .str "store"] = true := c
      have e : argD ⟨cells.length, L, pi + pj, code.length, names.map (·.1)⟩ wd d = inD 0 (pi + pj) d := by
        unfold argD
        rw [if_neg n1, if_pos c']
      rw [e] at k
      refine ⟨_, rfl, l, _, 0, _, rfl, rfl, SqT.of hl2, at_of (j := 0) rfl rfl, x, d, rfl, hx.same s1, _, rfl, itb (fun c2 => ?_) (fun c2 => ?_)⟩
      · obtain ⟨n, rfl⟩ := whole_int c2
        cases hx
        rw [inD_int] at k
        refine ⟨_, rfl, l, _, 0, _, rfl, rfl, SqT.of hl2, at_of (j := 0) rfl rfl, _, _, rfl, rfl, _, rfl, itd (fun c3 => ?_) (fun c3 => ?_)⟩
        · rw [decide_eq_true c3] at k
          exact ⟨_, rfl, pa, _, 1, _, rfl, rfl, hps, at_of (j := 1) rfl q1, _, rfl, pa, _, 2, _, rfl, rfl, hps, at_of (j := 2) rfl q2, _, _, rfl, rfl, _, _, rfl, rfl, k H2 s1⟩
        · rw [decide_eq_false c3] at k
          exact k H2 s1
      · rw [inD_no c2] at k
        exact k H2 s1
    have n2 : ¬ inV (.str wd) [.str "load", .str "store"] = true := c
    clear c q1 q2
    -- goto
    refine ⟨_, rfl, rfl, _, rfl, itd (fun c => ?_) (fun c => ?_)⟩
    · have e : argD ⟨cells.length, L, pi + pj, code.length, names.map (·.1)⟩ wd d = inD 0 code.length d := by
        unfold argD
        rw [if_neg n1, if_neg n2, if_pos (V.str.inj c)]
      rw [e] at k
      exact ⟨_, rfl, _, rfl, l, _, 0, _, rfl, rfl, SqT.of hl2, at_of (j := 0) rfl rfl, _, x, .str nm, .int pi, .int pj, d, code, rfl, hp.same s1, hx.same s1, k H2 s1⟩
    have n3 : ¬ wd = "goto" := fun z => c (by rw [z])
    clear c
    -- get, put, trade
    refine ⟨_, rfl, by show 3 ≤ sizeLine; decide, fun t2 ht2 => ⟨t2, _, rfl, .inr (SqT.of upd_same), rfl, rfl, _, rfl, ?_⟩⟩
    have s2 := s1.trans (same_new (o := .tup [.str "get", .str "put", .str "trade"]) ht2)
    generalize upd H2 t2 (.tup [.str "get", .str "put", .str "trade"]) = H3 at s2
    have hl3 := s2 _ _ hl'
    obtain ⟨⟨dx, fs, vc, vl, o1, o2, o3, o4, o5, o6, o7⟩, o8⟩ := hP
    have o5' := (o5.same s2).tupV
    obtain ⟨ca, cxs, rfl, hcs, hcd⟩ := o5'
    cases o6
    refine ite2 (fun c => ?_) (fun c => ?_)
    · have c' : inV (.str wd) [.str "get", .str "put", .str "trade"] = true := c
      have e : argD ⟨cells.length, L, pi + pj, code.length, names.map (·.1)⟩ wd d = inD 0 cells.length d := by
        unfold argD
        rw [if_neg n1, if_neg n2, if_neg n3, if_pos c']
      rw [e] at k
      refine ⟨_, rfl, l, _, 0, _, rfl, rfl, SqT.of hl3, at_of (j := 0) rfl rfl, x, d, rfl, hx.same s2, _, rfl, itb (fun c2 => ?_) (fun c2 => ?_)⟩
      · obtain ⟨n, rfl⟩ := whole_int c2
        cases hx
        rw [inD_int] at k
        refine ⟨_, rfl, l, _, 0, _, rfl, rfl, SqT.of hl3, at_of (j := 0) rfl rfl, _, _, rfl, rfl, _, rfl, itd (fun c3 => ?_) (fun c3 => ?_)⟩
        · rw [decide_eq_true c3] at k
          refine ⟨_, rfl, a, ad.C_Program, dx, fs, _, rfl, s2 _ _ o1, T.cl_Program, T.no_Program_cells, o3, ca, cxs, rfl, .inr hcs, _, _, rfl, rfl, ?_⟩
          rw [hcd.length]
          exact k H3 s2
        · rw [decide_eq_false c3] at k
          exact k H3 s2
      · rw [inD_no c2] at k
        exact k H3 s2
    have n4 : ¬ inV (.str wd) [.str "get", .str "put", .str "trade"] = true := c
    clear c
    -- lock, free
    refine ⟨_, rfl, by show 2 ≤ sizeLine; decide, fun t3 ht3 => ⟨t3, _, rfl, .inr (SqT.of upd_same), rfl, rfl, _, rfl, ?_⟩⟩
    have s3 := s2.trans (same_new (o := .tup [.str "lock", .str "free"]) ht3)
    generalize upd H3 t3 (.tup [.str "lock", .str "free"]) = H4 at s3
    have hl4 := s3 _ _ hl'
    refine ite2 (fun c => ?_) (fun c => ?_)
    · have c' : inV (.str wd) [.str "lock", .str "free"] = true := c
      have e : argD ⟨cells.length, L, pi + pj, code.length, names.map (·.1)⟩ wd d = inD 0 L d := by
        unfold argD
        rw [if_neg n1, if_neg n2, if_neg n3, if_neg n4, if_pos c']
      rw [e] at k
      refine ⟨_, rfl, l, _, 0, _, rfl, rfl, SqT.of hl4, at_of (j := 0) rfl rfl, x, d, rfl, hx.same s3, _, rfl, itb (fun c2 => ?_) (fun c2 => ?_)⟩
      · obtain ⟨n, rfl⟩ := whole_int c2
        cases hx
        rw [inD_int] at k
        refine ⟨_, rfl, l, _, 0, _, rfl, rfl, SqT.of hl4, at_of (j := 0) rfl rfl, _, _, rfl, rfl, _, rfl, itd (fun c3 => ?_) (fun c3 => ?_)⟩
        · rw [decide_eq_true c3] at k
          exact ⟨_, rfl, a, ad.C_Program, dx, fs, _, rfl, s3 _ _ o1, T.cl_Program, T.no_Program_locks, o4, _, _, rfl, rfl, k H4 s3⟩
        · rw [decide_eq_false c3] at k
          exact k H4 s3
      · rw [inD_no c2] at k
        exact k H4 s3
    have n5 : ¬ inV (.str wd) [.str "lock", .str "free"] = true := c
    clear c
    -- call, spawn
    have e : argD ⟨cells.length, L, pi + pj, code.length, names.map (·.1)⟩ wd d = (inV (.str wd) [.str "call", .str "spawn"] && (nameD d && memD (names.map (·.1)) d)) := by
      unfold argD
      rw [if_neg n1, if_neg n2, if_neg n3, if_neg n4, if_neg n5]
    rw [e] at k
    refine ⟨_, rfl, by show 2 ≤ sizeLine; decide, fun t4 ht4 => ⟨t4, _, rfl, .inr (SqT.of upd_same), rfl, rfl, _, rfl, ?_⟩⟩
    have s4 := s3.trans (same_new (o := .tup [.str "call", .str "spawn"]) ht4)
    generalize upd H4 t4 (.tup [.str "call", .str "spawn"]) = H5 at s4
    have hl5 := s4 _ _ hl'
    refine ite2 (fun c => ?_) (fun c => ?_)
    · have c' : inV (.str wd) [.str "call", .str "spawn"] = true := c
      rw [c'] at k
      refine ⟨_, rfl, l, _, 0, _, rfl, rfl, SqT.of hl5, at_of (j := 0) rfl rfl, x, d, rfl, hx.same s4, ?_, fun H6 s6 => ⟨_, rfl, itb (fun c2 => ?_) (fun c2 => ?_)⟩⟩
      · intro q hq
        rw [hq] at hsd
        exact hsd
      · have s7 := s4.trans s6
        cases d with
        | str q =>
          cases hx
          have k : ∀ H', Same H1 H' → Q (.bl (nameD (.str q) && decide (q ∈ names.map (·.1)))) H' := k
          rw [c2] at k
          refine ⟨_, rfl, l, _, 0, _, rfl, rfl, SqT.of (s6 _ _ hl5), at_of (j := 0) rfl rfl, _, rfl, a, ad.C_Program, dx, fs, _, rfl, s7 _ _ o1, T.cl_Program, T.no_Program_by, o2, b, _, rfl, DGet.k (k := Sum.inr q) (s7 _ _ o8), ?_⟩
          rw [valV_names]
          exact k H6 s7
        | _ => cases c2
      · rw [c2] at k
        exact k H6 (s4.trans s6)
    · have c' : inV (.str wd) [.str "call", .str "spawn"] = false := by
        cases z : inV (.str wd) [.str "call", .str "spawn"] with
        | false => rfl
        | true => exact absurd z c
      rw [c'] at k
      exact k H5 s4
end
end My

set_option Elab.async false
set_option linter.all false
set_option maxRecDepth 100000
set_option maxHeartbeats 4000000
namespace My
open PySem L2
/-! ## Program(cells, locks, procs, start): the mirror -/
def procName (d : PyData) : Str :=
  match d with
  | .tuple (.str n :: _) => n | _ => ""
def procPar (d : PyData) : Int :=
  match d with
  | .tuple (_ :: .int i :: _) => i | _ => 0
def procMore (d : PyData) : Int :=
  match d with
  | .tuple (_ :: _ :: .int i :: _) => i | _ => 0
def procCode (d : PyData) : List PyData :=
  match d with
  | .tuple [_, _, _, .tuple c] => c | _ => []
def lookAll (names : List Str) : List PyData → Option (PyData × Str)
  | [] => none
  | d :: ds => match lookD names d with
    | some e => some e
    | none => lookAll (names ++ [procName d]) ds
theorem lookAll_app {b : List PyData} : ∀ {a : List PyData} {names : List Str}, lookAll names a = none → lookAll names (a ++ b) = lookAll (names ++ a.map procName) b
  | [], names, _ => by rw [List.nil_append, List.map_nil, List.append_nil]
  | d :: a, names, h => by
    have e : ∀ c, lookAll names (d :: c) = match lookD names d with | some e => some e | none => lookAll (names ++ [procName d]) c := fun _ => rfl
    rw [e] at h
    rw [List.cons_append, e]
    cases hl : lookD names d with
    | some q => rw [hl] at h; cases h
    | none =>
      rw [hl] at h
      have := lookAll_app (b := b) (a := a) (names := names ++ [procName d]) h
      show lookAll (names ++ [procName d]) (a ++ b) = _
      rw [this, List.map_cons, List.append_assoc]
      rfl
def codeBad (B : Bnd) (n : Str) (k : Nat) : List PyData → Option (PyData × Str)
  | [] => none
  | op :: r => if instrD B op = true then codeBad B n (k + 1) r else some (.tuple [.str n, .int (k : Nat)], "instruction")
theorem codeBad_app {B : Bnd} {n : Str} {b : List PyData} : ∀ {a : List PyData} {k : Nat}, codeBad B n k a = none → codeBad B n k (a ++ b) = codeBad B n (k + a.length) b
  | [], k, _ => rfl
  | op :: a, k, h => by
    have e : ∀ c, codeBad B n k (op :: c) = if instrD B op = true then codeBad B n (k + 1) c else some (.tuple [.str n, .int (k : Nat)], "instruction") := fun _ => rfl
    rw [e] at h
    rw [List.cons_append, e]
    by_cases hi : instrD B op = true
    · rw [if_pos hi] at h ⊢
      rw [codeBad_app (b := b) h, List.length_cons]
      congr 1
      omega
    · rw [if_neg hi] at h; cases h
def bndOf (cells : Nat) (L : Int) (names : List Str) (d : PyData) : Bnd := ⟨cells, L, procPar d + procMore d, (procCode d).length, names⟩
def codeAll (cells : Nat) (L : Int) (names : List Str) : List PyData → Option (PyData × Str)
  | [] => none
  | d :: ds => match codeBad (bndOf cells L names d) (procName d) 0 (procCode d) with
    | some e => some e
    | none => codeAll cells L names ds
theorem codeAll_app {cells : Nat} {L : Int} {names : List Str} {b : List PyData} : ∀ {a : List PyData}, codeAll cells L names a = none → codeAll cells L names (a ++ b) = codeAll cells L names b
  | [], _ => rfl
  | d :: a, h => by
    have e : ∀ c, codeAll cells L names (d :: c) = match codeBad (bndOf cells L names d) (procName d) 0 (procCode d) with | some e => some e | none => codeAll cells L names c := fun _ => rfl
    rw [e] at h
    rw [List.cons_append, e]
    cases hl : codeBad (bndOf cells L names d) (procName d) 0 (procCode d) with
    | some q => rw [hl] at h; cases h
    | none =>
      rw [hl] at h
      exact codeAll_app (b := b) h
def startD (ds : List PyData) (s : PyData) : Bool :=
  match s with
  | .str q => nameS q && (match ds.find? fun d => decide (procName d = q) with
      | some d => decide (procPar d ≤ 0) | none => false)
  | _ => false
def cellsD (d : PyData) : Bool :=
  match d with
  | .tuple ds => decide (0 < ds.length) && (decide (ds.length ≤ 16) && ds.all wordD) | _ => false
def itemsD (d : PyData) : List PyData :=
  match d with
  | .tuple ds => ds | _ => []
def intD (d : PyData) : Int :=
  match d with
  | .int n => n | _ => 0
def procsD (cells : Nat) (L : Int) (ds : List PyData) (s : PyData) : Option (PyData × Str) :=
  match lookAll [] ds with
  | some e => some e
  | none => match codeAll cells L (ds.map procName) ds with
    | some e => some e
    | none => if startD ds s = true then none else some (none2, "start")
def lenD (d : PyData) : Bool :=
  match d with
  | .tuple ds => decide (0 < ds.length) && decide (ds.length ≤ 12) | _ => false
def progD (c l p s : PyData) : Option (PyData × Str) :=
  if cellsD c = false then some (none2, "cells")
  else if inD 0 7 l = false then some (none2, "locks")
  else if lenD p = false then some (none2, "procs")
  else procsD (itemsD c).length (intD l) (itemsD p) s
/-- what a proc is, once it was looked at -/
theorem look_none {names : List Str} {d : PyData} (h : lookD names d = none) : ∃ (n : Str) (i j : Int) (code : List PyData), d = .tuple [.str n, .int i, .int j, .tuple code] ∧ nameS n = true ∧ ¬ n ∈ names ∧ (0 ≤ i ∧ i ≤ 4) ∧ (0 ≤ j ∧ j ≤ 8 - i) ∧ 0 < code.length ∧ code.length ≤ 80 := by
  cases d with
  | tuple ds =>
    have h : look4 names ds = none := h
    by_cases h4 : ds.length = 4
    case neg => rw [show look4 names ds = lookD names (.tuple ds) from rfl, lookD_len h4] at h; cases h
    obtain ⟨n, p, m, c, rfl⟩ := four h4
    have h : lookN names n p m c = none := h
    cases n with
    | str q =>
      have h : (if nameS q = false then some (none2, ("proc" : Str)) else if q ∈ names then some (PyData.tuple [.str q, .none], "twice") else lookT q p m c) = none := h
      by_cases h1 : nameS q = false
      · rw [if_pos h1] at h; cases h
      rw [if_neg h1] at h
      by_cases h2 : q ∈ names
      · rw [if_pos h2] at h; cases h
      rw [if_neg h2] at h
      cases hp : wholeD p with
      | false => rw [lookT_p hp] at h; cases h
      | true =>
        obtain ⟨i, rfl⟩ := whole_int hp
        by_cases hi : 0 ≤ i ∧ i ≤ 4
        case neg => rw [lookT_p2 hi] at h; cases h
        cases hm : wholeD m with
        | false => rw [lookT_m hi hm] at h; cases h
        | true =>
          obtain ⟨j, rfl⟩ := whole_int hm
          by_cases hj : 0 ≤ j ∧ j ≤ 8 - i
          case neg => rw [lookT_m2 hi hj] at h; cases h
          rw [lookT_c hi hj] at h
          cases c with
          | tuple code =>
            have h : (if (decide (0 < code.length) && decide (code.length ≤ 80)) = true then none else some (PyData.tuple [.str q, .none], ("code" : Str))) = none := h
            by_cases hc : 0 < code.length ∧ code.length ≤ 80
            case neg => rw [if_neg (by rw [and2]; exact hc)] at h; cases h
            exact ⟨q, i, j, code, rfl, by cases z : nameS q <;> first | rfl | exact absurd z h1, h2, hi, hj, hc.1, hc.2⟩
          | _ => cases h
    | _ => cases h
  | _ => cases h
/-! ### texts are short -/
mutual
def Sh : PyData → Prop
  | .str s => s.length ≤ 100000
  | .tuple ds => Shs ds
  | .list ds => Shs ds
  | _ => True
def Shs : List PyData → Prop
  | [] => True
  | d :: ds => Sh d ∧ Shs ds
end
theorem Shs.get : ∀ {ds : List PyData} {i : Nat} {d : PyData}, Shs ds → ds[i]? = some d → Sh d
  | [], _, _, _, h => by simp at h
  | d :: ds, 0, e, h, q => by cases q; exact h.1
  | d :: ds, i + 1, e, h, q => Shs.get (ds := ds) (i := i) h.2 (by simpa using q)
theorem Sh.short {d : PyData} (h : Sh d) : shortD d := by cases d <;> first | exact h | trivial
/-! ## needs -/
def needD (names : List (Str × Int)) (w : Str) (x : PyData) : Int :=
  if inV (.str w) worksV = true ∨ inV (.str w) [.str "if", .str "set"] = true then 2
  else if inV (.str w) [.str "store", .str "dup", .str "drop", .str "neg", .str "give", .str "put", .str "fetch", .str "trade", .str "tell", .str "join"] = true then 1
  else if inV (.str w) [.str "call", .str "spawn"] = true then (match x with
    | .str s => ((names.find? fun p => decide (p.1 = s)).map (·.2)).getD 0
    | _ => 0) else 0
end My

set_option Elab.async false
set_option linter.all false
set_option maxRecDepth 100000
set_option maxHeartbeats 4000000
namespace My
open PySem L2
/-- the program's object, whole -/
structure PgAt (K : PySem.W.Frag) (H : Hp) (N : Addr → Prop) (C a b : Addr) (vc vl vp vs : V) (names : List (Str × V)) : Prop where
  ob : ∃ dx : Addr, H a = some (.ins C dx [("cells", vc), ("locks", vl), ("procs", vp), ("start", vs), ("by", .ref b)])
  by_ : H b = some (.dK (names.map fun x => (Sum.inr x.1, x.2)))
  na : ¬ N a
  nb : ¬ N b
def BadN (N : Addr → Prop) (C : Addr) (K : PySem.W.Frag) (H : Hp) (E : XK) (place : PyData) (word : Str) : Prop :=
  ∀ (d : Addr) (H' : Hp) (v : V), Keep N H H' → H' d = some (.xd [("word", .str word), ("place", v)]) → Dt K H' v place → E (.ref C) (some d) H'
theorem BadN.bad {N : Addr → Prop} {C : Addr} {K : PySem.W.Frag} {H H1 : Hp} {E : XK} {place : PyData} {word : Str} (h : BadN N C K H E place word) (k : Keep N H H1) : Bad K C H1 E place word := fun d H' v s e D => h d H' v (k.trans (.of s)) e D
/-- names with the procs' values -/
structure Names (K : PySem.W.Frag) (H : Hp) (names : List (Str × V)) (ds : List PyData) : Prop where
  fst : names.map (·.1) = ds.map procName
  snd : DAs K H No (names.map (·.2)) ds
theorem Names.same {K : PySem.W.Frag} {H H' : Hp} {names : List (Str × V)} {ds : List PyData} (s : Same H H') (h : Names K H names ds) : Names K H' names ds := ⟨h.fst, h.snd.same s⟩
theorem Names.nil {K : PySem.W.Frag} {H : Hp} : Names K H [] [] := ⟨rfl, .nil⟩
theorem Names.snoc {K : PySem.W.Frag} {H : Hp} {names : List (Str × V)} {ds : List PyData} {d : PyData} {v : V} (h : Names K H names ds) (hd : Dt K H v d) : Names K H (names ++ [(procName d, v)]) (ds ++ [d]) :=
  ⟨by rw [List.map_append, List.map_append, h.fst]; rfl, by rw [List.map_append]; exact h.snd.append (.one hd)⟩
/-- a look-up by name -/
theorem valV_find {K : PySem.W.Frag} {H : Hp} {q : Str} : ∀ {names : List (Str × V)} {ds : List PyData}, Names K H names ds →
    (∀ d, ds.find? (fun d => decide (procName d = q)) = some d → ∃ v, valV (names.map fun x => ((Sum.inr x.1 : Key), x.2)) (Sum.inr q) = some v ∧ Dt K H v d) ∧
    (ds.find? (fun d => decide (procName d = q)) = none → valV (names.map fun x => ((Sum.inr x.1 : Key), x.2)) (Sum.inr q) = none)
  | [], [], _ => ⟨fun d h => (by cases h), (fun _ => rfl)⟩
  | [], d :: ds, h => by cases h.fst
  | p :: names, [], h => by cases h.fst
  | (n, v) :: names, d :: ds, h => by
    have hf := h.fst
    have hs := h.snd
    rw [List.map_cons, List.map_cons] at hf
    injection hf with h1 h2
    have h1 : n = procName d := h1
    rw [List.map_cons] at hs
    cases hs with
    | cons a s =>
    by_cases hq : n = q
    · have e1 : valV (((n, v) :: names).map fun x => ((Sum.inr x.1 : Key), x.2)) (Sum.inr q) = some v := by
        unfold valV
        rw [List.map_cons, List.find?_cons_of_pos (by simpa using hq)]
        rfl
      have e2 : (d :: ds).find? (fun d => decide (procName d = q)) = some d := by
        rw [List.find?_cons_of_pos (by rw [← h1]; simpa using hq)]
      exact ⟨fun d' h' => by rw [e2] at h'; cases h'; exact ⟨v, e1, a⟩, (fun h' => by rw [e2] at h'; cases h')⟩
    · have e1 : valV (((n, v) :: names).map fun x => ((Sum.inr x.1 : Key), x.2)) (Sum.inr q) = valV (names.map fun x => ((Sum.inr x.1 : Key), x.2)) (Sum.inr q) := by
        unfold valV
        rw [List.map_cons, List.find?_cons_of_neg (by simpa using hq)]
      have e2 : (d :: ds).find? (fun d => decide (procName d = q)) = ds.find? fun d => decide (procName d = q) := by
        rw [List.find?_cons_of_neg (by rw [← h1]; simpa using hq)]
      rw [e1, e2]
      exact valV_find (names := names) (ds := ds) ⟨h2, s⟩
def spProg (K : PySem.W.Frag) (ad : Ad) : Sp := fun vs H Q E => ∃ (a dx : Addr) (vc vl vp vt : V) (c l p t : PyData), vs = [.ref a, vc, vl, vp, vt] ∧ H a = some (.ins ad.C_Program dx []) ∧
  Dt K H vc c ∧ Dt K H vl l ∧ Dt K H vp p ∧ Dt K H vt t ∧ Sh c ∧ Sh p ∧ Sh t ∧
  (progD c l p t = none → ∀ (b : Addr) (H' : Hp) (names : List (Str × V)), Keep (· = a) H H' → PgAt K H' No ad.C_Program a b vc vl vp vt names → Names K H' names (itemsD p) → H b = none → Q .non H') ∧
  (∀ pl wd, progD c l p t = some (pl, wd) → BadN (· = a) ad.C_BadProgram K H E pl wd)
theorem lookAll_get : ∀ {ds : List PyData} {names : List Str} {i : Nat} {d : PyData}, lookAll names ds = none → ds[i]? = some d → ∃ nn, lookD nn d = none
  | [], _, _, _, _, h => by simp at h
  | e :: ds, names, i, d, h, q => by
    have h : (match lookD names e with | some e => some e | none => lookAll (names ++ [procName e]) ds) = none := h
    cases hl : lookD names e with
    | some q => rw [hl] at h; cases h
    | none =>
      rw [hl] at h
      cases i with
      | zero => cases q; exact ⟨_, hl⟩
      | succ i => exact lookAll_get h (by simpa using q)
theorem keep_upd {a : Addr} {H H' : Hp} {o : HO} (k : Keep (· = a) H H') : Keep (· = a) H (upd H' a o) := fun b u e n => by
  rw [upd_ne n]; exact k b u e n
theorem putK_new {names : List (Str × V)} {n : Str} {v : V} (h : ¬ n ∈ names.map (·.1)) : putK (names.map fun x => ((Sum.inr x.1 : Key), x.2)) (Sum.inr n) v = (names ++ [(n, v)]).map fun x => ((Sum.inr x.1 : Key), x.2) := by
  unfold putK
  rw [if_neg, List.map_append]
  · rfl
  · intro z
    rw [List.any_map, List.any_eq_true] at z
    obtain ⟨x, hx, e⟩ := z
    have e : x.1 = n := Sum.inr.inj (of_decide_eq_true e)
    exact h (by rw [← e]; exact List.mem_map_of_mem hx)
mutual
theorem dt_ins {K : PySem.W.Frag} {H : Hp} {a C dx : Addr} {fs : List (Str × V)} (ha : H a = some (.ins C dx fs)) : ∀ {v : V} {d : PyData}, DA K H No v d → DA K H (· = a) v d
  | _, _, .non => .non
  | _, _, .bl b => .bl b
  | _, _, .int i => .int i
  | _, _, .str x => .str x
  | _, _, .lst e _ s => .lst e (fun z => by rw [z, ha] at e; cases e) (dts_ins ha s)
  | _, _, .tup e _ s => .tup e (fun z => by rw [z, ha] at e; cases e) (dts_ins ha s)
  | _, _, .kt e s => .kt e (dts_ins ha s)
theorem dts_ins {K : PySem.W.Frag} {H : Hp} {a C dx : Addr} {fs : List (Str × V)} (ha : H a = some (.ins C dx fs)) : ∀ {vs : List V} {ds : List PyData}, DAs K H No vs ds → DAs K H (· = a) vs ds
  | _, _, .nil => .nil
  | _, _, .cons x s => .cons (dt_ins ha x) (dts_ins ha s)
end
mutual
theorem dt_upd {K : PySem.W.Frag} {H : Hp} {b : Addr} {kvs q : List (Key × V)} (hb : H b = some (.dK kvs)) : ∀ {v : V} {d : PyData}, DA K H No v d → DA K (upd H b (.dK q)) No v d
  | _, _, .non => .non
  | _, _, .bl b => .bl b
  | _, _, .int i => .int i
  | _, _, .str x => .str x
  | _, _, .lst e n s => .lst (by rw [upd_ne (fun z => by rw [z, hb] at e; cases e)]; exact e) n (dts_upd hb s)
  | _, _, .tup e n s => .tup (by rw [upd_ne (fun z => by rw [z, hb] at e; cases e)]; exact e) n (dts_upd hb s)
  | _, _, .kt e s => .kt e (dts_upd hb s)
theorem dts_upd {K : PySem.W.Frag} {H : Hp} {b : Addr} {kvs q : List (Key × V)} (hb : H b = some (.dK kvs)) : ∀ {vs : List V} {ds : List PyData}, DAs K H No vs ds → DAs K (upd H b (.dK q)) No vs ds
  | _, _, .nil => .nil
  | _, _, .cons x s => .cons (dt_upd hb x) (dts_upd hb s)
end
theorem lenD_le {ds : List PyData} (h : lenD (.tuple ds) = true) : ds.length ≤ 12 := by
  have h : (decide (0 < ds.length) && decide (ds.length ≤ 12)) = true := h
  exact (and2.mp h).2
theorem fin_of {A B : Prop} (h : A) (k : A → B) : B := k h
theorem keep_sqT {K : PySem.W.Frag} {a q C dx : Addr} {fs : List (Str × V)} {xs : List V} {H H' : Hp} (k : Keep (· = a) H H') (ha : H a = some (.ins C dx fs)) (h : SqT K H q xs) : SqT K H' q xs := by
  rcases h with (h | ⟨o, h⟩) | h
  · exact .inl (.inl (k _ _ h (fun z => by rw [z, ha] at h; cases h)))
  · exact .inl (.inr ⟨o, k _ _ h (fun z => by rw [z, ha] at h; cases h)⟩)
  · exact .inr h
/-- data have no part in an instance, nor in a dict -/
theorem keep_dt {K : PySem.W.Frag} {a C dx : Addr} {fs : List (Str × V)} {H H' : Hp} {v : V} {d : PyData} (k : Keep (· = a) H H') (ha : H a = some (.ins C dx fs)) (h : Dt K H v d) : Dt K H' v d := by
  have h' : DA K H (· = a) v d := dt_ins ha h
  exact (h'.keep k).t
section
variable {P : Program} {w : World} {K : PySem.W.Frag} {mg : Str → Option Value} {base : Heap} {ad : Ad}
theorem sc_Program_init : FnScope ["self", "cells", "locks", "procs", "start", "one", "index", "op"] ["self", "cells", "locks", "procs", "start"] (defScope s_Program_init) := ⟨rfl, rfl, rfl, by decide +kernel, rfl, by decide +kernel, by decide +kernel⟩
theorem ok_Program_init (T : Txt K mg ad) (U : Funs K ad) : Fc P w K mg base (L2.CX P w) 7 ad.Program_init ["self", "cells", "locks", "procs", "start"] (spProg K ad) := by
  have G_is_whole := ok_is_whole (P := P) (w := w) (base := base) T U
  have G_is_name := ok_is_name (P := P) (w := w) (base := base) T U
  have G_is_word := ok_is_word (P := P) (w := w) (base := base) T U
  have G_look_at_proc := ok_look_at_proc (P := P) (w := w) (base := base) T U
  have G_is_instruction := ok_is_instruction (P := P) (w := w) (base := base) T U
  have G_BadProgram_init := ok_BadProgram_init (P := P) (w := w) (base := base) T U
  refine Fc.okX U.F_Program_init sc_Program_init (fun vs H Q E h => ?_) (fun cdv A outer s f H vs Q E hr h => ?_)
  · obtain ⟨_, _, _, _, _, _, _, _, _, _, rfl, _⟩ := h
    rfl
  · obtain ⟨a, dx, vc, vl, vp, vt, c, l, p, t, rfl, ha, hc, hl, hp, ht, shc, shp, sht, kn, ke⟩ := h
    refine ⟨_, (Evl.pss_cut (ps_if (PW.pt (pw_or (pt_not (pt_val (pe_callB call_isi (by rfl) T.b_isinstance (by decide +kernel) (pa_cons (pv 1) (pa_cons (pe_bltn (v := .ty "tuple") (by rfl) T.b_tuple (by decide +kernel) rfl) pa_nil))))) (pw_or (pt_not (pt_chain op_lt op_le pe_int (pe_callB call_len_seq (by rfl) T.b_len (by decide +kernel) (pa_cons (pv 1) pa_nil)) (pe_globE rfl T.g_MOST_CELLS))) (pw_or1 (pt_not (pt_val (pe_callB (cr_all rfl) (by rfl) T.b_all (by decide +kernel) (pa_cons (pe_lc (own := [("one", 5)]) (g := gName 5) (by rfl) sc_Program_init.nd (pi_tup (pv 1)) (blkOk_by (own := [("one", 5)]) (N := ["self", "cells", "locks", "procs", "start", "one", "index", "op"]) (sc := defScope s_Program_init) (by decide +kernel)) (fun _ _ _ _ _ => (pg_name (i := 5) sc_Program_init.nd rfl (Or.inl rfl))) (fun _ _ _ _ _ => pts_nil) (fun _ _ _ _ _ => (pe_callF G_is_word (hr.mono (by decide)) rfl T.g_is_word T.k_is_word pass0 (pa_cons (pv 5) pa_nil)))) pa_nil)))))))) (pss_one (ps_raise rfl (takes_of rfl rfl rfl rfl) (pmk_oexF T.oc_BadProgram T.m_BadProgram_init T.mt_BadProgram_init G_BadProgram_init (hr.mono (by decide)) pass0 rfl T.g_BadProgram (pa_cons (pe_tup (pa_cons pe_non (pa_cons pe_non pa_nil))) (pa_cons pe_str pa_nil))))) pss_nil)
      (Evl.pss_cut (ps_if (PW.pt (pw_or (pt_not (pt_val (pe_callF G_is_whole (hr.mono (by decide)) rfl T.g_is_whole T.k_is_whole pass0 (pa_cons (pv 2) pa_nil)))) (pw_or1 (pt_not (pt_chain op_le op_le pe_int (pv 2) (pe_globE rfl T.g_MOST_LOCKS)))))) (pss_one (ps_raise rfl (takes_of rfl rfl rfl rfl) (pmk_oexF T.oc_BadProgram T.m_BadProgram_init T.mt_BadProgram_init G_BadProgram_init (hr.mono (by decide)) pass0 rfl T.g_BadProgram (pa_cons (pe_tup (pa_cons pe_non (pa_cons pe_non pa_nil))) (pa_cons pe_str pa_nil))))) pss_nil)
      (Evl.pss_cut (ps_if (PW.pt (pw_or (pt_not (pt_val (pe_callB call_isi (by rfl) T.b_isinstance (by decide +kernel) (pa_cons (pv 3) (pa_cons (pe_bltn (v := .ty "tuple") (by rfl) T.b_tuple (by decide +kernel) rfl) pa_nil))))) (pw_or1 (pt_not (pt_chain op_lt op_le pe_int (pe_callB call_len_seq (by rfl) T.b_len (by decide +kernel) (pa_cons (pv 3) pa_nil)) (pe_globE rfl T.g_MOST_PROCS)))))) (pss_one (ps_raise rfl (takes_of rfl rfl rfl rfl) (pmk_oexF T.oc_BadProgram T.m_BadProgram_init T.mt_BadProgram_init G_BadProgram_init (hr.mono (by decide)) pass0 rfl T.g_BadProgram (pa_cons (pe_tup (pa_cons pe_non (pa_cons pe_non pa_nil))) (pa_cons pe_str pa_nil))))) pss_nil)
      (pss_cons (ps_fld (pv 0) (pv 1) rfl)
      (pss_cons (ps_fld (pv 0) (pv 2) rfl)
      (pss_cons (ps_fld (pv 0) (pv 3) rfl)
      (pss_cons (ps_fld (pv 0) (pv 4) rfl)
      (Evl.pss_cut (ps_fld (pv 0) pe_dnewK rfl)
      (pss_cons (ps_for (passes_of rfl) rfl (pi_tup (pv 3)) (pg_name (i := 5) sc_Program_init.nd rfl (Or.inl rfl))
      (pss_cons (ps_expr (pe_callF G_look_at_proc (hr.mono (by decide)) rfl T.g_look_at_proc T.k_look_at_proc (passO (takes_of rfl rfl rfl rfl)) (pa_cons (pv 0) (pa_cons (pv 5) pa_nil))))
      (pss_one (ps_dput (hu_of hr) (pe_fld (pv 0) rfl) (pe_ix ix_tup (pv 5) pe_int (fun _ _ => rfl)) (pv 5) rfl))))
      (pss_cons (ps_for (passes_of rfl) rfl (pi_tup (pv 3)) (pg_name (i := 5) sc_Program_init.nd rfl (Or.inl rfl))
      (pss_one (ps_for (passes_of rfl) rfl (pi_enumT (by rfl) T.b_enumerate (pa_cons (pe_ix ix_tup (pv 5) pe_int (fun _ _ => rfl)) pa_nil)) (pg_tup rfl (pgs_cons (pg_name (i := 6) sc_Program_init.nd rfl (Or.inl rfl)) (pgs_cons (pg_name (i := 7) sc_Program_init.nd rfl (Or.inl rfl)) pgs_nil)))
      (pss_one (ps_if (pt_not (pt_val (pe_callF G_is_instruction (hr.mono (by decide)) rfl T.g_is_instruction T.k_is_instruction pass0 (pa_cons (pv 0) (pa_cons (pv 5) (pa_cons (pv 7) pa_nil)))))) (pss_one (ps_raise rfl (takes_of rfl rfl rfl rfl) (pmk_oexF T.oc_BadProgram T.m_BadProgram_init T.mt_BadProgram_init G_BadProgram_init (hr.mono (by decide)) pass0 rfl T.g_BadProgram (pa_cons (pe_tup (pa_cons (pe_ix ix_tup (pv 5) pe_int (fun _ _ => rfl)) (pa_cons (pv 6) pa_nil))) (pa_cons pe_str pa_nil))))) pss_nil)))))
      (pss_one (ps_if (PW.pt (pw_or (pt_not (pt_val (pe_callF G_is_name (hr.mono (by decide)) rfl T.g_is_name T.k_is_name pass0 (pa_cons (pv 4) pa_nil)))) (pw_or (pt_cmp (pc_dnotin (hu_of hr) (pv 4) (pe_fld (pv 0) rfl))) (pw_or1 (pt_cmpR op_gt (pe_ix ix_tup (pe_dget (hu_of hr) (pe_fld (pv 0) rfl) (pv 4) (fun _ _ => rfl)) pe_int (fun _ _ => rfl)) pe_int (nomark _)))))) (pss_one (ps_raise rfl (takes_of rfl rfl rfl rfl) (pmk_oexF T.oc_BadProgram T.m_BadProgram_init T.mt_BadProgram_init G_BadProgram_init (hr.mono (by decide)) pass0 rfl T.g_BadProgram (pa_cons (pe_tup (pa_cons pe_non (pa_cons pe_non pa_nil))) (pa_cons pe_str pa_nil))))) pss_nil)))))))))))), ?_⟩
    have bad : ∀ {wd : Str} {H1 : Hp}, progD c l p t = some (none2, wd) → Keep (· = a) H H1 → ∀ {q : Addr}, H1 q = none → _ := fun {wd H1} e k {q} hq =>
      raise_bp (K := K) (ad := ad) (p := .ref q) (H1 := upd H1 q (.tup [.non, .non])) ((ke _ _ e).bad k) (same_new hq) (Dt.pair upd_same .non .non)
    have L2 : ∀ {q : Addr} {B : Prop}, B → (2 ≤ sizeLine ∧ B) := fun b => ⟨by decide, b⟩
    -- cells
    refine ⟨fun σ' H' => σ' = [some (.ref a), some vc, some vl, some vp, some vt, none, none, none] ∧ Same H H' ∧ cellsD c = true, ?_, ?_⟩
    · have e0 : cellsD c = false → progD c l p t = some (none2, ("cells" : Str)) := fun z => if_pos z
      refine ⟨_, rfl, vc, _, _, _, _, rfl, .ty _, hc.ty, k_tup c, _, rfl, itb (fun z => ?_) (fun z => ?_)⟩
      · have z' := bnot z
        exact iteT ⟨by show 2 ≤ sizeLine; decide, fun q hq => bad (e0 (by cases c <;> first | rfl | cases z')) (.refl _ _) hq⟩
      obtain ⟨cs, rfl⟩ := isT_ex (bnotF z)
      clear z
      obtain ⟨ca, xs, rfl, hs, hds⟩ := hc.tupV
      have hlen : (xs.length : Int) = (cs.length : Int) := by rw [hds.length]
      refine ⟨_, rfl, ca, xs, rfl, .inr hs, _, _, rfl, rfl, _, rfl, itd (fun z => ⟨_, _, rfl, rfl, _, rfl, itb (fun z2 => ?_) (fun z2 => ?_)⟩) (fun z => ⟨_, rfl, ?_⟩)⟩
      · have z3 : ¬ (cs.length ≤ 16) := fun y => by rw [decide_eq_true (by omega)] at z2; cases z2
        have e1 : cellsD (.tuple cs) = false := by
          show (decide (0 < cs.length) && (decide (cs.length ≤ 16) && cs.all wordD)) = false
          rw [decide_eq_false z3]; simp
        exact iteT ⟨by show 2 ≤ sizeLine; decide, fun q hq => bad (e0 e1) (.refl _ _) hq⟩
      · have z3 := of_decide_eq_true (bnotF z2)
        have ec : cellsD (.tuple cs) = cs.all wordD := by
          show (decide (0 < cs.length) && (decide (cs.length ≤ 16) && cs.all wordD)) = _
          rw [decide_eq_true (show 0 < cs.length by omega), decide_eq_true (show cs.length ≤ 16 by omega)]; rfl
        refine ⟨_, rfl, ca, rfl, ⟨xs, hs⟩, fun D hD => lc_it walk_tup (fun i H' => H D = none ∧ Same H H' ∧ H' D = some (.lst (((cs.take i).map wordD).map V.bl))) ⟨hD, same_new hD, upd_same⟩ (fun _ _ _ y => y.2.1.seqT hs) ?_ ?_⟩
        · rintro i x H1 H2 hi ⟨_, sm, hDl⟩ ⟨rfl, hx⟩
          obtain ⟨d, hd, dx'⟩ := hds.getV hx
          refine ⟨rfl, ?_⟩
          refine iteT (B := H D = none ∧ Same H H2 ∧ H2 D = some (.lst (((cs.take (i + 1)).map wordD).map V.bl))) ?_
          refine ⟨_, rfl, x, d, rfl, dx'.same sm, _, hDl, ?_, hD, fun b o eb => ?_, ?_⟩
          · rw [List.length_map, List.length_map, List.length_take]
            exact Nat.lt_of_le_of_lt (Nat.min_le_left _ _) (Nat.lt_of_lt_of_le (show i < 17 by omega) (by decide))
          · rw [upd_ne (ne_of_none eb hD)]
            exact sm b o eb
          · rw [take_snoc hd, List.map_append, List.map_append]
            exact upd_same
        · rintro H1 ⟨_, sm, hDl⟩
          rw [hds.length, List.take_length] at hDl
          refine ⟨D, _, rfl, SqL.of hDl, _, rfl, ?_⟩
          rw [show ((cs.map wordD).all id) = cellsD (.tuple cs) by rw [ec, List.all_map]; rfl]
          refine itb (fun z4 => ?_) (fun z4 => ?_)
          · exact ⟨by show 2 ≤ sizeLine; decide, fun q hq => bad (e0 (bnot z4)) (.of sm) hq⟩
          · exact ⟨rfl, sm, bnotF z4⟩
      · have e1 : cellsD (.tuple cs) = false := by
          show (decide (0 < cs.length) && (decide (cs.length ≤ 16) && cs.all wordD)) = false
          rw [decide_eq_false (show ¬ 0 < cs.length by omega)]; rfl
        exact iteT (iteT ⟨by show 2 ≤ sizeLine; decide, fun q hq => bad (e0 e1) (.refl _ _) hq⟩)
    rintro σ' H1 ⟨rfl, sm1, okc⟩
    -- locks
    refine ⟨fun σ' H' => σ' = [some (.ref a), some vc, some vl, some vp, some vt, none, none, none] ∧ H' = H1 ∧ inD 0 7 l = true, ?_, ?_⟩
    · have e0 : inD 0 7 l = false → progD c l p t = some (none2, ("locks" : Str)) := fun z => by
        unfold progD
        rw [if_neg (by rw [okc]; exact Bool.noConfusion), if_pos z]
      refine ⟨_, rfl, vl, l, rfl, hl.same sm1, _, rfl, itb (fun z => ?_) (fun z => ?_)⟩
      · exact iteT ⟨by show 2 ≤ sizeLine; decide, fun q hq => bad (e0 (inD_no (bnot z))) (.of sm1) hq⟩
      obtain ⟨n, rfl⟩ := whole_int (bnotF z)
      cases hl
      clear z
      refine ⟨_, rfl, _, _, rfl, rfl, _, rfl, itd (fun z => ⟨_, _, rfl, rfl, _, rfl, itb (fun z2 => ?_) (fun z2 => ?_)⟩) (fun z => ⟨_, rfl, iteT ?_⟩)⟩
      · have z3 : ¬ n < 7 := fun y => by rw [decide_eq_true (by omega)] at z2; cases z2
        exact ⟨by show 2 ≤ sizeLine; decide, fun q hq => bad (e0 (by rw [inD_int, decide_eq_false z3]; simp)) (.of sm1) hq⟩
      · have z3 := of_decide_eq_true (bnotF z2)
        exact ⟨rfl, rfl, by rw [inD_int, decide_eq_true z, decide_eq_true (by omega)]; rfl⟩
      · exact ⟨by show 2 ≤ sizeLine; decide, fun q hq => bad (e0 (by rw [inD_int, decide_eq_false z]; rfl)) (.of sm1) hq⟩
    rintro σ' H2 ⟨rfl, rfl, okl⟩
    -- procs
    refine ⟨fun σ' H' => σ' = [some (.ref a), some vc, some vl, some vp, some vt, none, none, none] ∧ H' = H2 ∧ lenD p = true, ?_, ?_⟩
    · have e0 : lenD p = false → progD c l p t = some (none2, ("procs" : Str)) := fun z => by
        unfold progD
        rw [if_neg (by rw [okc]; exact Bool.noConfusion), if_neg (by rw [okl]; exact Bool.noConfusion), if_pos z]
      have hp := hp.same sm1
      refine ⟨_, rfl, vp, _, _, _, _, rfl, .ty _, hp.ty, k_tup p, _, rfl, itb (fun z => ?_) (fun z => ?_)⟩
      · have z' := bnot z
        exact iteT ⟨by show 2 ≤ sizeLine; decide, fun q hq => bad (e0 (by cases p <;> first | rfl | cases z')) (.of sm1) hq⟩
      obtain ⟨ds, rfl⟩ := isT_ex (bnotF z)
      clear z
      obtain ⟨pa, xs, rfl, hs, hds⟩ := hp.tupV
      have hlen : (xs.length : Int) = (ds.length : Int) := by rw [hds.length]
      refine ⟨_, rfl, pa, xs, rfl, .inr hs, _, _, rfl, rfl, _, rfl, itd (fun z => ⟨_, _, rfl, rfl, _, rfl, itb (fun z2 => ?_) (fun z2 => ?_)⟩) (fun z => ⟨_, rfl, iteT ?_⟩)⟩
      · have z3 : ¬ (ds.length ≤ 12) := fun y => by rw [decide_eq_true (by omega)] at z2; cases z2
        have e1 : lenD (.tuple ds) = false := by
          show (decide (0 < ds.length) && decide (ds.length ≤ 12)) = false
          rw [decide_eq_false z3]; simp
        exact ⟨by show 2 ≤ sizeLine; decide, fun q hq => bad (e0 e1) (.of sm1) hq⟩
      · have z3 := of_decide_eq_true (bnotF z2)
        refine ⟨rfl, rfl, ?_⟩
        show (decide (0 < ds.length) && decide (ds.length ≤ 12)) = true
        rw [decide_eq_true (show 0 < ds.length by omega), decide_eq_true (show ds.length ≤ 12 by omega)]; rfl
      · have e1 : lenD (.tuple ds) = false := by
          show (decide (0 < ds.length) && decide (ds.length ≤ 12)) = false
          rw [decide_eq_false (show ¬ 0 < ds.length by omega)]; rfl
        exact ⟨by show 2 ≤ sizeLine; decide, fun q hq => bad (e0 e1) (.of sm1) hq⟩
    rintro σ' H3 ⟨rfl, rfl, okp⟩
    obtain ⟨cs, rfl⟩ : ∃ cs, c = .tuple cs := by cases c <;> first | exact ⟨_, rfl⟩ | cases okc
    obtain ⟨L, rfl⟩ : ∃ L, l = .int L := by cases l <;> first | exact ⟨_, rfl⟩ | cases okl
    obtain ⟨ds, rfl⟩ : ∃ ds, p = .tuple ds := by cases p <;> first | exact ⟨_, rfl⟩ | cases okp
    have eP : progD (.tuple cs) (.int L) (.tuple ds) t = procsD cs.length L ds t := by
      unfold progD
      rw [if_neg (by rw [okc]; exact Bool.noConfusion), if_neg (by rw [okl]; exact Bool.noConfusion), if_neg (by rw [okp]; exact Bool.noConfusion)]
      rfl
    cases hl
    obtain ⟨pa, xs, rfl, hs0, hds0⟩ := hp.tupV
    have hlenD := okp
    clear okc okl okp
    -- the fields
    have ha3 := sm1 _ _ ha
    refine ⟨_, rfl, _, rfl, a, ad.C_Program, dx, _, rfl, ha3, T.cl_Program, T.no_Program_cells, (by show 0 < 1000; decide), ?_⟩
    refine ⟨_, rfl, _, rfl, a, ad.C_Program, dx, _, rfl, upd_same, T.cl_Program, T.no_Program_locks, (by show 1 < 1000; decide), ?_⟩
    refine ⟨_, rfl, _, rfl, a, ad.C_Program, dx, _, rfl, upd_same, T.cl_Program, T.no_Program_procs, (by show 2 < 1000; decide), ?_⟩
    refine ⟨_, rfl, _, rfl, a, ad.C_Program, dx, _, rfl, upd_same, T.cl_Program, T.no_Program_start, (by show 3 < 1000; decide), ?_⟩
    refine ⟨fun σ' H' => ∃ b, σ' = [some (.ref a), some vc, some (.int L), some (.ref pa), some vt, none, none, none] ∧ Keep (· = a) H H' ∧ PgAt K H' No ad.C_Program a b vc (.int L) (.ref pa) vt [] ∧ H b = none, ?_, ?_⟩
    · intro b hb
      have nba : b ≠ a := fun z => by rw [z, upd_same] at hb; cases hb
      have hbH : H b = none := by
        rw [upd_ne nba, upd_ne nba, upd_ne nba, upd_ne nba] at hb
        exact sm1.free hb
      refine ⟨_, rfl, a, ad.C_Program, dx, _, rfl, by rw [upd_ne nba.symm]; exact upd_same, T.cl_Program, T.no_Program_by, (by show 4 < 1000; decide), ?_⟩
      exact ⟨b, rfl, keep_upd (fun x o hx nx => by rw [upd_ne (ne_of_none hx hbH), upd_ne nx, upd_ne nx, upd_ne nx, upd_ne nx]; exact sm1 x o hx), ⟨⟨dx, upd_same⟩, by rw [upd_ne nba]; exact upd_same, fun z => z, fun z => z⟩, hbH⟩
    rintro σ' HF ⟨b, rfl, k0, pg0, hbH⟩
    have hsA : ∀ {H' : Hp}, Keep (· = a) H H' → SqT K H' pa xs := fun k => keep_sqT k ha hs0
    have hdA : ∀ {H' : Hp} {v : V} {d : PyData}, Keep (· = a) H H' → Dt K H v d → Dt K H' v d := fun k h => keep_dt k ha h
    have prA : ∀ {H' : Hp} {names : List (Str × V)}, Keep (· = a) H H' → PgAt K H' No ad.C_Program a b vc (.int L) (.ref pa) vt names → PrAt K H' ad.C_Program a b cs (.int L) names := fun k g => by
      obtain ⟨⟨dx', o1⟩, o2, _, _⟩ := g
      exact ⟨⟨dx', _, vc, .int L, o1, by rfl, by rfl, by rfl, hdA k hc, .int L, by show 5 ≤ 5; decide⟩, o2⟩
    have hxl : xs.length = ds.length := hds0.length
    -- the first loop
    refine ⟨_, rfl, pa, rfl, ⟨xs, hsA k0⟩, for_it walk_tup (fun i σ H' => ∃ (s5 : Option V) (names : List (Str × V)), σ = [some (.ref a), some vc, some (.int L), some (.ref pa), some vt, s5, none, none] ∧ Keep (· = a) H H' ∧
      PgAt K H' No ad.C_Program a b vc (.int L) (.ref pa) vt names ∧ Names K H' names (ds.take i) ∧ lookAll [] (ds.take i) = none)
      ⟨none, [], rfl, k0, pg0, .nil, rfl⟩ (fun _ _ _ _ ⟨_, _, _, k, _⟩ => hsA k) ?_ ?_⟩
    · rintro i x σ H4 H5 hi ⟨s5, names, rfl, k4, g4, n4, l4⟩ ⟨rfl, hx⟩
      obtain ⟨d, hd, dv⟩ := hds0.getV hx
      have dv4 := hdA k4 dv
      have split : ds = ds.take i ++ d :: ds.drop (i + 1) := by
        have := List.take_append_drop i ds
        rw [List.drop_eq_getElem_cons (List.getElem?_eq_some_iff.mp hd).1, (List.getElem?_eq_some_iff.mp hd).2] at this
        exact this.symm
      refine ⟨_, rfl, _, rfl, a, b, x, d, cs, .int L, names, rfl, prA k4 g4, dv4, ?_, fun hn H6 sm6 => ?_, fun pl wd he => ?_⟩
      · intro y r e
        have h1 : Sh d := Shs.get (show Shs ds from shp) hd
        rw [e] at h1
        exact Sh.short h1.1
      · rw [n4.fst] at hn
        obtain ⟨n, pi, pj, code, rfl, hnm, hnew, _⟩ := look_none hn
        obtain ⟨xa, ys, rfl, hys, hyd⟩ := (dv4.same sm6).tupV
        obtain ⟨y0, e0, g0'⟩ := hyd.get (i := 0) rfl
        cases g0'
        have k6 := k4.trans (.of sm6)
        obtain ⟨⟨dx', o1⟩, o2, _, _⟩ := g4
        have hnew' : ¬ n ∈ names.map (·.1) := by rw [n4.fst]; exact hnew
        refine ⟨_, rfl, _, rfl, a, ad.C_Program, dx', _, _, rfl, sm6 _ _ o1, T.cl_Program, T.no_Program_by, (by rfl), _, rfl, xa, ys, 0, _, rfl, rfl, hys, at_of (j := 0) rfl e0, b, _, rfl, DPut.k (k := Sum.inr n) (sm6 _ _ o2) ?_, ?_⟩
        · have := congrArg List.length n4.fst
          rw [List.length_map, List.length_map, List.length_take] at this
          rw [List.length_map]
          refine Nat.lt_of_le_of_lt (show names.length ≤ i by rw [this]; exact Nat.min_le_left _ _) (Nat.lt_of_lt_of_le hi ?_)
          rw [hxl]
          exact Nat.le_trans (lenD_le hlenD) (by decide)
        · rw [putK_new hnew', take_snoc hd]
          have smB : ∀ {v : V} {d : PyData}, Dt K H6 v d → ∀ {q}, Dt K (upd H6 b (.dK q)) v d := fun {v d} h {q} => dt_upd (sm6 _ _ o2) h
          refine ⟨some (.ref xa), names ++ [(n, .ref xa)], rfl, ?_, ⟨⟨dx', by rw [upd_ne (ne_of o1 o2 (by intro z; cases z))]; exact sm6 _ _ o1⟩, upd_same, fun z => z, fun z => z⟩, ?_, ?_⟩
          · intro y o hy ny
            rw [upd_ne (ne_of_none hy hbH)]
            exact k6 y o hy ny
          · exact Names.snoc (d := .tuple [.str n, .int pi, .int pj, .tuple code]) ⟨n4.fst, dts_upd (sm6 _ _ o2) (n4.snd.same sm6)⟩ (smB (dv4.same sm6))
          · rw [lookAll_app l4]
            show lookAll ([] ++ (ds.take i).map procName) [_] = none
            rw [List.nil_append]
            show (match lookD ((ds.take i).map procName) _ with | some e => some e | none => lookAll _ []) = none
            rw [hn]; rfl
      · rw [n4.fst] at he
        refine (ke pl wd ?_).bad k4
        rw [eP]
        have e1 : lookAll [] ds = some (pl, wd) := by
          rw [split, lookAll_app l4, List.nil_append]
          show (match lookD ((ds.take i).map procName) d with | some e => some e | none => _) = _
          rw [he]
        unfold procsD
        rw [e1]
    rintro σ H4 ⟨s5, names, rfl, k4, g4, n4, l4⟩
    rw [hxl, List.take_length] at n4 l4
    -- the second loop
    have nmE : names.map (·.1) = ds.map procName := n4.fst
    refine ⟨_, rfl, pa, rfl, ⟨xs, hsA k4⟩, for_it walk_tup (fun i σ H' => ∃ (s5 s6 s7 : Option V), σ = [some (.ref a), some vc, some (.int L), some (.ref pa), some vt, s5, s6, s7] ∧ Same H4 H' ∧
      codeAll cs.length L (ds.map procName) (ds.take i) = none)
      ⟨s5, none, none, rfl, (fun _ _ e => e), rfl⟩ (fun _ _ _ _ ⟨_, _, _, _, k, _⟩ => hsA (k4.trans (.of k))) ?_ ?_⟩
    · rintro i x σ H5 H6 hi ⟨s5', s6, s7, rfl, sm5, c5⟩ ⟨rfl, hx⟩
      obtain ⟨d, hd, dv⟩ := hds0.getV hx
      have k5 := k4.trans (.of sm5)
      have dv5 := hdA k5 dv
      obtain ⟨nn, hnn⟩ := lookAll_get l4 hd
      have split : ds = ds.take i ++ d :: ds.drop (i + 1) := by
        have := List.take_append_drop i ds
        rw [List.drop_eq_getElem_cons (List.getElem?_eq_some_iff.mp hd).1, (List.getElem?_eq_some_iff.mp hd).2] at this
        exact this.symm
      have shd : Sh d := Shs.get (show Shs ds from shp) hd
      obtain ⟨n, pi, pj, code, rfl, hnm, _⟩ := look_none hnn
      obtain ⟨xa, ys, rfl, hys, hyd⟩ := dv5.tupV
      obtain ⟨y0, e0, g0'⟩ := hyd.get (i := 0) rfl
      obtain ⟨y3, e3, g3⟩ := hyd.get (i := 3) rfl
      cases g0'
      obtain ⟨ca, zs, rfl, hzs, hzd⟩ := g3.tupV
      have hzl := hzd.length
      have pr5 := prA k5 ⟨⟨_, sm5 _ _ g4.ob.choose_spec⟩, sm5 _ _ g4.by_, g4.na, g4.nb⟩
      refine ⟨_, rfl, xa, ys, 3, _, rfl, rfl, hys, at_of (j := 3) rfl e3, ca, zs, rfl, hzs, for_it walk_en (fun k σ H' => ∃ (s6 s7 : Option V), σ = [some (.ref a), some vc, some (.int L), some (.ref pa), some vt, some (.ref xa), s6, s7] ∧ Same H6 H' ∧
        codeBad ⟨cs.length, L, pi + pj, code.length, ds.map procName⟩ n 0 (code.take k) = none)
        ⟨s6, s7, rfl, (fun _ _ e => e), rfl⟩ (fun _ _ _ _ ⟨_, _, _, k, _⟩ => k.seqT hzs) ?_ ?_⟩
      · rintro k v σ H8 H9 hk ⟨s6', s7', rfl, sm6, c6⟩ ⟨q, xx, yy, rfl, hq, rfl, ex, ey⟩
        cases ex
        obtain ⟨op, hop, dop⟩ := hzd.getV ey
        have sm7 : Same H6 (upd H8 q (.tup [.int (k : Nat), yy])) := sm6.trans (same_new hq)
        refine ⟨q, [.int (k : Nat), yy], rfl, SqT.of upd_same, rfl, _, _, rfl, _, _, rfl, rfl, ?_⟩
        refine ⟨_, rfl, _, rfl, _, rfl, a, b, .ref xa, yy, n, pi, pj, L, op, cs, code, names, rfl, pr5.same sm7, dv5.same sm7, dop.same sm7, ?_, fun H10 sm8 => ⟨_, rfl, itb (fun z => ?_) (fun z => ?_)⟩⟩
        · intro x y r e
          have h1 : Sh (.tuple code) := shd.2.2.2.1
          have h2 := Shs.get (show Shs code from h1) hop
          rw [e] at h2
          exact Sh.short h2.2.1
        · have z' := bnot z
          rw [nmE] at z'
          refine ⟨_, rfl, xa, ys, 0, _, rfl, rfl, (sm7.trans sm8).seqT hys, at_of (j := 0) rfl e0, _, rfl, by show 2 ≤ sizeLine; decide, fun l hl => ?_⟩
          have hke : progD (.tuple cs) (.int L) (.tuple ds) t = some (PyData.tuple [.str n, .int (k : Nat)], ("instruction" : Str)) := by
            rw [eP]
            unfold procsD
            rw [l4]
            have e1 : codeAll cs.length L (ds.map procName) ds = some (PyData.tuple [.str n, .int (k : Nat)], ("instruction" : Str)) := by
              have e2 : code = code.take k ++ op :: code.drop (k + 1) := by
                have := List.take_append_drop k code
                rw [List.drop_eq_getElem_cons (List.getElem?_eq_some_iff.mp hop).1, (List.getElem?_eq_some_iff.mp hop).2] at this
                exact this.symm
              have e3 : codeBad ⟨cs.length, L, pi + pj, code.length, ds.map procName⟩ n 0 code = some (PyData.tuple [.str n, .int (k : Nat)], ("instruction" : Str)) := by
                have := codeBad_app (b := op :: code.drop (k + 1)) c6
                rw [← e2] at this
                rw [this, List.length_take, Nat.min_eq_left (Nat.le_of_lt (List.getElem?_eq_some_iff.mp hop).1), Nat.zero_add]
                exact if_neg (by rw [z']; exact Bool.noConfusion)
              have := codeAll_app (b := PyData.tuple [.str n, .int pi, .int pj, .tuple code] :: ds.drop (i + 1)) c5
              rw [← split] at this
              rw [this]
              show (match codeBad _ _ _ _ with | some e => some e | none => codeAll _ _ _ _) = _
              rw [show codeBad (bndOf cs.length L (ds.map procName) (.tuple [.str n, .int pi, .int pj, .tuple code])) (procName (.tuple [.str n, .int pi, .int pj, .tuple code])) 0 (procCode (.tuple [.str n, .int pi, .int pj, .tuple code])) = _ from e3]
            rw [e1]
          exact raise_bp (((ke _ _ hke).bad (k5.trans (.of (sm7.trans sm8))))) (same_new hl) (Dt.pair upd_same (.str n) (.int _))
        · have z' := bnotF z
          rw [nmE] at z'
          refine ⟨_, _, rfl, sm7.trans sm8, ?_⟩
          rw [take_snoc hop, codeBad_app c6]
          exact if_pos z'
      · rintro σ H9 ⟨s6', s7', rfl, sm6, c6⟩
        refine ⟨_, _, _, rfl, sm5.trans sm6, ?_⟩
        rw [hzl, List.take_length] at c6
        rw [take_snoc hd, codeAll_app c5]
        show (match codeBad _ _ _ _ with | some e => some e | none => codeAll _ _ _ _) = _
        rw [show codeBad (bndOf cs.length L (ds.map procName) (.tuple [.str n, .int pi, .int pj, .tuple code])) (procName (.tuple [.str n, .int pi, .int pj, .tuple code])) 0 (procCode (.tuple [.str n, .int pi, .int pj, .tuple code])) = _ from c6]
        rfl
    rintro σ H5 ⟨s5', s6, s7, rfl, sm5, c5⟩
    rw [hxl, List.take_length] at c5
    have k5 := k4.trans (.of sm5)
    have g5 : PgAt K H5 No ad.C_Program a b vc (.int L) (.ref pa) vt names := ⟨⟨_, sm5 _ _ g4.ob.choose_spec⟩, sm5 _ _ g4.by_, g4.na, g4.nb⟩
    have n5 := n4.same sm5
    have eS : progD (.tuple cs) (.int L) (.tuple ds) t = if startD ds t = true then none else some (none2, ("start" : Str)) := by
      rw [eP]
      unfold procsD
      rw [l4, c5]
    have ht5 := hdA k5 ht
    obtain ⟨dx5, o5⟩ := g5.ob
    have badS : startD ds t = false → progD (.tuple cs) (.int L) (.tuple ds) t = some (none2, ("start" : Str)) := fun z => by
      rw [eS, if_neg (by rw [z]; exact Bool.noConfusion)]
    have nmD : ∀ z, nameD t = z → nameD t = z := fun _ h => h
    refine ⟨_, rfl, vt, t, rfl, ht5, (fun y e => by rw [e] at sht; exact sht), fun H6 sm6 => ⟨_, rfl, itb (fun z => ?_) (fun z => ?_)⟩⟩
    · have z' := bnot z
      refine iteT ⟨by show 2 ≤ sizeLine; decide, fun q hq => bad (badS ?_) (k5.trans (.of sm6)) hq⟩
      cases t <;> first | rfl | skip
      have z' : nameS _ = false := z'
      show (nameS _ && _) = false
      rw [z']; rfl
    have z' := bnotF z
    obtain ⟨q, rfl⟩ : ∃ q, t = .str q := by cases t <;> first | exact ⟨_, rfl⟩ | cases z'
    have z' : nameS q = true := z'
    cases ht
    have eSt : startD ds (.str q) = (match ds.find? fun d => decide (procName d = q) with | some d => decide (procPar d ≤ 0) | none => false) := by
      show (nameS q && _) = _
      rw [z']; rfl
    have k6 := k5.trans (.of sm6)
    refine ⟨_, rfl, _, rfl, a, ad.C_Program, dx5, _, _, rfl, sm6 _ _ o5, T.cl_Program, T.no_Program_by, (by rfl), b, _, rfl, DGet.k (k := Sum.inr q) (sm6 _ _ g5.by_), _, rfl, ?_⟩
    have vf := valV_find (q := q) (n5.same sm6)
    cases hf : ds.find? fun d => decide (procName d = q) with
    | none =>
      rw [hf] at eSt
      rw [vf.2 hf]
      exact iteT (iteT ⟨by show 2 ≤ sizeLine; decide, fun q hq => bad (badS eSt) k6 hq⟩)
    | some d =>
      rw [hf] at eSt
      obtain ⟨v, ev, dv⟩ := vf.1 d hf
      rw [ev]
      obtain ⟨i, hi, hd⟩ := List.mem_iff_getElem.mp (List.mem_of_find?_eq_some hf)
      obtain ⟨nn, hnn⟩ := lookAll_get l4 (List.getElem?_eq_some_iff.mpr ⟨hi, hd⟩)
      obtain ⟨n, pi, pj, code, rfl, hnm, _⟩ := look_none hnn
      obtain ⟨xa, ys, rfl, hys, hyd⟩ := dv.tupV
      obtain ⟨y1, e1, g1⟩ := hyd.get (i := 1) rfl
      cases g1
      have dg : DGet H6 b (.str q) (some (.ref xa)) := by
        have := DGet.k (k := Sum.inr q) (sm6 _ _ g5.by_)
        rw [ev] at this
        exact this
      refine iteF ⟨_, rfl, a, ad.C_Program, dx5, _, _, rfl, sm6 _ _ o5, T.cl_Program, T.no_Program_by, (by rfl), _, rfl, b, _, rfl, dg, xa, ys, 1, _, rfl, rfl, hys, at_of (j := 1) rfl e1, _, _, rfl, rfl, _, rfl, ?_⟩
      refine itd (fun zp => ⟨by show 2 ≤ sizeLine; decide, fun q hq => bad (badS ?_) k6 hq⟩) (fun zp => ?_)
      · rw [eSt]
        exact decide_eq_false (show ¬ pi ≤ 0 by omega)
      · refine kn ?_ b H6 names k6 ⟨⟨dx5, sm6 _ _ o5⟩, sm6 _ _ g5.by_, g5.na, g5.nb⟩ (n5.same sm6) hbH
        rw [eS, if_pos]
        rw [eSt]
        exact decide_eq_true (show pi ≤ 0 by omega)
end
end My

set_option Elab.async false
set_option linter.all false
set_option maxRecDepth 100000
set_option maxHeartbeats 4000000
/-! ## A smaller world: a value is a datum or a known object; readings that compute -/
namespace My
open PySem L2
inductive MV where
  | i (d : PyData)
  | p (a : Addr)
inductive MO where
  | lst (xs : List MV)
  | dct (kvs : List (Key × MV))
  | ins (C dx : Addr) (fs : List (Str × MV))
abbrev MH := Addr → Option MO
def mset (h : MH) (a : Addr) (o : MO) : MH := fun b => if b = a then some o else h b
def mdel (h : MH) (a : Addr) : MH := fun b => if b = a then none else h b
theorem mset_same {h : MH} {a : Addr} {o : MO} : mset h a o a = some o := if_pos rfl
theorem mset_ne {h : MH} {a b : Addr} {o : MO} (n : b ≠ a) : mset h a o b = h b := if_neg n
/-- the objects that may change, and those set aside -/
def Ft (h : MH) (Y : Addr → Prop) : Addr → Prop := fun b => h b ≠ none ∨ Y b
abbrev Gam := List (Option MV)
@[simp] def lk : Gam → Nat → Option MV
  | [], _ => none
  | m :: _, 0 => m
  | _ :: r, n + 1 => lk r n
@[simp] def st : Gam → Nat → Option MV → Gam
  | [], _, _ => []
  | _ :: r, 0, m => m :: r
  | x :: r, n + 1, m => x :: st r n m
@[simp] def opt {α : Type} (o : Option α) (k : α → Prop) : Prop := match o with | some x => k x | none => False
theorem opt_ex {α : Type} {o : Option α} {k : α → Prop} (h : opt o k) : ∃ x, o = some x ∧ k x := by
  cases o with
  | none => exact h.elim
  | some x => exact ⟨x, rfl, h⟩
def VR (K : PySem.W.Frag) (H : Hp) (N : Addr → Prop) (v : V) : MV → Prop
  | .i d => DA K H N v d
  | .p a => v = .ref a
inductive VRs (K : PySem.W.Frag) (H : Hp) (N : Addr → Prop) : List V → List MV → Prop
  | nil : VRs K H N [] []
  | cons {v : V} {m : MV} {vs : List V} {ms : List MV} : VR K H N v m → VRs K H N vs ms → VRs K H N (v :: vs) (m :: ms)
def ObR (K : PySem.W.Frag) (H : Hp) (N : Addr → Prop) : HO → MO → Prop
  | .lst vs, .lst ms => VRs K H N vs ms
  | .dK kvs, .dct kms => kvs.map Prod.fst = kms.map Prod.fst ∧ VRs K H N (kvs.map Prod.snd) (kms.map Prod.snd)
  | .ins C dx fs, .ins C' dx' gs => C = C' ∧ dx = dx' ∧ fs.map Prod.fst = gs.map Prod.fst ∧ VRs K H N (fs.map Prod.snd) (gs.map Prod.snd)
  | _, _ => False
structure WR (K : PySem.W.Frag) (Y : Addr → Prop) (H : Hp) (h : MH) : Prop where
  ob : ∀ a o, h a = some o → ∃ u, H a = some u ∧ ObR K H (Ft h Y) u o
  ya : ∀ b, Y b → h b = none ∧ ∃ xs, H b = some (.lst xs)
/-- what was no known object stays as it was -/
def Ext (h : MH) (H : Hp) (h' : MH) (H' : Hp) : Prop := ∀ b u, H b = some u → h b = none → H' b = some u ∧ h' b = none
inductive EnvR (K : PySem.W.Frag) (H : Hp) (N : Addr → Prop) : St → Gam → Prop
  | nil : EnvR K H N [] []
  | val {v : V} {m : MV} {σ : St} {Γ : Gam} : VR K H N v m → EnvR K H N σ Γ → EnvR K H N (some v :: σ) (some m :: Γ)
  | skip {x : Option V} {σ : St} {Γ : Gam} : EnvR K H N σ Γ → EnvR K H N (x :: σ) (none :: Γ)
section
variable {K : PySem.W.Frag} {H H' H1 : Hp} {h h' h1 : MH} {Y : Addr → Prop} {N : Addr → Prop} {σ : St} {Γ : Gam}
theorem Ext.refl (h : MH) (H : Hp) : Ext h H h H := fun _ _ a b => ⟨a, b⟩
theorem Ext.trans (a : Ext h H h1 H1) (b : Ext h1 H1 h' H') : Ext h H h' H' := fun c u x y => by
  obtain ⟨p, q⟩ := a c u x y
  exact b c u p q
theorem Ext.same (s : Same H H') : Ext h H h H' := fun b u x y => ⟨s b u x, y⟩
theorem Ft.not {b : Addr} (n : ¬ Ft h Y b) : h b = none ∧ ¬ Y b := by
  refine ⟨?_, fun z => n (.inr z)⟩
  cases e : h b with
  | none => rfl
  | some o => exact absurd (.inl (by rw [e]; exact Option.some_ne_none o)) n
theorem Ft.mk {b : Addr} (e : h b = none) (y : ¬ Y b) : ¬ Ft h Y b := fun z => z.elim (fun q => q e) y
theorem VR.ext {v : V} {m : MV} (e : Ext h H h' H') (q : VR K H (Ft h Y) v m) : VR K H' (Ft h' Y) v m := by
  cases m with
  | p a => exact q
  | i d => exact DA.mono (fun b o x n => (e b o x (Ft.not n).1).1) (fun b o x n => Ft.mk (e b o x (Ft.not n).1).2 (Ft.not n).2) q
theorem VRs.ext (e : Ext h H h' H') : ∀ {vs : List V} {ms : List MV}, VRs K H (Ft h Y) vs ms → VRs K H' (Ft h' Y) vs ms
  | _, _, .nil => .nil
  | _, _, .cons a s => .cons (VR.ext e a) (VRs.ext e s)
theorem EnvR.ext (e : Ext h H h' H') : ∀ {σ : St} {Γ : Gam}, EnvR K H (Ft h Y) σ Γ → EnvR K H' (Ft h' Y) σ Γ
  | _, _, .nil => .nil
  | _, _, .val a s => .val (VR.ext e a) (EnvR.ext e s)
  | _, _, .skip s => .skip (EnvR.ext e s)
theorem ObR.ext {u : HO} {o : MO} (e : Ext h H h' H') (q : ObR K H (Ft h Y) u o) : ObR K H' (Ft h' Y) u o := by
  cases u <;> cases o <;> first | exact q.elim | skip
  · exact VRs.ext e q
  · exact ⟨q.1, VRs.ext e q.2⟩
  · exact ⟨q.1, q.2.1, q.2.2.1, VRs.ext e q.2.2.2⟩
theorem EnvR.get : ∀ {σ : St} {Γ : Gam} {n : Nat} {m : MV}, EnvR K H N σ Γ → lk Γ n = some m → ∃ v, σ[n]? = some (some v) ∧ VR K H N v m
  | _, _, _, _, .nil, q => by cases q
  | _, _, 0, _, .val a _, q => by cases q; exact ⟨_, rfl, a⟩
  | _, _, n + 1, _, .val _ s, q => by simpa using EnvR.get (n := n) s q
  | _, _, 0, _, .skip _, q => by cases q
  | _, _, n + 1, _, .skip s, q => by simpa using EnvR.get (n := n) s q
theorem EnvR.set {v : V} {m : MV} (a : VR K H N v m) : ∀ {σ : St} {Γ : Gam} {n : Nat}, EnvR K H N σ Γ → EnvR K H N (σ.set n (some v)) (st Γ n (some m))
  | _, _, _, .nil => .nil
  | _, _, 0, .val _ s => .val a s
  | _, _, n + 1, .val b s => .val b (EnvR.set a (n := n) s)
  | _, _, 0, .skip s => .val a s
  | _, _, n + 1, .skip s => .skip (EnvR.set a (n := n) s)
theorem EnvR.del {x : Option V} : ∀ {σ : St} {Γ : Gam} {n : Nat}, EnvR K H N σ Γ → EnvR K H N (σ.set n x) (st Γ n none)
  | _, _, _, .nil => .nil
  | _, _, 0, .val _ s => .skip s
  | _, _, n + 1, .val b s => .val b (EnvR.del (n := n) s)
  | _, _, 0, .skip s => .skip s
  | _, _, n + 1, .skip s => .skip (EnvR.del (n := n) s)
theorem EnvR.start : ∀ {vs : List V} {ms : List MV} (k : Nat), VRs K H N vs ms → EnvR K H N (vs.map some ++ List.replicate k none) (ms.map some ++ List.replicate k none)
  | _, _, 0, .nil => .nil
  | _, _, k + 1, .nil => .skip (EnvR.start (vs := []) (ms := []) k .nil)
  | _, _, k, .cons a s => .val a (EnvR.start k s)
theorem VRs.length : ∀ {vs : List V} {ms : List MV}, VRs K H N vs ms → vs.length = ms.length
  | _, _, .nil => rfl
  | _, _, .cons _ s => by rw [List.length_cons, List.length_cons, VRs.length s]
theorem VRs.get : ∀ {vs : List V} {ms : List MV} {i : Nat} {m : MV}, VRs K H N vs ms → ms[i]? = some m → ∃ v, vs[i]? = some v ∧ VR K H N v m
  | _, _, _, _, .nil, q => by simp at q
  | _, _, 0, _, .cons a _, q => by cases q; exact ⟨_, rfl, a⟩
  | _, _, i + 1, _, .cons _ s, q => by simpa using VRs.get (i := i) s (by simpa using q)
theorem VRs.append : ∀ {vs ws : List V} {ms ns : List MV}, VRs K H N vs ms → VRs K H N ws ns → VRs K H N (vs ++ ws) (ms ++ ns)
  | _, _, _, _, .nil, b => b
  | _, _, _, _, .cons a s, b => .cons a (VRs.append s b)
theorem VRs.set {v : V} {m : MV} (a : VR K H N v m) : ∀ {vs : List V} {ms : List MV} (i : Nat), VRs K H N vs ms → VRs K H N (vs.set i v) (ms.set i m)
  | _, _, _, .nil => .nil
  | _, _, 0, .cons _ s => .cons a s
  | _, _, i + 1, .cons b s => .cons b (VRs.set a i s)
theorem VRs.atI {vs : List V} {ms : List MV} {z : Int} {m : MV} (s : VRs K H N vs ms) (q : atI ms z = some m) : ∃ v, atI vs z = some v ∧ VR K H N v m := by
  unfold L2.atI at q ⊢
  rw [s.length]
  cases e : ixN ms.length z with
  | none => rw [e] at q; cases q
  | some j => rw [e] at q; exact s.get q
theorem DAs.atI {vs : List V} {ds : List PyData} {z : Int} {d : PyData} (s : DAs K H N vs ds) (q : atI ds z = some d) : ∃ v, atI vs z = some v ∧ DA K H N v d := by
  unfold L2.atI at q ⊢
  rw [s.length]
  cases e : ixN ds.length z with
  | none => rw [e] at q; cases q
  | some j => rw [e] at q; exact s.get q
theorem WR.new (w : WR K Y H h) {l : Addr} (e : H l = none) : ¬ Ft h Y l := by
  refine Ft.mk ?_ fun y => ?_
  · cases q : h l with
    | none => rfl
    | some o => obtain ⟨u, x, _⟩ := w.ob l o q; rw [e] at x; cases x
  · obtain ⟨_, u, x⟩ := w.ya l y
    rw [e] at x; cases x
theorem WR.same (w : WR K Y H h) (s : Same H H') : WR K Y H' h := by
  refine ⟨fun a o q => ?_, fun b y => ?_⟩
  · obtain ⟨u, x, r⟩ := w.ob a o q
    exact ⟨u, s a u x, r.ext (.same s)⟩
  · obtain ⟨z, u, x⟩ := w.ya b y
    exact ⟨z, u, s b _ x⟩
theorem Ext.put {a : Addr} {o : MO} {u : HO} (q : h a ≠ none ∨ H a = none) : Ext h H (mset h a o) (upd H a u) := fun b x e n => by
  have hb : b ≠ a := fun z => by
    subst z
    rcases q with q | q
    · exact q n
    · rw [q] at e; cases e
  rw [upd_ne hb, mset_ne hb]
  exact ⟨e, n⟩
theorem WR.put (w : WR K Y H h) {a : Addr} {o : MO} {u : HO} (q : h a ≠ none ∨ H a = none) (r : ObR K (upd H a u) (Ft (mset h a o) Y) u o) : WR K Y (upd H a u) (mset h a o) := by
  have e : Ext h H (mset h a o) (upd H a u) := .put q
  refine ⟨fun b x z => ?_, fun b y => ?_⟩
  · by_cases hb : b = a
    · subst hb
      rw [mset_same] at z
      cases z
      exact ⟨u, upd_same, r⟩
    · rw [mset_ne hb] at z
      obtain ⟨y, z1, z2⟩ := w.ob b x z
      exact ⟨y, by rw [upd_ne hb]; exact z1, z2.ext e⟩
  · obtain ⟨z, x, z1⟩ := w.ya b y
    obtain ⟨z2, z3⟩ := e b _ z1 z
    exact ⟨z3, x, z2⟩
end
/-! ### readings -/
structure Ex where
  (cls : Value) (fs : List (Str × PyData))
abbrev GX := MH → Ex → Prop
abbrev GE := MH → Gam → (MH → MV → Prop) → GX → Prop
abbrev GT := MH → Gam → (MH → Bool → Prop) → GX → Prop
abbrev GA := MH → Gam → (MH → List MV → Prop) → GX → Prop
abbrev GS := MH → Gam → (MH → Gam → Prop) → (MH → MV → Prop) → GX → Prop
abbrev GF := MH → List MV → (MH → MV → Prop) → GX → Prop
def XR (K : PySem.W.Frag) (H : Hp) (N : Addr → Prop) (x : Ex) (cls : Value) (d : Option Addr) : Prop :=
  cls = x.cls ∧ (x.fs = [] ∨ ∃ dd fs, d = some dd ∧ H dd = some (.xd fs) ∧ fs.map Prod.fst = x.fs.map Prod.fst ∧ DAs K H No (fs.map Prod.snd) (x.fs.map Prod.snd))
def XW (K : PySem.W.Frag) (Y : Addr → Prop) (h : MH) (H : Hp) (ex : GX) (W : WX) (σ : St) : Prop :=
  ∀ h' x cls d H', ex h' x → Ext h H h' H' → WR K Y H' h' → XR K H' (Ft h' Y) x cls d → W cls d σ H'
theorem XW.ext {K : PySem.W.Frag} {Y : Addr → Prop} {h h1 : MH} {H H1 : Hp} {ex : GX} {W : WX} {σ : St} (a : XW K Y h H ex W σ) (e : Ext h H h1 H1) : XW K Y h1 H1 ex W σ := fun h' x cls d H' q e' w r => a h' x cls d H' q (e.trans e') w r
def tG (K : PySem.W.Frag) (W : WX) (g : GE) : TE := fun σ H Q => ∃ (Y : Addr → Prop) (h : MH) (Γ : Gam) (nx : MH → MV → Prop) (ex : GX), WR K Y H h ∧ EnvR K H (Ft h Y) σ Γ ∧ g h Γ nx ex ∧
  (∀ h' m v H', nx h' m → Ext h H h' H' → WR K Y H' h' → VR K H' (Ft h' Y) v m → Q v H') ∧ XW K Y h H ex W σ
def tGT (K : PySem.W.Frag) (W : WX) (g : GT) : TT := fun σ H Q => ∃ (Y : Addr → Prop) (h : MH) (Γ : Gam) (nx : MH → Bool → Prop) (ex : GX), WR K Y H h ∧ EnvR K H (Ft h Y) σ Γ ∧ g h Γ nx ex ∧
  (∀ h' b H', nx h' b → Ext h H h' H' → WR K Y H' h' → Q b H') ∧ XW K Y h H ex W σ
def tGA (K : PySem.W.Frag) (W : WX) (n : Nat) (g : GA) : TA := fun σ H Q => ∃ (Y : Addr → Prop) (h : MH) (Γ : Gam) (nx : MH → List MV → Prop) (ex : GX), WR K Y H h ∧ EnvR K H (Ft h Y) σ Γ ∧ g h Γ nx ex ∧
  (∀ h' ms vs H', nx h' ms → ms.length = n → Ext h H h' H' → WR K Y H' h' → VRs K H' (Ft h' Y) vs ms → Q vs H') ∧ XW K Y h H ex W σ
def tGS (K : PySem.W.Frag) (W : WX) (g : GS) : TS := fun D σ H => ∃ (Y : Addr → Prop) (h : MH) (Γ : Gam) (nx : MH → Gam → Prop) (rt : MH → MV → Prop) (ex : GX), WR K Y H h ∧ EnvR K H (Ft h Y) σ Γ ∧ g h Γ nx rt ex ∧
  (∀ h' Γ' σ' H', nx h' Γ' → Ext h H h' H' → WR K Y H' h' → EnvR K H' (Ft h' Y) σ' Γ' → D.nx σ' H') ∧
  (∀ h' m v H', rt h' m → Ext h H h' H' → WR K Y H' h' → VR K H' (Ft h' Y) v m → D.rt v H') ∧ (∀ σ', XW K Y h H ex W σ')
/-- a def's promise -/
def spG (K : PySem.W.Frag) (n : Nat) (F : GF) : Sp := fun vs H Q E => ∃ (Y : Addr → Prop) (h : MH) (ms : List MV) (nx : MH → MV → Prop) (ex : GX), ms.length = n ∧ WR K Y H h ∧ VRs K H (Ft h Y) vs ms ∧ F h ms nx ex ∧
  (∀ h' m v H', nx h' m → Ext h H h' H' → WR K Y H' h' → VR K H' (Ft h' Y) v m → Q v H') ∧
  (∀ h' x cls d H', ex h' x → Ext h H h' H' → WR K Y H' h' → XR K H' (Ft h' Y) x cls d → E cls d H')
/-! ### the parts -/
@[simp] def gC (d : PyData) : GE := fun h _ nx _ => nx h (.i d)
@[simp] def gV (n : Nat) : GE := fun h Γ nx _ => opt (lk Γ n) (nx h)
@[simp] def allI : List MV → Option (List PyData)
  | [] => some []
  | .i d :: r => (allI r).map (d :: ·)
  | .p _ :: _ => none
/-- a datum, or a known list of data seen as one -/
@[simp] def asD (h : MH) : MV → Option PyData
  | .i d => some d
  | .p a => match h a with
    | some (.lst ms) => (allI ms).map .list
    | _ => none
def VW (K : PySem.W.Frag) (H : Hp) (N : Addr → Prop) (v : V) (d : PyData) : Prop :=
  DA K H N v d ∨ ∃ a xs ds, v = .ref a ∧ d = .list ds ∧ H a = some (.lst xs) ∧ DAs K H N xs ds
section
variable {K : PySem.W.Frag} {H H' H1 : Hp} {h h' h1 : MH} {Y : Addr → Prop} {N : Addr → Prop} {σ : St} {Γ : Gam}
theorem VRs.all : ∀ {vs : List V} {ms : List MV} {ds : List PyData}, VRs K H N vs ms → allI ms = some ds → DAs K H N vs ds
  | _, _, _, .nil, q => by cases q; exact .nil
  | _, _, ds, .cons (m := .i d) (ms := r) a s, q => by
    have q : (allI r).map (d :: ·) = some ds := q
    cases e : allI r with
    | none => rw [e] at q; cases q
    | some es => rw [e] at q; cases q; exact .cons a (VRs.all s e)
  | _, _, _, .cons (m := .p _) _ _, q => by cases q
theorem VR.asD (w : WR K Y H h) {v : V} {m : MV} {d : PyData} (r : VR K H (Ft h Y) v m) (q : asD h m = some d) : VW K H (Ft h Y) v d := by
  cases m with
  | i e => cases q; exact .inl r
  | p a =>
    have q : (match h a with | some (.lst ms) => (allI ms).map PyData.list | _ => none) = some d := q
    cases e : h a with
    | none => rw [e] at q; cases q
    | some o =>
      rw [e] at q
      cases o with
      | lst ms =>
        have q : (allI ms).map PyData.list = some d := q
        cases z : allI ms with
        | none => rw [z] at q; cases q
        | some ds =>
          rw [z] at q
          cases q
          obtain ⟨u, x, y⟩ := w.ob a _ e
          cases u <;> first | exact y.elim | skip
          exact .inr ⟨a, _, ds, r, rfl, x, VRs.all y z⟩
      | _ => cases q
theorem VW.dp {v : V} {d : PyData} (q : VW K H N v d) : Dp K H v d := by
  rcases q with q | ⟨a, xs, ds, rfl, rfl, e, s⟩
  · exact q.dp
  · exact .lst (SqL.of e) s.dp
theorem VW.intV {v : V} {n : Int} (q : VW K H N v (.int n)) : v = .int n := by
  rcases q with q | ⟨_, _, _, _, e, _⟩
  · exact q.intV
  · cases e
theorem VW.strV {v : V} {n : Str} (q : VW K H N v (.str n)) : v = .str n := by
  rcases q with q | ⟨_, _, _, _, e, _⟩
  · exact q.strV
  · cases e
theorem VW.boolV {v : V} {n : Bool} (q : VW K H N v (.bool n)) : v = .bl n := by
  rcases q with q | ⟨_, _, _, _, e, _⟩
  · exact q.boolV
  · cases e
theorem VW.noneV {v : V} (q : VW K H N v .none) : v = .non := by
  rcases q with q | ⟨_, _, _, _, e, _⟩
  · exact q.noneV
  · cases e
theorem VW.tupV {v : V} {ds : List PyData} (q : VW K H N v (.tuple ds)) : ∃ a xs, v = .ref a ∧ SqT K H a xs ∧ DAs K H N xs ds := by
  rcases q with q | ⟨_, _, _, _, e, _⟩
  · exact q.tupV
  · cases e
theorem VW.lstV {v : V} {ds : List PyData} (q : VW K H N v (.list ds)) : ∃ a xs, v = .ref a ∧ H a = some (.lst xs) ∧ DAs K H N xs ds := by
  rcases q with q | ⟨a, xs, es, e1, e2, e3, e4⟩
  · obtain ⟨a, xs, e1, e2, _, e3⟩ := q.lstV
    exact ⟨a, xs, e1, e2, e3⟩
  · cases e2
    exact ⟨a, xs, e1, e3, e4⟩
end
/-- between two values -/
@[simp] def kOp (f : PyData → PyData → Option PyData) (h : MH) (m1 m2 : MV) (k : MV → Prop) : Prop :=
  opt (asD h m1) fun x => opt (asD h m2) fun y => opt (f x y) fun z => k (.i z)
@[simp] def gOp (f : PyData → PyData → Option PyData) (g1 g2 : GE) : GE := fun h Γ nx ex => g1 h Γ (fun h1 m1 => g2 h1 Γ (fun h2 m2 => kOp f h2 m1 m2 (nx h2)) ex) ex
/-- what an operation asks is granted where f tells its answer -/
def DatOp (K : PySem.W.Frag) (r : R2) (f : PyData → PyData → Option PyData) : Prop :=
  ∀ (x y z : PyData) (v w : V) (H : Hp) (N : Addr → Prop) (Q : VK), f x y = some z → VW K H N v x → VW K H N w y → (∀ p, H p = none → ¬ N p) →
    (∀ u H', Same H H' → DA K H' N u z → Q u H') → r v w H Q
theorem _root_.L2.PE.imp {X : Cx} {e : Expr} {t t' : TE} (p : PE X e t) (i : ∀ σ H Q, t' σ H Q → t σ H Q) : PE X e t' := ⟨fun pins s σ H Q I q => p.run pins s σ H Q I (i σ H Q q)⟩
theorem _root_.L2.PT.imp {X : Cx} {e : Expr} {t t' : TT} (p : PT X e t) (i : ∀ σ H Q, t' σ H Q → t σ H Q) : PT X e t' := ⟨fun pins s σ H Q I q => p.run pins s σ H Q I (i σ H Q q)⟩
theorem _root_.L2.PW.imp {X : Cx} {e : Expr} {t t' : TT} (p : PW X e t) (i : ∀ σ H Q, t' σ H Q → t σ H Q) : PW X e t' := ⟨fun wh pins s σ H Q I q => p.run wh pins s σ H Q I (i σ H Q q)⟩
theorem _root_.L2.PA.imp {X : Cx} {e : List Expr} {t t' : TA} (p : PA X e t) (i : ∀ σ H Q, t' σ H Q → t σ H Q) : PA X e t' := ⟨fun pos pins s σ H Q I q => p.run pos pins s σ H Q I (i σ H Q q)⟩
theorem _root_.L2.PS.imp {X : Cx} {e : Stmt} {t t' : TS} (p : PS X e t) (i : ∀ D σ H, t' D σ H → t D σ H) : PS X e t' := ⟨fun pins s σ H D I q => p.run pins s σ H D I (i D σ H q)⟩
theorem _root_.L2.PSs.imp {X : Cx} {e : List Stmt} {t t' : TS} (p : PSs X e t) (i : ∀ D σ H, t' D σ H → t D σ H) : PSs X e t' := ⟨fun pins s σ H D I q => p.run pins s σ H D I (i D σ H q)⟩
section
variable {K : PySem.W.Frag} {W : WX} {g1 g2 g3 : GE} {σ : St} {H : Hp}
/-- two readings in a row -/
theorem g_bin {k : MV → MV → MH → (MH → MV → Prop) → GX → Prop} {R : V → V → Hp → Prop} {Q : VK} (q : tG K W (fun h Γ nx ex => g1 h Γ (fun h1 m1 => g2 h1 Γ (fun h2 m2 => k m1 m2 h2 nx ex) ex) ex) σ H Q)
    (f : ∀ (Y : Addr → Prop) (h2 : MH) (m1 m2 : MV) (v1 v2 : V) (H2 : Hp) (nx : MH → MV → Prop) (ex : GX), k m1 m2 h2 nx ex → WR K Y H2 h2 → VR K H2 (Ft h2 Y) v1 m1 → VR K H2 (Ft h2 Y) v2 m2 →
      (∀ h' m v H', nx h' m → Ext h2 H2 h' H' → WR K Y H' h' → VR K H' (Ft h' Y) v m → Q v H') → XW K Y h2 H2 ex W σ → R v1 v2 H2) :
    tG K W g1 σ H fun v1 H1 => tG K W g2 σ H1 fun v2 H2 => R v1 v2 H2 := by
  obtain ⟨Y, h, Γ, nx, ex, w, en, hg, hn, hx⟩ := q
  refine ⟨Y, h, Γ, _, ex, w, en, hg, fun h1 m1 v1 H1 q1 e1 w1 r1 => ?_, hx⟩
  refine ⟨Y, h1, Γ, _, ex, w1, en.ext e1, q1, fun h2 m2 v2 H2 q2 e2 w2 r2 => ?_, hx.ext e1⟩
  exact f Y h2 m1 m2 v1 v2 H2 nx ex q2 w2 (r1.ext e2) r2 (fun h' m v H' q' e' w' r' => hn h' m v H' q' ((e1.trans e2).trans e') w' r') (hx.ext (e1.trans e2))
theorem g_one {k : MV → MH → (MH → MV → Prop) → GX → Prop} {R : V → Hp → Prop} {Q : VK} (q : tG K W (fun h Γ nx ex => g1 h Γ (fun h1 m1 => k m1 h1 nx ex) ex) σ H Q)
    (f : ∀ (Y : Addr → Prop) (h2 : MH) (m1 : MV) (v1 : V) (H2 : Hp) (nx : MH → MV → Prop) (ex : GX), k m1 h2 nx ex → WR K Y H2 h2 → VR K H2 (Ft h2 Y) v1 m1 →
      (∀ h' m v H', nx h' m → Ext h2 H2 h' H' → WR K Y H' h' → VR K H' (Ft h' Y) v m → Q v H') → XW K Y h2 H2 ex W σ → R v1 H2) :
    tG K W g1 σ H fun v1 H1 => R v1 H1 := by
  obtain ⟨Y, h, Γ, nx, ex, w, en, hg, hn, hx⟩ := q
  exact ⟨Y, h, Γ, _, ex, w, en, hg, fun h1 m1 v1 H1 q1 e1 w1 r1 => f Y h1 m1 v1 H1 nx ex q1 w1 r1 (fun h' m v H' q' e' w' r' => hn h' m v H' q' (e1.trans e') w' r') (hx.ext e1), hx⟩
theorem gOp_reads {r : R2} {f : PyData → PyData → Option PyData} (ok : DatOp K r f) {Q : VK} (q : tG K W (gOp f g1 g2) σ H Q) : tOp r (tG K W g1) (tG K W g2) σ H Q := by
  refine g_bin (k := fun m1 m2 h2 nx ex => kOp f h2 m1 m2 (nx h2)) q fun Y h2 m1 m2 v1 v2 H2 nx ex kk w r1 r2 hn _ => ?_
  obtain ⟨x, e1, kk⟩ := opt_ex kk
  obtain ⟨y, e2, kk⟩ := opt_ex kk
  obtain ⟨z, e3, kk⟩ := opt_ex kk
  exact ok x y z v1 v2 H2 _ Q e3 (r1.asD w e1) (r2.asD w e2) (fun p hp => w.new hp) fun u H' s d => hn h2 (.i z) u H' kk (.same s) (w.same s) d
end
end My

set_option Elab.async false
set_option linter.all false
set_option maxRecDepth 100000
set_option maxHeartbeats 4000000
/-! ## the operations on data -/
namespace My
open PySem L2
abbrev SL : Nat := 16777216
theorem slE : sizeLine = SL := sizeLine_eq
@[simp] def fAdd : PyData → PyData → Option PyData
  | .int a, .int b => some (.int (a + b))
  | .str a, .str b => if a.length + b.length ≤ SL then some (.str (a ++ b)) else none
  | .list a, .list b => if a.length + b.length ≤ SL then some (.list (a ++ b)) else none
  | .tuple a, .tuple b => if a.length + b.length ≤ SL then some (.tuple (a ++ b)) else none
  | _, _ => none
@[simp] def fSub : PyData → PyData → Option PyData
  | .int a, .int b => some (.int (a - b)) | _, _ => none
@[simp] def fMul : PyData → PyData → Option PyData
  | .int a, .int b => if (-(2 ^ 64) < a ∧ a < 2 ^ 64) ∨ (-(2 ^ 64) < b ∧ b < 2 ^ 64) then some (.int (a * b)) else none
  | .list a, .int k => if -(2 ^ 63) ≤ k ∧ k < 2 ^ 63 ∧ a.length * k.toNat ≤ SL then some (.list (List.replicate k.toNat a).flatten) else none
  | .tuple a, .int k => if 0 < a.length ∧ 2 ≤ k ∧ k ≤ 1000 ∧ a.length ≤ 1000 then some (.tuple (List.replicate k.toNat a).flatten) else none
  | _, _ => none
@[simp] def fMod : PyData → PyData → Option PyData
  | .int a, .int b => if b ≠ 0 then some (.int (a.fmod b)) else none | _, _ => none
@[simp] def fDiv : PyData → PyData → Option PyData
  | .int a, .int b => if b ≠ 0 ∧ b.natAbs < 1073741824 then some (.int (a.fdiv b)) else none | _, _ => none
@[simp] def fPow : PyData → PyData → Option PyData
  | .int i, .int j => if 0 ≤ j ∧ j ≤ 1000000 ∧ i.natAbs < 2 ^ 64 then some (.int (i ^ j.toNat)) else none | _, _ => none
@[simp] def fShl : PyData → PyData → Option PyData
  | .int i, .int j => if 0 ≤ j ∧ j ≤ 1000000 ∧ i.natAbs < 2 ^ 64 then some (.int (i * 2 ^ j.toNat)) else none | _, _ => none
@[simp] def fShr : PyData → PyData → Option PyData
  | .int i, .int j => if 0 ≤ j then some (.int (i / 2 ^ j.toNat)) else none | _, _ => none
@[simp] def fBand : PyData → PyData → Option PyData
  | .int i, .int j => some (.int (Builtin.bitAnd i j)) | _, _ => none
@[simp] def fBor : PyData → PyData → Option PyData
  | .int i, .int j => some (.int (Builtin.bitOr i j)) | _, _ => none
@[simp] def fBxor : PyData → PyData → Option PyData
  | .int i, .int j => some (.int (Builtin.bitXor i j)) | _, _ => none
@[simp] def fLt : PyData → PyData → Option PyData
  | .int a, .int b => some (.bool (decide (a < b))) | .str a, .str b => some (.bool (decide (a.cps.toList < b.cps.toList))) | _, _ => none
@[simp] def fLe : PyData → PyData → Option PyData
  | .int a, .int b => some (.bool (decide (a ≤ b))) | .str i, .str j => some (.bool (!decide (j.cps.toList < i.cps.toList))) | _, _ => none
@[simp] def fGt : PyData → PyData → Option PyData
  | .int a, .int b => some (.bool (decide (b < a))) | .str i, .str j => some (.bool (decide (j.cps.toList < i.cps.toList))) | _, _ => none
@[simp] def fGe : PyData → PyData → Option PyData
  | .int a, .int b => some (.bool (decide (b ≤ a))) | .str i, .str j => some (.bool (!decide (i.cps.toList < j.cps.toList))) | _, _ => none
/-- a scalar -/
def toV : PyData → Option V
  | .none => some .non | .bool b => some (.bl b) | .int i => some (.int i) | .str s => some (.str s) | _ => none
def allV : List PyData → Option (List V)
  | [] => some []
  | d :: r => match toV d, allV r with
    | some v, some vs => some (v :: vs)
    | _, _ => none
/-- == : scalars, and shapes of scalars -/
@[simp] def eqD (x y : PyData) : Option Bool :=
  match x, y with
  | .int a, .int b => some (decide (a = b))
  | .str a, .str b => some (decide (a = b))
  | .bool a, .bool b => some (decide (a = b))
  | .none, .none => some true
  | .none, .int _ => some false | .int _, .none => some false | .none, .str _ => some false | .str _, .none => some false
  | .int _, .str _ => some false | .str _, .int _ => some false
  | x, y => if SeqAt.shaped x = true ∧ SeqAt.shaped y = true then some (PyData.eqv x y) else none
@[simp] def fEq (x y : PyData) : Option PyData := (eqD x y).map .bool
@[simp] def fNe (x y : PyData) : Option PyData := (eqD x y).map fun b => .bool (!b)
def inDs (x : PyData) (ds : List PyData) : Option Bool :=
  match toV x, allV ds with
  | some v, some vs => some (inV v vs)
  | _, _ => none
@[simp] def itemsOf : PyData → Option (List PyData)
  | .list ds => some ds | .tuple ds => some ds | _ => none
@[simp] def fIn (x y : PyData) : Option PyData := (itemsOf y).bind fun ds => (inDs x ds).map .bool
@[simp] def fNin (x y : PyData) : Option PyData := (itemsOf y).bind fun ds => (inDs x ds).map fun b => .bool (!b)
/-- a sign within a text -/
@[simp] def fInS : PyData → PyData → Option PyData
  | .str x, .str z => match x.cps.toList with
    | [c] => some (.bool (decide (c ∈ z.cps.toList))) | _ => none
  | _, _ => none
@[simp] def fNinS : PyData → PyData → Option PyData
  | .str x, .str z => match x.cps.toList with
    | [c] => some (.bool (!decide (c ∈ z.cps.toList))) | _ => none
  | _, _ => none
@[simp] def fIsB : PyData → PyData → Option PyData
  | .bool a, .bool b => some (.bool (decide (a = b))) | _, _ => none
@[simp] def fNisB : PyData → PyData → Option PyData
  | .bool a, .bool b => some (.bool (!decide (a = b))) | _, _ => none
@[simp] def fNeg : PyData → Option PyData
  | .int a => some (.int (-a)) | _ => none
section
variable {K : PySem.W.Frag}
theorem DatOp.int2 {g : Int → Int → PyData} {w : Int → Int → V} {f : PyData → PyData → Option PyData} (hg : ∀ a b H N, DA K H N (w a b) (g a b)) (hf : ∀ x y z, f x y = some z → ∃ a b, x = .int a ∧ y = .int b ∧ z = g a b) :
    DatOp K (rI0 w) f := fun x y z v u H N Q e r1 r2 _ k => by
  obtain ⟨a, b, rfl, rfl, rfl⟩ := hf x y z e
  exact ⟨a, b, r1.intV, r2.intV, k _ _ (fun _ _ x => x) (hg a b H N)⟩
theorem DatOp.intC {C : Int → Int → Prop} {g : Int → Int → PyData} {w : Int → Int → V} {f : PyData → PyData → Option PyData} (hg : ∀ a b H N, DA K H N (w a b) (g a b)) (hf : ∀ x y z, f x y = some z → ∃ a b, x = .int a ∧ y = .int b ∧ C a b ∧ z = g a b) :
    DatOp K (rI C w) f := fun x y z v u H N Q e r1 r2 _ k => by
  obtain ⟨a, b, rfl, rfl, c, rfl⟩ := hf x y z e
  exact ⟨a, b, r1.intV, r2.intV, c, k _ _ (fun _ _ x => x) (hg a b H N)⟩
theorem ite_some {α : Type} {c : Prop} [Decidable c] {x y : α} (h : (if c then some x else none) = some y) : c ∧ x = y := by
  by_cases q : c
  · rw [if_pos q] at h; exact ⟨q, Option.some.inj h⟩
  · rw [if_neg q] at h; cases h
/-- a + b: of ints, texts, lists, tuples -/
def rAdd (K : PySem.W.Frag) : R2 := fun x y H Q => (rI0 (fun i j => .int (i + j)) x y H Q ∨ ∃ i j, x = .str i ∧ y = .str j ∧ i.length + j.length ≤ sizeLine ∧ Q (.str (i ++ j)) H) ∨ (rCat x y H Q ∨ rCatA K x y H Q)
theorem op_addD {X : Cx} : OpR X (binaryOp .Add) (rAdd X.K) := (op_add.or op_add_str).or (op_cat.or op_catA)
theorem dat_add : DatOp K (rAdd K) fAdd := fun x y z v u H N Q e r1 r2 hN k => by
  cases x <;> cases y <;> first | cases e | skip
  · exact .inl (.inl ⟨_, _, r1.intV, r2.intV, k _ _ (fun _ _ x => x) (.int _)⟩)
  · obtain ⟨c, rfl⟩ := ite_some e
    exact .inl (.inr ⟨_, _, r1.strV, r2.strV, by rw [slE]; exact c, k _ _ (fun _ _ x => x) (.str _)⟩)
  · obtain ⟨c, rfl⟩ := ite_some e
    obtain ⟨a, xs, rfl, ha, sa⟩ := r1.lstV
    obtain ⟨b, ys, rfl, hb, sb⟩ := r2.lstV
    exact .inr (.inl ⟨a, b, xs, ys, rfl, rfl, ha, hb, by rw [slE, sa.length, sb.length]; exact c, fun p hp => k _ _ (same_new hp) (.lst upd_same (hN p hp) ((sa.append sb).same (same_new hp)))⟩)
  · obtain ⟨c, rfl⟩ := ite_some e
    obtain ⟨a, xs, rfl, ha, sa⟩ := r1.tupV
    obtain ⟨b, ys, rfl, hb, sb⟩ := r2.tupV
    refine .inr (.inr ⟨a, b, xs, ys, rfl, rfl, ha, hb, by rw [slE, sa.length, sb.length]; exact c, fun q => ?_, fun q q2 => ?_, fun _ _ p hp => k _ _ (same_new hp) (.tup upd_same (hN p hp) ((sa.append sb).same (same_new hp)))⟩)
    · subst q
      cases sa
      rcases r2 with r2 | ⟨_, _, _, _, e2, _⟩
      · exact k _ _ (fun _ _ x => x) r2
      · cases e2
    · subst q2
      cases sb
      rcases r1 with r1 | ⟨_, _, _, _, e2, _⟩
      · rw [List.append_nil] at *; exact k _ _ (fun _ _ x => x) r1
      · cases e2
theorem dat_sub : DatOp K (rI0 fun i j => .int (i - j)) fSub := .int2 (g := fun a b => .int (a - b)) (fun _ _ _ _ => .int _) fun x y z e => by
  cases x <;> cases y <;> cases e
  exact ⟨_, _, rfl, rfl, rfl⟩
def rMul (K : PySem.W.Frag) : R2 := fun x y H Q => rI CMul (fun i j => .int (i * j)) x y H Q ∨ (rRep x y H Q ∨ rRepT K x y H Q)
theorem op_mulD {X : Cx} : OpR X (binaryOp .Mult) (rMul X.K) := op_mul.or (op_rep.or op_repT)
theorem DAs.flat {H : Hp} {N : Addr → Prop} {vs : List V} {ds : List PyData} (s : DAs K H N vs ds) : ∀ n : Nat, DAs K H N (List.replicate n vs).flatten (List.replicate n ds).flatten
  | 0 => .nil
  | n + 1 => by
    rw [List.replicate_succ, List.replicate_succ, List.flatten_cons, List.flatten_cons]
    exact s.append (DAs.flat s n)
theorem dat_mul : DatOp K (rMul K) fMul := fun x y z v u H N Q e r1 r2 hN k => by
  cases x <;> cases y <;> first | cases e | skip
  · obtain ⟨c, rfl⟩ := ite_some e
    exact .inl ⟨_, _, r1.intV, r2.intV, c, k _ _ (fun _ _ x => x) (.int _)⟩
  · obtain ⟨⟨c1, c2, c3⟩, rfl⟩ := ite_some e
    obtain ⟨a, xs, rfl, ha, sa⟩ := r1.lstV
    exact .inr (.inl ⟨a, _, xs, rfl, r2.intV, ha, c1, c2, by rw [slE, sa.length]; exact c3, fun p hp => k _ _ (same_new hp) (.lst upd_same (hN p hp) ((sa.flat _).same (same_new hp)))⟩)
  · obtain ⟨⟨c1, c2, c3, c4⟩, rfl⟩ := ite_some e
    obtain ⟨a, xs, rfl, ha, sa⟩ := r1.tupV
    exact .inr (.inr ⟨a, _, xs, rfl, r2.intV, ha, (fun q => by subst q; cases sa; exact absurd c1 (by decide)), c2, c3, by rw [sa.length]; exact c4, fun p hp => k _ _ (same_new hp) (.tup upd_same (hN p hp) ((sa.flat _).same (same_new hp)))⟩)
theorem dat_mod : DatOp K (rI (fun _ j => j ≠ 0) fun i j => .int (i.fmod j)) fMod := .intC (g := fun a b => .int (a.fmod b)) (fun _ _ _ _ => .int _) fun x y z e => by
  cases x <;> cases y <;> first | cases e | skip
  obtain ⟨c, rfl⟩ := ite_some e
  exact ⟨_, _, rfl, rfl, c, rfl⟩
theorem dat_div : DatOp K (rI CDivN fun i j => .int (i.fdiv j)) fDiv := .intC (g := fun a b => .int (a.fdiv b)) (fun _ _ _ _ => .int _) fun x y z e => by
  cases x <;> cases y <;> first | cases e | skip
  obtain ⟨c, rfl⟩ := ite_some e
  exact ⟨_, _, rfl, rfl, c, rfl⟩
theorem dat_pow : DatOp K (rI CPow fun i j => .int (i ^ j.toNat)) fPow := .intC (g := fun i j => .int (i ^ j.toNat)) (fun _ _ _ _ => .int _) fun x y z e => by
  cases x <;> cases y <;> first | cases e | skip
  obtain ⟨c, rfl⟩ := ite_some e
  exact ⟨_, _, rfl, rfl, c, rfl⟩
theorem dat_shl : DatOp K (rI CPow fun i j => .int (i * 2 ^ j.toNat)) fShl := .intC (g := fun i j => .int (i * 2 ^ j.toNat)) (fun _ _ _ _ => .int _) fun x y z e => by
  cases x <;> cases y <;> first | cases e | skip
  obtain ⟨c, rfl⟩ := ite_some e
  exact ⟨_, _, rfl, rfl, c, rfl⟩
theorem dat_shr : DatOp K (rI (fun _ j => 0 ≤ j) fun i j => .int (i / 2 ^ j.toNat)) fShr := .intC (g := fun i j => .int (i / 2 ^ j.toNat)) (fun _ _ _ _ => .int _) fun x y z e => by
  cases x <;> cases y <;> first | cases e | skip
  obtain ⟨c, rfl⟩ := ite_some e
  exact ⟨_, _, rfl, rfl, c, rfl⟩
theorem dat_band : DatOp K (rI0 fun i j => .int (Builtin.bitAnd i j)) fBand := .int2 (g := fun i j => .int (Builtin.bitAnd i j)) (fun _ _ _ _ => .int _) fun x y z e => by
  cases x <;> cases y <;> cases e
  exact ⟨_, _, rfl, rfl, rfl⟩
theorem dat_bor : DatOp K (rI0 fun i j => .int (Builtin.bitOr i j)) fBor := .int2 (g := fun i j => .int (Builtin.bitOr i j)) (fun _ _ _ _ => .int _) fun x y z e => by
  cases x <;> cases y <;> cases e
  exact ⟨_, _, rfl, rfl, rfl⟩
theorem dat_bxor : DatOp K (rI0 fun i j => .int (Builtin.bitXor i j)) fBxor := .int2 (g := fun i j => .int (Builtin.bitXor i j)) (fun _ _ _ _ => .int _) fun x y z e => by
  cases x <;> cases y <;> cases e
  exact ⟨_, _, rfl, rfl, rfl⟩
def rOrd (p : Int → Int → Bool) (q : List Nat → List Nat → Bool) : R2 := fun x y H Q => rI0 (fun i j => .bl (p i j)) x y H Q ∨ ∃ i j, x = .str i ∧ y = .str j ∧ Q (.bl (q i.cps.toList j.cps.toList)) H
theorem op_ltD {X : Cx} : OpR X (compareOp .Lt) (rOrd (fun i j => decide (i < j)) fun a b => decide (a < b)) := op_lt.or op_lt_str
theorem op_leD {X : Cx} : OpR X (compareOp .LtE) (rOrd (fun i j => decide (i ≤ j)) fun a b => !decide (b < a)) := op_le.or op_le_str
theorem op_gtD {X : Cx} : OpR X (compareOp .Gt) (rOrd (fun i j => decide (j < i)) fun a b => decide (b < a)) := op_gt.or op_gt_str
theorem op_geD {X : Cx} : OpR X (compareOp .GtE) (rOrd (fun i j => decide (j ≤ i)) fun a b => !decide (a < b)) := op_ge.or op_ge_str
theorem dat_ord {p : Int → Int → Bool} {q : List Nat → List Nat → Bool} {f : PyData → PyData → Option PyData} (hf : ∀ x y z, f x y = some z → (∃ a b, x = .int a ∧ y = .int b ∧ z = .bool (p a b)) ∨ ∃ a b : Str, x = .str a ∧ y = .str b ∧ z = .bool (q a.cps.toList b.cps.toList)) :
    DatOp K (rOrd p q) f := fun x y z v u H N Q e r1 r2 _ k => by
  rcases hf x y z e with ⟨a, b, rfl, rfl, rfl⟩ | ⟨a, b, rfl, rfl, rfl⟩
  · exact .inl ⟨a, b, r1.intV, r2.intV, k _ _ (fun _ _ x => x) (.bl _)⟩
  · exact .inr ⟨a, b, r1.strV, r2.strV, k _ _ (fun _ _ x => x) (.bl _)⟩
theorem dat_lt : DatOp K (rOrd (fun i j => decide (i < j)) fun a b => decide (a < b)) fLt := dat_ord fun x y z e => by
  cases x <;> cases y <;> cases e
  · exact .inl ⟨_, _, rfl, rfl, rfl⟩
  · exact .inr ⟨_, _, rfl, rfl, rfl⟩
theorem dat_le : DatOp K (rOrd (fun i j => decide (i ≤ j)) fun a b => !decide (b < a)) fLe := dat_ord fun x y z e => by
  cases x <;> cases y <;> cases e
  · exact .inl ⟨_, _, rfl, rfl, rfl⟩
  · exact .inr ⟨_, _, rfl, rfl, rfl⟩
theorem dat_gt : DatOp K (rOrd (fun i j => decide (j < i)) fun a b => decide (b < a)) fGt := dat_ord fun x y z e => by
  cases x <;> cases y <;> cases e
  · exact .inl ⟨_, _, rfl, rfl, rfl⟩
  · exact .inr ⟨_, _, rfl, rfl, rfl⟩
theorem dat_ge : DatOp K (rOrd (fun i j => decide (j ≤ i)) fun a b => !decide (a < b)) fGe := dat_ord fun x y z e => by
  cases x <;> cases y <;> cases e
  · exact .inl ⟨_, _, rfl, rfl, rfl⟩
  · exact .inr ⟨_, _, rfl, rfl, rfl⟩
def rEqA (K : PySem.W.Frag) : R2 := fun x y H Q => rEq x y H Q ∨ rEqD K x y H Q
def rNeA (K : PySem.W.Frag) : R2 := fun x y H Q => rNe x y H Q ∨ rNeD K x y H Q
theorem op_eqA {X : Cx} (hu : X.A.units + 64 < cLine) : OpR X (compareOp .Eq) (rEqA X.K) := op_eq.or (op_eqD hu)
theorem op_neA {X : Cx} (hu : X.A.units + 64 < cLine) : OpR X (compareOp .NotEq) (rNeA X.K) := op_ne.or (op_neD hu)
theorem eqD_cases {x y : PyData} {b : Bool} (e : eqD x y = some b) : (∃ v w, toV x = some v ∧ toV y = some w ∧ scal v w = true ∧ b = decide (v = w)) ∨ (SeqAt.shaped x = true ∧ SeqAt.shaped y = true ∧ b = PyData.eqv x y) := by
  unfold eqD at e
  split at e
  · exact .inl ⟨_, _, rfl, rfl, rfl, by cases e; simp⟩
  · exact .inl ⟨_, _, rfl, rfl, rfl, by cases e; simp⟩
  · exact .inl ⟨_, _, rfl, rfl, rfl, by cases e; simp⟩
  · exact .inl ⟨_, _, rfl, rfl, rfl, by cases e; rfl⟩
  · exact .inl ⟨_, _, rfl, rfl, rfl, by cases e; rfl⟩
  · exact .inl ⟨_, _, rfl, rfl, rfl, by cases e; rfl⟩
  · exact .inl ⟨_, _, rfl, rfl, rfl, by cases e; rfl⟩
  · exact .inl ⟨_, _, rfl, rfl, rfl, by cases e; rfl⟩
  · exact .inl ⟨_, _, rfl, rfl, rfl, by cases e; rfl⟩
  · exact .inl ⟨_, _, rfl, rfl, rfl, by cases e; rfl⟩
  · obtain ⟨⟨c1, c2⟩, rfl⟩ := ite_some e
    exact .inr ⟨c1, c2, rfl⟩
theorem VW.toV {H : Hp} {N : Addr → Prop} {v w : V} {x : PyData} (r : VW K H N v x) (e : toV x = some w) : v = w := by
  cases x <;> cases e
  · exact r.noneV
  · exact r.boolV
  · exact r.intV
  · exact r.strV
theorem dat_eq : DatOp K (rEqA K) fEq := fun x y z v u H N Q e r1 r2 _ k => by
  unfold fEq at e
  cases q : eqD x y with
  | none => rw [q] at e; cases e
  | some b =>
    rw [q] at e
    cases e
    rcases eqD_cases q with ⟨v', w', e1, e2, e3, rfl⟩ | ⟨e1, e2, rfl⟩
    · cases r1.toV e1
      cases r2.toV e2
      exact .inl ⟨e3, k _ _ (fun _ _ x => x) (.bl _)⟩
    · exact .inr ⟨x, y, r1.dp, r2.dp, e1, e2, k _ _ (fun _ _ x => x) (.bl _)⟩
theorem dat_ne : DatOp K (rNeA K) fNe := fun x y z v u H N Q e r1 r2 _ k => by
  unfold fNe at e
  cases q : eqD x y with
  | none => rw [q] at e; cases e
  | some b =>
    rw [q] at e
    cases e
    rcases eqD_cases q with ⟨v', w', e1, e2, e3, rfl⟩ | ⟨e1, e2, rfl⟩
    · cases r1.toV e1
      cases r2.toV e2
      exact .inl ⟨e3, k _ _ (fun _ _ x => x) (.bl _)⟩
    · exact .inr ⟨x, y, r1.dp, r2.dp, e1, e2, k _ _ (fun _ _ x => x) (.bl _)⟩
theorem toV_flat {x : PyData} {v : V} (e : toV x = some v) : flatV v = true := by cases x <;> cases e <;> rfl
theorem allV_ok {H : Hp} {N : Addr → Prop} : ∀ {ds : List PyData} {vs ws : List V}, allV ds = some vs → DAs K H N ws ds → ws = vs ∧ vs.all flatV = true
  | [], _, _, e, .nil => by cases e; exact ⟨rfl, rfl⟩
  | d :: ds, _, _, e, .cons a s => by
    unfold allV at e
    cases e1 : toV d with
    | none => rw [e1] at e; cases e
    | some v =>
      cases e2 : allV ds with
      | none => rw [e1, e2] at e; cases e
      | some vs =>
        rw [e1, e2] at e
        cases e
        obtain ⟨rfl, q⟩ := allV_ok e2 s
        have := VW.toV (.inl a) e1
        subst this
        exact ⟨rfl, by rw [List.all_cons, toV_flat e1, q]; rfl⟩
theorem in_ok {x y : PyData} {b : Bool} {v u : V} {H : Hp} {N : Addr → Prop} (e : (itemsOf y).bind (fun ds => inDs x ds) = some b) (r1 : VW K H N v x) (r2 : VW K H N u y) :
    ∃ p xs, u = .ref p ∧ (SqL K H p xs ∨ SqT K H p xs) ∧ flatV v = true ∧ xs.all flatV = true ∧ inV v xs = b := by
  have key : ∀ ds ws, itemsOf y = some ds → DAs K H N ws ds → flatV v = true ∧ ws.all flatV = true ∧ inV v ws = b := fun ds ws e0 s => by
    rw [e0] at e
    have e : inDs x ds = some b := e
    unfold inDs at e
    cases e1 : toV x with
    | none => rw [e1] at e; cases e
    | some v' =>
      cases e2 : allV ds with
      | none => rw [e1, e2] at e; cases e
      | some vs =>
        rw [e1, e2] at e
        cases e
        cases r1.toV e1
        obtain ⟨rfl, q⟩ := allV_ok e2 s
        exact ⟨toV_flat e1, q, rfl⟩
  cases y <;> first | cases e | skip
  · obtain ⟨a, xs, rfl, h, s⟩ := r2.lstV
    exact ⟨a, xs, rfl, .inl (SqL.of h), key _ _ rfl s⟩
  · obtain ⟨a, xs, rfl, h, s⟩ := r2.tupV
    exact ⟨a, xs, rfl, .inr h, key _ _ rfl s⟩
theorem dat_in : DatOp K (rIn K false) fIn := fun x y z v u H N Q e r1 r2 _ k => by
  unfold fIn at e
  cases q : (itemsOf y).bind (fun ds => inDs x ds) with
  | none => cases h : itemsOf y <;> rw [h] at e q <;> first | cases e | (have q : inDs x _ = none := q; have e : (inDs x _).map PyData.bool = some z := e; rw [q] at e; cases e)
  | some b =>
    have ez : z = .bool b := by cases h : itemsOf y <;> rw [h] at e q <;> first | cases e | (have q : inDs x _ = some b := q; have e : (inDs x _).map PyData.bool = some z := e; rw [q] at e; cases e; rfl)
    subst ez
    obtain ⟨p, xs, rfl, s, f1, f2, rfl⟩ := in_ok q r1 r2
    exact ⟨p, xs, rfl, s, f1, f2, k _ _ (fun _ _ x => x) (.bl _)⟩
theorem dat_nin : DatOp K (rIn K true) fNin := fun x y z v u H N Q e r1 r2 _ k => by
  unfold fNin at e
  cases q : (itemsOf y).bind (fun ds => inDs x ds) with
  | none => cases h : itemsOf y <;> rw [h] at e q <;> first | cases e | (have q : inDs x _ = none := q; have e : (inDs x _).map (fun b => PyData.bool (!b)) = some z := e; rw [q] at e; cases e)
  | some b =>
    have ez : z = .bool (!b) := by cases h : itemsOf y <;> rw [h] at e q <;> first | cases e | (have q : inDs x _ = some b := q; have e : (inDs x _).map (fun b => PyData.bool (!b)) = some z := e; rw [q] at e; cases e; rfl)
    subst ez
    obtain ⟨p, xs, rfl, s, f1, f2, rfl⟩ := in_ok q r1 r2
    exact ⟨p, xs, rfl, s, f1, f2, k _ _ (fun _ _ x => x) (.bl _)⟩
theorem dat_isB : DatOp K rIsB fIsB := fun x y z v u H N Q e r1 r2 _ k => by
  cases x <;> cases y <;> cases e
  exact ⟨_, _, r1.boolV, r2.boolV, k _ _ (fun _ _ x => x) (.bl _)⟩
theorem dat_nisB : DatOp K rNotB fNisB := fun x y z v u H N Q e r1 r2 _ k => by
  cases x <;> cases y <;> cases e
  exact ⟨_, _, r1.boolV, r2.boolV, k _ _ (fun _ _ x => x) (.bl _)⟩
end
end My

set_option Elab.async false
set_option linter.all false
set_option maxRecDepth 100000
set_option maxHeartbeats 4000000
/-! ## the rules of expressions -/
namespace My
open PySem L2
/-! ### more parts -/
@[simp] def gUn (f : PyData → Option PyData) (g : GE) : GE := fun h Γ nx ex => g h Γ (fun h1 m => opt (asD h1 m) fun x => opt (f x) fun z => nx h1 (.i z)) ex
@[simp] def kIx (h : MH) (m1 m2 : MV) (k : MV → Prop) : Prop :=
  match m2 with
  | .i (.int n) => (match m1 with
    | .i (.list ds) => opt (atI ds n) fun d => k (.i d)
    | .i (.tuple ds) => opt (atI ds n) fun d => k (.i d)
    | .i (.str s) => s.length ≤ SL ∧ opt (atI s.cps.toList n) fun c => k (.i (.str ⟨#[c]⟩))
    | .p a => (match h a with
      | some (.lst ms) => opt (atI ms n) k
      | _ => False)
    | _ => False)
  | _ => False
@[simp] def gIx (g1 g2 : GE) : GE := fun h Γ nx ex => g1 h Γ (fun h1 m1 => g2 h1 Γ (fun h2 m2 => kIx h2 m1 m2 (nx h2)) ex) ex
@[simp] def keyM : MV → Option Key
  | .i (.int n) => some (Sum.inl n) | .i (.str s) => some (Sum.inr s) | _ => none
def valM (kvs : List (Key × MV)) (k : Key) : Option MV := (kvs.find? fun p => decide (p.1 = k)).map (·.2)
@[simp] def kDg (h : MH) (m1 m2 : MV) (k : Option MV → Prop) : Prop :=
  match m1 with
  | .p a => (match h a with
    | some (.dct kvs) => opt (keyM m2) fun q => k (valM kvs q)
    | _ => False)
  | _ => False
@[simp] def gDget (g1 g2 : GE) : GE := fun h Γ nx ex => g1 h Γ (fun h1 m1 => g2 h1 Γ (fun h2 m2 => kDg h2 m1 m2 fun o => opt o (nx h2)) ex) ex
@[simp] def gDin (g1 g2 : GE) : GE := fun h Γ nx ex => g1 h Γ (fun h1 m1 => g2 h1 Γ (fun h2 m2 => kDg h2 m2 m1 fun o => nx h2 (.i (.bool o.isSome))) ex) ex
@[simp] def gDnin (g1 g2 : GE) : GE := fun h Γ nx ex => g1 h Γ (fun h1 m1 => g2 h1 Γ (fun h2 m2 => kDg h2 m2 m1 fun o => nx h2 (.i (.bool (!o.isSome)))) ex) ex
@[simp] def fldM (fs : List (Str × MV)) (f : Str) : Option MV := fs.lookup f
@[simp] def kFld (C : Addr) (f : Str) (h : MH) (m : MV) (k : MV → Prop) : Prop :=
  match m with
  | .p a => (match h a with
    | some (.ins C' _ fs) => C' = C ∧ opt (fldM fs f) k
    | _ => False)
  | _ => False
@[simp] def gFld (C : Addr) (f : Str) (g : GE) : GE := fun h Γ nx ex => g h Γ (fun h1 m => kFld C f h1 m (nx h1)) ex
@[simp] def gaN : GA := fun h _ nx _ => nx h []
@[simp] def gaC (g : GE) (ga : GA) : GA := fun h Γ nx ex => g h Γ (fun h1 m => ga h1 Γ (fun h2 ms => nx h2 (m :: ms)) ex) ex
@[simp] def gTup (ga : GA) : GE := fun h Γ nx ex => ga h Γ (fun h1 ms => opt (allI ms) fun ds => nx h1 (.i (.tuple ds))) ex
@[simp] def gLst (ga : GA) : GE := fun h Γ nx ex => ga h Γ (fun h1 ms => opt (allI ms) fun ds => nx h1 (.i (.list ds))) ex
/-- a new known list -/
@[simp] def gNew (ga : GA) : GE := fun h Γ nx ex => ga h Γ (fun h1 ms => ∀ a, h1 a = none → nx (mset h1 a (.lst ms)) (.p a)) ex
@[simp] def gDnew : GE := fun h _ nx _ => ∀ a, h a = none → nx (mset h a (.dct [])) (.p a)
@[simp] def isNM : MV → Bool
  | .i .none => true | _ => false
@[simp] def gIsN (g : GE) : GE := fun h Γ nx ex => g h Γ (fun h1 m => nx h1 (.i (.bool (isNM m)))) ex
@[simp] def gNotN (g : GE) : GE := fun h Γ nx ex => g h Γ (fun h1 m => nx h1 (.i (.bool (!isNM m)))) ex
@[simp] def lenD' : PyData → Option Nat
  | .list ds => some ds.length | .tuple ds => some ds.length | .str s => if s.length ≤ SL then some s.length else none | _ => none
@[simp] def kLen (h : MH) (m : MV) (k : Nat → Prop) : Prop :=
  match m with
  | .i d => opt (lenD' d) k
  | .p a => match h a with
    | some (.lst ms) => k ms.length
    | _ => False
@[simp] def gLen (g : GE) : GE := fun h Γ nx ex => g h Γ (fun h1 m => kLen h1 m fun n => nx h1 (.i (.int n))) ex
/-- a builtin that takes data -/
@[simp] def gB (f : List PyData → Option PyData) (ga : GA) : GE := fun h Γ nx ex => ga h Γ (fun h1 ms => opt (ms.mapM (asD h1)) fun ds => opt (f ds) fun z => nx h1 (.i z)) ex
@[simp] def gIsi (T : PyData → Bool) (g : GE) : GE := fun h Γ nx ex => g h Γ (fun h1 m => opt (asD h1 m) fun d => nx h1 (.i (.bool (T d)))) ex
@[simp] def gAnd (g1 g2 : GE) : GE := fun h Γ nx ex => g1 h Γ (fun h1 m => match m with | .i (.bool true) => g2 h1 Γ nx ex | .i (.bool false) => nx h1 (.i (.bool false)) | _ => False) ex
@[simp] def gOr (g1 g2 : GE) : GE := fun h Γ nx ex => g1 h Γ (fun h1 m => match m with | .i (.bool false) => g2 h1 Γ nx ex | .i (.bool true) => nx h1 (.i (.bool true)) | _ => False) ex
@[simp] def gNot (g : GE) : GE := fun h Γ nx ex => g h Γ (fun h1 m => match m with | .i (.bool b) => nx h1 (.i (.bool (!b))) | _ => False) ex
@[simp] def gIf (t : GT) (g1 g2 : GE) : GE := fun h Γ nx ex => t h Γ (fun h1 b => if b = true then g1 h1 Γ nx ex else g2 h1 Γ nx ex) ex
@[simp] def gCh (f f' : PyData → PyData → Option PyData) (g1 g2 g3 : GE) : GE := fun h Γ nx ex => g1 h Γ (fun h1 m1 => g2 h1 Γ (fun h2 m2 => kOp f h2 m1 m2 fun m => match m with
  | .i (.bool true) => g3 h2 Γ (fun h3 m3 => kOp f' h3 m2 m3 (nx h3)) ex
  | .i (.bool false) => nx h2 (.i (.bool false))
  | _ => False) ex) ex
@[simp] def gCall (F : GF) (ga : GA) : GE := fun h Γ nx ex => ga h Γ (fun h1 ms => F h1 ms nx ex) ex
/-- .. of a def that lets no exception out -/
@[simp] def gCall0 (F : GF) (ga : GA) : GE := fun h Γ nx ex => ga h Γ (fun h1 ms => F h1 ms nx fun _ _ => False) ex
@[simp] def gMeth (C : Addr) (m : Str) (F : GF) (g : GE) (ga : GA) : GE := fun h Γ nx ex => g h Γ (fun h1 x => match x with
  | .p a => (match h1 a with
    | some (.ins C' _ fs) => C' = C ∧ fldM fs m = none ∧ ga h1 Γ (fun h2 ms => F h2 (.p a :: ms) nx ex) ex
    | _ => False)
  | _ => False) ex
@[simp] def gMake (C : Addr) (F : GF) (ga : GA) : GE := fun h Γ nx ex => ga h Γ (fun h1 ms => ∀ x dx, h1 x = none → h1 dx = none → dx ≠ x →
  F (mset h1 x (.ins C dx [])) (.p x :: ms) (fun h2 m => (match m with | .i .none => True | _ => False) ∧ nx h2 (.p x)) ex) ex
/-! tests -/
@[simp] def qB (g : GE) : GT := fun h Γ nx ex => g h Γ (fun h1 m => match m with | .i (.bool b) => nx h1 b | _ => False) ex
@[simp] def qAnd (t u : GT) : GT := fun h Γ nx ex => t h Γ (fun h1 b => if b = true then u h1 Γ nx ex else nx h1 false) ex
@[simp] def qOr (t u : GT) : GT := fun h Γ nx ex => t h Γ (fun h1 b => if b = true then nx h1 true else u h1 Γ nx ex) ex
@[simp] def qNot (t : GT) : GT := fun h Γ nx ex => t h Γ (fun h1 b => nx h1 (!b)) ex
@[simp] def truD : PyData → Option Bool
  | .none => some false | .bool b => some b | .int i => some (i != 0) | .str s => if s.length ≤ SL then some ((s.length : Int) != 0) else none
  | .list ds => some (!ds.isEmpty) | .tuple ds => some (!ds.isEmpty) | _ => none
@[simp] def kTru (h : MH) (m : MV) (k : Bool → Prop) : Prop :=
  match m with
  | .i d => opt (truD d) k
  | .p a => match h a with
    | some (.lst ms) => k (!ms.isEmpty)
    | some (.dct kvs) => k (!kvs.isEmpty)
    | _ => False
@[simp] def qTru (g : GE) : GT := fun h Γ nx ex => g h Γ (fun h1 m => kTru h1 m (nx h1)) ex
section
variable {X : Cx} {W : WX} {g g1 g2 g3 : GE} {t u : GT} {ga : GA} {e a b c : Expr} {es : List Expr} {pos p : Pos} {x : Str} {n : Nat}
/-- a constant -/
theorem pd_c {v : V} {d : PyData} (he : PE X e (tC v)) (hd : ∀ H N, DA X.K H N v d) : PE X e (tG X.K W (gC d)) := he.imp fun σ H Q ⟨Y, h, Γ, nx, ex, w, en, hg, hn, hx⟩ =>
  hn h (.i d) v H hg (.refl _ _) w (hd H _)
theorem pd_int {i : Int} {j} : PE X (.Constant (.int i) j pos) (tG X.K W (gC (.int i))) := pd_c pe_int fun _ _ => .int _
theorem pd_str {i : Str} {j} : PE X (.Constant (.str i) j pos) (tG X.K W (gC (.str i))) := pd_c pe_str fun _ _ => .str _
theorem pd_bl {i : Bool} {j} : PE X (.Constant (.bool i) j pos) (tG X.K W (gC (.bool i))) := pd_c pe_bl fun _ _ => .bl _
theorem pd_non {j} : PE X (.Constant .none j pos) (tG X.K W (gC .none)) := pd_c pe_non fun _ _ => .non
theorem pd_gl {v : V} {d : PyData} (hg : Gl X x) (hv : GV X.mg x v) (hd : ∀ H N, DA X.K H N v d) (hdb : (x == ("__debug__" : Str)) = false := by decide) : PE X (.Name x pos) (tG X.K W (gC d)) := pd_c (pe_globE hg hv hdb) hd
theorem pd_v (i : Nat) (hN : X.N[i]? = some x := by rfl) (hv : Vis X.env.scope x := by first | exact Or.inl rfl | exact Or.inr (Or.inl rfl) | exact Or.inr (Or.inr rfl)) (hd : (x == ("__debug__" : Str)) = false := by decide)
    (hcd : (x == ("__classdict__" : Str)) = false := by decide) : PE X (.Name x pos) (tG X.K W (gV i)) := (pe_var hN hv hd hcd).imp fun σ H Q ⟨Y, h, Γ, nx, ex, w, en, hg, hn, hx⟩ => by
  obtain ⟨m, e1, q⟩ := opt_ex hg
  obtain ⟨v, e2, r⟩ := en.get e1
  exact ⟨v, e2, hn h m v H q (.refl _ _) w r⟩
theorem pd_op {op : Operator} {r : R2} {f : PyData → PyData → Option PyData} (ho : OpR X (binaryOp op) r) (ok : DatOp X.K r f) (ha : PE X a (tG X.K W g1)) (hb : PE X b (tG X.K W g2)) : PE X (.BinOp a op b pos) (tG X.K W (gOp f g1 g2)) :=
  (pe_op ho ha hb).imp fun _ _ _ q => gOp_reads ok q
theorem pd_cmp {op : CmpOp} {r : R2} {f : PyData → PyData → Option PyData} (ho : OpR X (compareOp op) r) (ok : DatOp X.K r f) (ha : PE X a (tG X.K W g1)) (hb : PE X b (tG X.K W g2)) (hm : behindInMarks op b = false) : PE X (.Compare a [op] [b] pos) (tG X.K W (gOp f g1 g2)) :=
  (pe_cmpR ho ha hb hm).imp fun _ _ _ q => gOp_reads ok q
/-- a reading as a value turns into one as a test -/
theorem tT_of {K : PySem.W.Frag} {te : TE} (i : ∀ σ H Q, tG K W g σ H Q → te σ H Q) {σ : St} {H : Hp} {Q : Bool → Hp → Prop} (q : tGT K W (qB g) σ H Q) : te σ H fun x H' => ∃ k, x = .bl k ∧ Q k H' := by
  obtain ⟨Y, h, Γ, nx, ex, w, en, hg, hn, hx⟩ := q
  refine i σ H _ ⟨Y, h, Γ, _, ex, w, en, hg, fun h' m v H' q e w' r => ?_, hx⟩
  cases m with
  | p _ => exact q.elim
  | i d =>
    cases d with
    | bool b => exact ⟨b, DA.boolV r, hn h' b H' q e w'⟩
    | _ => exact q.elim
theorem qd_cmp {op : CmpOp} {r : R2} {f : PyData → PyData → Option PyData} (ho : OpR X (compareOp op) r) (ok : DatOp X.K r f) (ha : PE X a (tG X.K W g1)) (hb : PE X b (tG X.K W g2)) (hm : behindInMarks op b = false) : PT X (.Compare a [op] [b] pos) (tGT X.K W (qB (gOp f g1 g2))) :=
  (pt_cmpR ho ha hb hm).imp fun _ _ _ q => tT_of (fun _ _ _ q => gOp_reads ok q) q
/-- of a call, a name, a field ..: a bool -/
theorem qd_val (he : PE X e (tG X.K W g)) (hs : ∀ whole, isTrue e X.env whole = (do let v ← whole; standAt e.pos; holding [v] (truthy v)) := by intro _; rfl) : PT X e (tGT X.K W (qB g)) :=
  (pt_val he hs).imp fun _ _ _ q => tT_of (fun _ _ _ q => q) q
theorem qd_tru (he : PE X e (tG X.K W g)) (hs : ∀ whole, isTrue e X.env whole = (do let v ← whole; standAt e.pos; holding [v] (truthy v)) := by intro _; rfl) : PT X e (tGT X.K W (qTru g)) :=
  (pt_truth he hs).imp fun σ H Q ⟨Y, h, Γ, nx, ex, w, en, hg, hn, hx⟩ => by
    refine ⟨Y, h, Γ, _, ex, w, en, hg, fun h' m v H' q e w' r => ?_, hx⟩
    have fin : ∀ b, nx h' b → Q b H' := fun b q => hn h' b H' q e w'
    cases m with
    | i d =>
      obtain ⟨b, e1, q⟩ := opt_ex (show opt (truD d) (nx h') from q)
      cases d <;> first | cases e1 | skip
      · cases DA.noneV r; exact ⟨_, rfl, fin _ q⟩
      · cases DA.boolV r; exact ⟨_, rfl, fin _ q⟩
      · cases DA.intV r; exact ⟨_, rfl, fin _ q⟩
      · obtain ⟨c, rfl⟩ := ite_some e1
        cases DA.strV r; exact ⟨_, ⟨by rw [slE]; exact c, rfl⟩, fin _ q⟩
      · obtain ⟨a, xs, rfl, s1, _, s2⟩ := DA.lstV r
        exact ⟨_, .inl ⟨xs, SqL.of s1, by cases s2 <;> rfl⟩, fin _ q⟩
      · obtain ⟨a, xs, rfl, s1, s2⟩ := DA.tupV r
        exact ⟨_, .inr (.inl ⟨xs, s1, by cases s2 <;> rfl⟩), fin _ q⟩
    | p a =>
      cases (show v = .ref a from r)
      have q : (match h' a with | some (.lst ms) => nx h' (!ms.isEmpty) | some (.dct kvs) => nx h' (!kvs.isEmpty) | _ => False) := q
      cases eo : h' a with
      | none => rw [eo] at q; exact q.elim
      | some o =>
        rw [eo] at q
        obtain ⟨z, e2, r2⟩ := w'.ob a o eo
        cases o with
        | ins _ _ _ => exact q.elim
        | lst ms =>
          cases z <;> first | exact r2.elim | skip
          exact ⟨_, .inl ⟨_, SqL.of e2, by cases (show VRs _ _ _ _ _ from r2) <;> rfl⟩, fin _ q⟩
        | dct kvs =>
          cases z <;> first | exact r2.elim | skip
          rename_i kv
          refine ⟨_, .inr (.inr ⟨_, e2, ?_⟩), fin _ q⟩
          obtain ⟨r3, _⟩ := r2
          cases kv <;> cases kvs <;> first | rfl | cases r3
theorem qd_and1 {pos} (ha : PT X a (tGT X.K W t)) : PW X (.BoolOp .And [a] pos) (tGT X.K W t) := pw_and1 ha
theorem qd_or1 {pos} (ha : PT X a (tGT X.K W t)) : PW X (.BoolOp .Or [a] pos) (tGT X.K W t) := pw_or1 ha
theorem qd_and {rest : List Expr} (ha : PT X a (tGT X.K W t)) (hb : PW X (.BoolOp .And (b :: rest) pos) (tGT X.K W u)) : PW X (.BoolOp .And (a :: b :: rest) pos) (tGT X.K W (qAnd t u)) :=
  (pw_and ha hb).imp fun σ H Q ⟨Y, h, Γ, nx, ex, w, en, hg, hn, hx⟩ => by
    refine ⟨Y, h, Γ, _, ex, w, en, hg, fun h' b H' q e w' => ?_, hx⟩
    cases b with
    | true => exact iteT ⟨Y, h', Γ, nx, ex, w', en.ext e, q, fun h2 b2 H2 q2 e2 w2 => hn h2 b2 H2 q2 (e.trans e2) w2, hx.ext e⟩
    | false => exact iteF (hn h' false H' q e w')
theorem qd_or {rest : List Expr} (ha : PT X a (tGT X.K W t)) (hb : PW X (.BoolOp .Or (b :: rest) pos) (tGT X.K W u)) : PW X (.BoolOp .Or (a :: b :: rest) pos) (tGT X.K W (qOr t u)) :=
  (pw_or ha hb).imp fun σ H Q ⟨Y, h, Γ, nx, ex, w, en, hg, hn, hx⟩ => by
    refine ⟨Y, h, Γ, _, ex, w, en, hg, fun h' b H' q e w' => ?_, hx⟩
    cases b with
    | true => exact iteT (hn h' true H' q e w')
    | false => exact iteF ⟨Y, h', Γ, nx, ex, w', en.ext e, q, fun h2 b2 H2 q2 e2 w2 => hn h2 b2 H2 q2 (e.trans e2) w2, hx.ext e⟩
theorem qd_not (ha : PT X a (tGT X.K W t)) : PT X (.UnaryOp .Not a pos) (tGT X.K W (qNot t)) :=
  (pt_not ha).imp fun σ H Q ⟨Y, h, Γ, nx, ex, w, en, hg, hn, hx⟩ => ⟨Y, h, Γ, _, ex, w, en, hg, fun h' b H' q e w' => hn h' _ H' q e w', hx⟩
/-! one after another -/
theorem pd_neg (ha : PE X a (tG X.K W g)) : PE X (.UnaryOp .USub a pos) (tG X.K W (gUn fNeg g)) := (pe_un un_neg ha).imp fun σ H Q q =>
  g_one (k := fun m h1 nx ex => opt (asD h1 m) fun x => opt (fNeg x) fun z => nx h1 (.i z)) q fun Y h2 m v H2 nx ex kk w r hn _ => by
    obtain ⟨x, e1, kk⟩ := opt_ex kk
    obtain ⟨z, e2, kk⟩ := opt_ex kk
    have r := r.asD w e1
    cases x <;> cases e2
    cases r.intV
    exact ⟨_, rfl, hn h2 _ _ H2 kk (.refl _ _) w (DA.int _)⟩
theorem kIx_reads {K : PySem.W.Frag} {Y : Addr → Prop} {h2 : MH} {m1 m2 : MV} {v1 v2 : V} {H2 : Hp} {k : MV → Prop} {Q : VK} (kk : kIx h2 m1 m2 k) (w : WR K Y H2 h2) (r1 : VR K H2 (Ft h2 Y) v1 m1) (r2 : VR K H2 (Ft h2 Y) v2 m2)
    (fin : ∀ m v, k m → VR K H2 (Ft h2 Y) v m → Q v H2) : rIx K v1 v2 H2 Q := by
  cases m2 with
  | p _ => exact kk.elim
  | i d2 =>
    cases d2 with
    | int n =>
      cases DA.intV r2
      cases m1 with
      | i d =>
        cases d with
        | list ds =>
          obtain ⟨d, e, kk⟩ := opt_ex (show opt (atI ds n) (fun d => k (.i d)) from kk)
          obtain ⟨a, xs, rfl, s1, _, s2⟩ := DA.lstV r1
          obtain ⟨v, e2, r⟩ := s2.atI e
          exact .inl ⟨a, xs, n, v, rfl, rfl, SqL.of s1, e2, fin (.i d) v kk r⟩
        | tuple ds =>
          obtain ⟨d, e, kk⟩ := opt_ex (show opt (atI ds n) (fun d => k (.i d)) from kk)
          obtain ⟨a, xs, rfl, s1, s2⟩ := DA.tupV r1
          obtain ⟨v, e2, r⟩ := s2.atI e
          exact .inr (.inl ⟨a, xs, n, v, rfl, rfl, s1, e2, fin (.i d) v kk r⟩)
        | str s =>
          have kk : s.length ≤ SL ∧ opt (atI s.cps.toList n) fun c => k (.i (.str ⟨#[c]⟩)) := kk
          obtain ⟨c, e, q⟩ := opt_ex kk.2
          cases DA.strV r1
          exact .inr (.inr ⟨s, n, c, rfl, rfl, by rw [slE]; exact kk.1, e, fin _ _ q (DA.str _)⟩)
        | _ => exact kk.elim
      | p a =>
        cases (show v1 = .ref a from r1)
        have kk : (match h2 a with | some (.lst ms) => opt (atI ms n) k | _ => False) := kk
        cases eo : h2 a with
        | none => rw [eo] at kk; exact kk.elim
        | some o =>
          rw [eo] at kk
          obtain ⟨z, e2, r3⟩ := w.ob a o eo
          cases o <;> first | exact kk.elim | skip
          cases z <;> first | exact r3.elim | skip
          obtain ⟨m, e, kk⟩ := opt_ex kk
          obtain ⟨v, e4, r⟩ := VRs.atI r3 e
          exact .inl ⟨a, _, n, v, rfl, rfl, SqL.of e2, e4, fin m v kk r⟩
    | _ => exact kk.elim
theorem pd_ix (ha : PE X a (tG X.K W g1)) (hb : PE X b (tG X.K W g2)) (hs : PlainIx b := by intro _ _; rfl) : PE X (.Subscript a b pos) (tG X.K W (gIx g1 g2)) := (pe_ix ix_seq ha hb hs).imp fun σ H Q q =>
  g_bin (k := fun m1 m2 h2 nx ex => kIx h2 m1 m2 (nx h2)) (R := fun v1 v2 H2 => rIx X.K v1 v2 H2 Q) q fun Y h2 m1 m2 v1 v2 H2 nx ex kk w r1 r2 hn _ => kIx_reads kk w r1 r2 fun m v q r => hn h2 m v H2 q (.refl _ _) w r
/-- a known dict at a key -/
theorem VRs.zip {K : PySem.W.Frag} {H : Hp} {N : Addr → Prop} {q : Key} : ∀ {kvs : List (Key × V)} {kms : List (Key × MV)}, kvs.map Prod.fst = kms.map Prod.fst → VRs K H N (kvs.map Prod.snd) (kms.map Prod.snd) →
    (∀ m, valM kms q = some m → ∃ v, valV kvs q = some v ∧ VR K H N v m) ∧ (valM kms q = none → valV kvs q = none)
  | [], [], _, _ => ⟨fun m h => (by cases h), fun _ => rfl⟩
  | [], _ :: _, e, _ => by cases e
  | _ :: _, [], e, _ => by cases e
  | (k, v) :: kvs, (k', m) :: kms, e, s => by
    injection e with e1 e2
    have e1 : k = k' := e1
    subst e1
    cases s with
    | cons a s =>
    by_cases hq : k = q
    · have z1 : valV ((k, v) :: kvs) q = some v := by
        unfold valV
        rw [List.find?_cons_of_pos (by simpa using hq)]
        rfl
      have z2 : valM ((k, m) :: kms) q = some m := by
        unfold valM
        rw [List.find?_cons_of_pos (by simpa using hq)]
        rfl
      exact ⟨fun m' h' => by rw [z2] at h'; cases h'; exact ⟨v, z1, a⟩, (fun h' => by rw [z2] at h'; cases h')⟩
    · have z1 : valV ((k, v) :: kvs) q = valV kvs q := by
        unfold valV
        rw [List.find?_cons_of_neg (by simpa using hq)]
      have z2 : valM ((k, m) :: kms) q = valM kms q := by
        unfold valM
        rw [List.find?_cons_of_neg (by simpa using hq)]
      rw [z1, z2]
      exact VRs.zip e2 s
theorem keyM_ok {K : PySem.W.Frag} {H : Hp} {N : Addr → Prop} {v : V} {m : MV} {q : Key} (e : keyM m = some q) (r : VR K H N v m) : v = kV q := by
  cases m with
  | p _ => cases e
  | i d =>
    cases d <;> cases e
    · exact DA.intV r
    · exact DA.strV r
theorem kDg_reads {K : PySem.W.Frag} {Y : Addr → Prop} {h2 : MH} {m1 m2 : MV} {v1 v2 : V} {H2 : Hp} {k : Option MV → Prop} (kk : kDg h2 m1 m2 k) (w : WR K Y H2 h2) (r1 : VR K H2 (Ft h2 Y) v1 m1) (r2 : VR K H2 (Ft h2 Y) v2 m2) :
    ∃ a o om, v1 = .ref a ∧ DGet H2 a v2 o ∧ k om ∧ o.isSome = om.isSome ∧ ∀ m, om = some m → ∃ v, o = some v ∧ VR K H2 (Ft h2 Y) v m := by
  cases m1 with
  | i _ => exact kk.elim
  | p a =>
    cases (show v1 = .ref a from r1)
    have kk : (match h2 a with | some (.dct kvs) => opt (keyM m2) (fun q => k (valM kvs q)) | _ => False) := kk
    cases eo : h2 a with
    | none => rw [eo] at kk; exact kk.elim
    | some o =>
      rw [eo] at kk
      obtain ⟨z, e2, r3⟩ := w.ob a o eo
      cases o <;> first | exact kk.elim | skip
      cases z <;> first | exact r3.elim | skip
      rename_i kms kvs
      obtain ⟨q, e, kk⟩ := opt_ex kk
      cases keyM_ok e r2
      obtain ⟨p1, p2⟩ := VRs.zip (q := q) r3.1 r3.2
      refine ⟨a, valV kvs q, valM kms q, rfl, DGet.k e2, kk, ?_, p1⟩
      cases ev : valM kms q with
      | none => rw [p2 ev]; rfl
      | some m => obtain ⟨v, e5, _⟩ := p1 m ev; rw [e5]; rfl
theorem pd_dget (hu : X.A.units + 1 < cLine) (ha : PE X a (tG X.K W g1)) (hb : PE X b (tG X.K W g2)) (hs : NoSl b := by intro _ _; rfl) : PE X (.Subscript a b pos) (tG X.K W (gDget g1 g2)) := (pe_dget hu ha hb hs).imp fun σ H Q q =>
  g_bin (k := fun m1 m2 h2 nx ex => kDg h2 m1 m2 fun o => opt o (nx h2)) (R := fun x y H2 => ∃ a v, x = .ref a ∧ DGet H2 a y (some v) ∧ Q v H2) q fun Y h2 m1 m2 v1 v2 H2 nx ex kk w r1 r2 hn _ => by
    obtain ⟨a, o, om, e1, e2, kk, _, p⟩ := kDg_reads kk w r1 r2
    obtain ⟨m, e3, kk⟩ := opt_ex kk
    obtain ⟨v, rfl, r⟩ := p m e3
    exact ⟨a, v, e1, e2, hn h2 m v H2 kk (.refl _ _) w r⟩
theorem gDin_reads {K : PySem.W.Frag} {σ : St} {H : Hp} {Q : VK} (q : tG K W (gDin g1 g2) σ H Q) : tDIn (tG K W g1) (tG K W g2) σ H Q :=
  g_bin (k := fun m1 m2 h2 nx ex => kDg h2 m2 m1 fun o => nx h2 (.i (.bool o.isSome))) (R := fun y x H2 => ∃ a o, x = .ref a ∧ DGet H2 a y o ∧ Q (.bl o.isSome) H2) q fun Y h2 m1 m2 v1 v2 H2 nx ex kk w r1 r2 hn _ => by
    obtain ⟨a, o, om, e1, e2, kk, e3, _⟩ := kDg_reads kk w r2 r1
    exact ⟨a, o, e1, e2, hn h2 _ _ H2 kk (.refl _ _) w (by rw [e3]; exact DA.bl _)⟩
theorem gDnin_reads {K : PySem.W.Frag} {σ : St} {H : Hp} {Q : VK} (q : tG K W (gDnin g1 g2) σ H Q) : tDNotIn (tG K W g1) (tG K W g2) σ H Q :=
  g_bin (k := fun m1 m2 h2 nx ex => kDg h2 m2 m1 fun o => nx h2 (.i (.bool (!o.isSome)))) (R := fun y x H2 => ∃ a o, x = .ref a ∧ DGet H2 a y o ∧ Q (.bl (!o.isSome)) H2) q fun Y h2 m1 m2 v1 v2 H2 nx ex kk w r1 r2 hn _ => by
    obtain ⟨a, o, om, e1, e2, kk, e3, _⟩ := kDg_reads kk w r2 r1
    exact ⟨a, o, e1, e2, hn h2 _ _ H2 kk (.refl _ _) w (by rw [e3]; exact DA.bl _)⟩
theorem pd_din (hu : X.A.units + 1 < cLine) (ha : PE X a (tG X.K W g1)) (hb : PE X b (tG X.K W g2)) (h1 : behindInMarks .In b = false := by rfl) : PE X (.Compare a [.In] [b] pos) (tG X.K W (gDin g1 g2)) := (pe_cmp (pc_din hu ha hb) h1).imp fun _ _ _ q => gDin_reads q
theorem pd_dnin (hu : X.A.units + 1 < cLine) (ha : PE X a (tG X.K W g1)) (hb : PE X b (tG X.K W g2)) (h1 : behindInMarks .NotIn b = false := by rfl) : PE X (.Compare a [.NotIn] [b] pos) (tG X.K W (gDnin g1 g2)) := (pe_cmp (pc_dnotin hu ha hb) h1).imp fun _ _ _ q => gDnin_reads q
theorem qd_din (hu : X.A.units + 1 < cLine) (ha : PE X a (tG X.K W g1)) (hb : PE X b (tG X.K W g2)) (h1 : behindInMarks .In b = false := by rfl) : PT X (.Compare a [.In] [b] pos) (tGT X.K W (qB (gDin g1 g2))) := (pt_cmp (pc_din hu ha hb) h1).imp fun _ _ _ q => tT_of (fun _ _ _ q => gDin_reads q) q
theorem qd_dnin (hu : X.A.units + 1 < cLine) (ha : PE X a (tG X.K W g1)) (hb : PE X b (tG X.K W g2)) (h1 : behindInMarks .NotIn b = false := by rfl) : PT X (.Compare a [.NotIn] [b] pos) (tGT X.K W (qB (gDnin g1 g2))) := (pt_cmp (pc_dnotin hu ha hb) h1).imp fun _ _ _ q => tT_of (fun _ _ _ q => gDnin_reads q) q
/-! fields -/
theorem VRs.fld {K : PySem.W.Frag} {H : Hp} {N : Addr → Prop} {f : Str} : ∀ {fs : List (Str × V)} {gs : List (Str × MV)}, fs.map Prod.fst = gs.map Prod.fst → VRs K H N (fs.map Prod.snd) (gs.map Prod.snd) →
    (∀ m, fldM gs f = some m → ∃ v, fs.lookup f = some v ∧ VR K H N v m) ∧ (fldM gs f = none → fs.lookup f = none)
  | [], [], _, _ => ⟨fun m h => (by cases h), fun _ => rfl⟩
  | [], _ :: _, e, _ => by cases e
  | _ :: _, [], e, _ => by cases e
  | (k, v) :: fs, (k', m) :: gs, e, s => by
    injection e with e1 e2
    have e1 : k = k' := e1
    subst e1
    cases s with
    | cons a s =>
    unfold fldM
    rw [List.lookup_cons, List.lookup_cons]
    by_cases hq : (f == k) = true
    · rw [hq]
      exact ⟨fun m' h' => by cases h'; exact ⟨v, rfl, a⟩, fun h' => by cases h'⟩
    · have hq : (f == k) = false := by cases z : (f == k) <;> first | rfl | exact absurd z hq
      rw [hq]
      exact VRs.fld (f := f) e2 s
theorem pd_fld {C : Addr} {f : Str} (cl : Cls X.K C) (no : NoAttr X.K C f) (he : PE X e (tG X.K W g)) (hb : attributeBase e f X.env (eval e X.env) = eval e X.env := by rfl) : PE X (.Attribute e f pos) (tG X.K W (gFld C f g)) := (pe_fld he hb).imp fun σ H Q q =>
  g_one (k := fun m h1 nx ex => kFld C f h1 m (nx h1)) (R := fun x H1 => ∃ a C dx fs v, x = .ref a ∧ H1 a = some (.ins C dx fs) ∧ Cls X.K C ∧ NoAttr X.K C f ∧ fs.lookup f = some v ∧ Q v H1) q fun Y h2 m v H2 nx ex kk w r hn _ => by
    cases m with
    | i _ => exact kk.elim
    | p a =>
      cases (show v = .ref a from r)
      have kk : (match h2 a with | some (.ins C' _ fs) => C' = C ∧ opt (fldM fs f) (nx h2) | _ => False) := kk
      cases eo : h2 a with
      | none => rw [eo] at kk; exact kk.elim
      | some o =>
        rw [eo] at kk
        obtain ⟨z, e2, r3⟩ := w.ob a o eo
        cases o <;> first | exact kk.elim | skip
        cases z <;> first | exact r3.elim | skip
        obtain ⟨ec, kq⟩ := kk
        subst ec
        obtain ⟨e3, _, r4, r5⟩ := r3
        subst e3
        obtain ⟨m, e, kq⟩ := opt_ex kq
        obtain ⟨v, e6, r⟩ := (VRs.fld (f := f) r4 r5).1 m e
        exact ⟨a, _, _, _, v, rfl, e2, cl, no, e6, hn h2 m v H2 kq (.refl _ _) w r⟩
/-! arguments, displays -/
theorem pd_nil : PA X [] (tGA X.K W 0 gaN) := pa_nil.imp fun σ H Q ⟨Y, h, Γ, nx, ex, w, en, hg, hn, hx⟩ => hn h [] [] H hg rfl (.refl _ _) w .nil
theorem pd_cons (he : PE X e (tG X.K W g)) (ha : PA X es (tGA X.K W n ga)) (hs : starEach (e :: es) X.env = (false, eval e X.env) :: starEach es X.env := by rfl) : PA X (e :: es) (tGA X.K W (n + 1) (gaC g ga)) := (pa_cons he ha hs).imp fun σ H Q ⟨Y, h, Γ, nx, ex, w, en, hg, hn, hx⟩ =>
  ⟨Y, h, Γ, _, ex, w, en, hg, fun h1 m v H1 q1 e1 w1 r1 => ⟨Y, h1, Γ, _, ex, w1, en.ext e1, q1, fun h2 ms vs H2 q2 l2 e2 w2 r2 => hn h2 (m :: ms) (v :: vs) H2 q2 (by rw [List.length_cons, l2]) (e1.trans e2) w2 (.cons (r1.ext e2) r2), hx.ext e1⟩, hx⟩
theorem small_le {n : Nat} (h : n ≤ 1000) : n ≤ sizeLine := by rw [slE]; exact Nat.le_trans h (by decide)
theorem pd_tup {kd} (ha : PA X es (tGA X.K W n ga)) (hn : n ≤ 1000 := by decide) : PE X (.Tuple es kd pos) (tG X.K W (gTup ga)) := (pe_tup ha).imp fun σ H Q ⟨Y, h, Γ, nx, ex, w, en, hg, hn', hx⟩ =>
  ⟨Y, h, Γ, _, ex, w, en, hg, fun h1 ms vs H1 q l e1 w1 r1 => ⟨small_le (by rw [r1.length, l]; exact hn), fun p hp => by
    obtain ⟨ds, ed, q⟩ := opt_ex q
    exact hn' h1 (.i (.tuple ds)) _ _ q (e1.trans (.same (same_new hp))) (w1.same (same_new hp)) (DA.tup upd_same (w1.new hp) (DAs.same (same_new hp) (r1.all ed)))⟩, hx⟩
theorem pd_lst (ha : PA X es (tGA X.K W n ga)) (hn : n ≤ 1000 := by decide) : PE X (.List es pos) (tG X.K W (gLst ga)) := (pe_lst ha).imp fun σ H Q ⟨Y, h, Γ, nx, ex, w, en, hg, hn', hx⟩ =>
  ⟨Y, h, Γ, _, ex, w, en, hg, fun h1 ms vs H1 q l e1 w1 r1 => ⟨small_le (by rw [r1.length, l]; exact hn), fun p hp => by
    obtain ⟨ds, ed, q⟩ := opt_ex q
    exact hn' h1 (.i (.list ds)) _ _ q (e1.trans (.same (same_new hp))) (w1.same (same_new hp)) (DA.lst upd_same (w1.new hp) (DAs.same (same_new hp) (r1.all ed)))⟩, hx⟩
theorem VRs.put {K : PySem.W.Frag} {H : Hp} {h : MH} {Y : Addr → Prop} {a : Addr} {o : MO} {u : HO} {vs : List V} {ms : List MV} (q : h a ≠ none ∨ H a = none) (r : VRs K H (Ft h Y) vs ms) : VRs K (upd H a u) (Ft (mset h a o) Y) vs ms := r.ext (.put q)
theorem WR.noneH {K : PySem.W.Frag} {Y : Addr → Prop} {H : Hp} {h : MH} (w : WR K Y H h) {a : Addr} (e : H a = none) : h a = none := (Ft.not (w.new e)).1
theorem pd_new (ha : PA X es (tGA X.K W n ga)) (hn : n ≤ 1000 := by decide) : PE X (.List es pos) (tG X.K W (gNew ga)) := (pe_lst ha).imp fun σ H Q ⟨Y, h, Γ, nx, ex, w, en, hg, hn', hx⟩ =>
  ⟨Y, h, Γ, _, ex, w, en, hg, fun h1 ms vs H1 q l e1 w1 r1 => ⟨small_le (by rw [r1.length, l]; exact hn), fun p hp =>
    hn' _ (.p p) _ _ (q p (w1.noneH hp)) (e1.trans (.put (.inr hp))) (w1.put (.inr hp) (show VRs _ _ _ _ _ from r1.put (.inr hp))) rfl⟩, hx⟩
theorem pd_dnew : PE X (.Dict [] [] pos) (tG X.K W gDnew) := pe_dnewK.imp fun σ H Q ⟨Y, h, Γ, nx, ex, w, en, hg, hn', hx⟩ p hp =>
    hn' _ (.p p) _ _ (hg p (w.noneH hp)) (.put (.inr hp)) (w.put (.inr hp) ⟨rfl, .nil⟩) rfl
/-! is None -/
theorem isN_ok {K : PySem.W.Frag} {H : Hp} {N : Addr → Prop} {v : V} {m : MV} (r : VR K H N v m) : decide (v = V.non) = isNM m := by
  cases m with
  | p a => cases (show v = .ref a from r); rfl
  | i d =>
    cases d with
    | none => cases DA.noneV r; rfl
    | bool _ => cases DA.boolV r; rfl
    | int _ => cases DA.intV r; rfl
    | str _ => cases DA.strV r; rfl
    | list _ => obtain ⟨a, xs, rfl, _⟩ := DA.lstV r; rfl
    | tuple _ => obtain ⟨a, xs, rfl, _⟩ := DA.tupV r; rfl
    | dict _ => cases (show DA K H N v _ from r)
theorem gIsN_reads {K : PySem.W.Frag} {σ : St} {H : Hp} {Q : VK} (q : tG K W (gIsN g) σ H Q) : tIsN (tG K W g) σ H Q :=
  g_one (k := fun m h1 nx ex => nx h1 (.i (.bool (isNM m)))) (R := fun x H1 => Q (.bl (decide (x = .non))) H1) q fun Y h2 m v H2 nx ex kk w r hn _ => by
    rw [isN_ok r]
    exact hn h2 _ _ H2 kk (.refl _ _) w (DA.bl _)
theorem gNotN_reads {K : PySem.W.Frag} {σ : St} {H : Hp} {Q : VK} (q : tG K W (gNotN g) σ H Q) : tNotN (tG K W g) σ H Q :=
  g_one (k := fun m h1 nx ex => nx h1 (.i (.bool (!isNM m)))) (R := fun x H1 => Q (.bl (!decide (x = .non))) H1) q fun Y h2 m v H2 nx ex kk w r hn _ => by
    rw [isN_ok r]
    exact hn h2 _ _ H2 kk (.refl _ _) w (DA.bl _)
theorem pd_isN {j p2} (ha : PE X a (tG X.K W g)) (h1 : behindInMarks .Is (.Constant .none j p2) = false := by rfl) : PE X (.Compare a [.Is] [.Constant .none j p2] pos) (tG X.K W (gIsN g)) := (pe_cmp (pc_isN ha) h1).imp fun _ _ _ q => gIsN_reads q
theorem pd_notN {j p2} (ha : PE X a (tG X.K W g)) (h1 : behindInMarks .IsNot (.Constant .none j p2) = false := by rfl) : PE X (.Compare a [.IsNot] [.Constant .none j p2] pos) (tG X.K W (gNotN g)) := (pe_cmp (pc_notN ha) h1).imp fun _ _ _ q => gNotN_reads q
theorem qd_isN {j p2} (ha : PE X a (tG X.K W g)) (h1 : behindInMarks .Is (.Constant .none j p2) = false := by rfl) : PT X (.Compare a [.Is] [.Constant .none j p2] pos) (tGT X.K W (qB (gIsN g))) := (pt_cmp (pc_isN ha) h1).imp fun _ _ _ q => tT_of (fun _ _ _ q => gIsN_reads q) q
theorem qd_notN {j p2} (ha : PE X a (tG X.K W g)) (h1 : behindInMarks .IsNot (.Constant .none j p2) = false := by rfl) : PT X (.Compare a [.IsNot] [.Constant .none j p2] pos) (tGT X.K W (qB (gNotN g))) := (pt_cmp (pc_notN ha) h1).imp fun _ _ _ q => tT_of (fun _ _ _ q => gNotN_reads q) q
end
end My

set_option Elab.async false
set_option linter.all false
set_option maxRecDepth 100000
set_option maxHeartbeats 4000000
/-! ## calls, slices, what is walked -/
namespace My
open PySem L2
inductive VWs (K : PySem.W.Frag) (H : Hp) (N : Addr → Prop) : List V → List PyData → Prop
  | nil : VWs K H N [] []
  | cons {v : V} {d : PyData} {vs : List V} {ds : List PyData} : VW K H N v d → VWs K H N vs ds → VWs K H N (v :: vs) (d :: ds)
def DatCall (K : PySem.W.Frag) (r : List V → Hp → VK → Prop) (f : List PyData → Option PyData) : Prop :=
  ∀ (ds : List PyData) (z : PyData) (vs : List V) (H : Hp) (N : Addr → Prop) (Q : VK), f ds = some z → VWs K H N vs ds → (∀ p, H p = none → ¬ N p) →
    (∀ u H', Same H H' → DA K H' N u z → Q u H') → r vs H Q
@[simp] def fList : List PyData → Option PyData
  | [.list ds] => some (.list ds) | [.tuple ds] => some (.list ds) | _ => none
@[simp] def fTuple : List PyData → Option PyData
  | [.list ds] => some (.tuple ds) | [.tuple ds] => some (.tuple ds) | _ => none
@[simp] def fInt : List PyData → Option PyData
  | [.int i] => some (.int i) | [.bool b] => some (.int (if b = true then 1 else 0)) | _ => none
@[simp] def fMin2 : List PyData → Option PyData
  | [.int i, .int j] => some (.int (if j < i then j else i)) | _ => none
@[simp] def fMax2 : List PyData → Option PyData
  | [.int i, .int j] => some (.int (if j > i then j else i)) | _ => none
@[simp] def fAbs : List PyData → Option PyData
  | [.int i] => some (.int (if i < 0 then -i else i)) | _ => none
/-- parts of a slice -/
abbrev GO := MH → Gam → (MH → Option Int → Prop) → GX → Prop
@[simp] def goN : GO := fun h _ nx _ => nx h none
@[simp] def goS (g : GE) : GO := fun h Γ nx ex => g h Γ (fun h1 m => match m with | .i (.int n) => nx h1 (some n) | _ => False) ex
def tGO (K : PySem.W.Frag) (W : WX) (g : GO) : TO := fun σ H Q => ∃ (Y : Addr → Prop) (h : MH) (Γ : Gam) (nx : MH → Option Int → Prop) (ex : GX), WR K Y H h ∧ EnvR K H (Ft h Y) σ Γ ∧ g h Γ nx ex ∧
  (∀ h' o H', nx h' o → Ext h H h' H' → WR K Y H' h' → Q o H') ∧ XW K Y h H ex W σ
def cutL {α : Type} (xs : List α) (lo hi : Option Int) : List α := (xs.drop (HT.sIx xs.length 0 lo)).take (HT.sIx xs.length xs.length hi - HT.sIx xs.length 0 lo)
@[simp] def fSl (d : PyData) (lo hi : Option Int) : Option PyData :=
  match d with
  | .list ds => some (.list (cutL ds lo hi)) | .tuple ds => some (.tuple (cutL ds lo hi)) | .str s => if s.length ≤ SL then some (.str (cutS s lo hi)) else none | _ => none
@[simp] def gSl (g : GE) (l u : GO) : GE := fun h Γ nx ex => g h Γ (fun h1 m => l h1 Γ (fun h2 lo => u h2 Γ (fun h3 hi => opt (asD h3 m) fun d => opt (fSl d lo hi) fun z => nx h3 (.i z)) ex) ex) ex
section
variable {X : Cx} {W : WX} {g g1 g2 g3 : GE} {t u : GT} {ga : GA} {go go2 : GO} {e a b c : Expr} {es : List Expr} {pos p apos : Pos} {x m : Str} {n k : Nat} {CX : CXT} {f C : Addr} {ps : List Str} {F : GF}
/-! values by truth -/
theorem boolR {K : PySem.W.Frag} {Y : Addr → Prop} {H : Hp} {h : MH} {v : V} {b : Bool} (r : VR K H (Ft h Y) v (.i (.bool b))) : v = .bl b := DA.boolV r
theorem pd_one {op} (he : PE X e (tG X.K W g)) : PE X (.BoolOp op [e] pos) (tG X.K W g) := pe_one he
theorem pd_and {rest : List Expr} (ha : PE X a (tG X.K W g1)) (hb : PE X (.BoolOp .And (b :: rest) pos) (tG X.K W g2)) : PE X (.BoolOp .And (a :: b :: rest) pos) (tG X.K W (gAnd g1 g2)) :=
  (pe_and ha hb).imp fun σ H Q ⟨Y, h, Γ, nx, ex, w, en, hg, hn, hx⟩ => by
    refine ⟨Y, h, Γ, _, ex, w, en, hg, fun h' m v H' q e w' r => ?_, hx⟩
    cases m with
    | p _ => exact q.elim
    | i d =>
      cases d with
      | bool b =>
        cases boolR r
        cases b with
        | true => exact ⟨true, rfl, iteT ⟨Y, h', Γ, nx, ex, w', en.ext e, q, fun h2 m2 v2 H2 q2 e2 w2 r2 => hn h2 m2 v2 H2 q2 (e.trans e2) w2 r2, hx.ext e⟩⟩
        | false => exact ⟨false, rfl, iteF (hn h' _ _ H' q e w' (DA.bl false))⟩
      | _ => exact q.elim
theorem pd_or {rest : List Expr} (ha : PE X a (tG X.K W g1)) (hb : PE X (.BoolOp .Or (b :: rest) pos) (tG X.K W g2)) : PE X (.BoolOp .Or (a :: b :: rest) pos) (tG X.K W (gOr g1 g2)) :=
  (pe_or ha hb).imp fun σ H Q ⟨Y, h, Γ, nx, ex, w, en, hg, hn, hx⟩ => by
    refine ⟨Y, h, Γ, _, ex, w, en, hg, fun h' m v H' q e w' r => ?_, hx⟩
    cases m with
    | p _ => exact q.elim
    | i d =>
      cases d with
      | bool b =>
        cases boolR r
        cases b with
        | false => exact ⟨false, rfl, iteF ⟨Y, h', Γ, nx, ex, w', en.ext e, q, fun h2 m2 v2 H2 q2 e2 w2 r2 => hn h2 m2 v2 H2 q2 (e.trans e2) w2 r2, hx.ext e⟩⟩
        | true => exact ⟨true, rfl, iteT (hn h' _ _ H' q e w' (DA.bl true))⟩
      | _ => exact q.elim
theorem pd_not (ha : PE X a (tG X.K W g)) : PE X (.UnaryOp .Not a pos) (tG X.K W (gNot g)) := (pe_not ha).imp fun σ H Q ⟨Y, h, Γ, nx, ex, w, en, hg, hn, hx⟩ => by
    refine ⟨Y, h, Γ, _, ex, w, en, hg, fun h' m v H' q e w' r => ?_, hx⟩
    cases m with
    | p _ => exact q.elim
    | i d =>
      cases d with
      | bool b =>
        cases boolR r
        exact ⟨b, rfl, hn h' _ _ H' q e w' (DA.bl _)⟩
      | _ => exact q.elim
theorem pd_if (hc : PT X c (tGT X.K W t)) (ha : PE X a (tG X.K W g1)) (hb : PE X b (tG X.K W g2)) : PE X (.IfExp c a b pos) (tG X.K W (gIf t g1 g2)) :=
  (pe_ifExp hc ha hb).imp fun σ H Q ⟨Y, h, Γ, nx, ex, w, en, hg, hn, hx⟩ => by
    refine ⟨Y, h, Γ, _, ex, w, en, hg, fun h' b H' q e w' => ?_, hx⟩
    cases b with
    | true => exact iteT ⟨Y, h', Γ, nx, ex, w', en.ext e, by rw [if_pos rfl] at q; exact q, fun h2 m2 v2 H2 q2 e2 w2 r2 => hn h2 m2 v2 H2 q2 (e.trans e2) w2 r2, hx.ext e⟩
    | false => exact iteF ⟨Y, h', Γ, nx, ex, w', en.ext e, by rw [if_neg Bool.noConfusion] at q; exact q, fun h2 m2 v2 H2 q2 e2 w2 r2 => hn h2 m2 v2 H2 q2 (e.trans e2) w2 r2, hx.ext e⟩
/-! chains -/
theorem gCh_reads {K : PySem.W.Frag} {r r' : R2} {f f' : PyData → PyData → Option PyData} (ok : DatOp K r f) (ok' : DatOp K r' f') {σ : St} {H : Hp} {Q : VK} (q : tG K W (gCh f f' g1 g2 g3) σ H Q) :
    tChain r r' (tG K W g1) (tG K W g2) (tG K W g3) σ H Q := by
  obtain ⟨Y, h, Γ, nx, ex, w, en, hg, hn, hx⟩ := q
  refine ⟨Y, h, Γ, _, ex, w, en, hg, fun h1 m1 v1 H1 q1 e1 w1 r1 => ?_, hx⟩
  refine ⟨Y, h1, Γ, _, ex, w1, en.ext e1, q1, fun h2 m2 v2 H2 q2 e2 w2 r2 => ?_, hx.ext e1⟩
  obtain ⟨x, z1, q2⟩ := opt_ex q2
  obtain ⟨y, z2, q2⟩ := opt_ex q2
  obtain ⟨z, z3, q2⟩ := opt_ex q2
  have e12 := e1.trans e2
  refine ok x y z v1 v2 H2 _ _ z3 ((r1.ext e2).asD w2 z1) (r2.asD w2 z2) (fun p hp => w2.new hp) fun u H3 s d => ?_
  cases z with
  | bool b =>
    cases d.boolV
    refine ⟨b, rfl, ?_⟩
    have e3 : Ext h2 H2 h2 H3 := .same s
    have w3 := w2.same s
    cases b with
    | true =>
      refine iteT ⟨Y, h2, Γ, _, ex, w3, en.ext (e12.trans e3), q2, fun h4 m4 v4 H4 q4 e4 w4 r4 => ?_, hx.ext (e12.trans e3)⟩
      obtain ⟨x', y1, q4⟩ := opt_ex q4
      obtain ⟨y', y2, q4⟩ := opt_ex q4
      obtain ⟨z', y3, q4⟩ := opt_ex q4
      exact ok' x' y' z' v2 v4 H4 _ Q y3 ((r2.ext (e3.trans e4)).asD w4 y1) (r4.asD w4 y2) (fun p hp => w4.new hp) fun u' H5 s' d' => hn h4 _ u' H5 q4 ((e12.trans e3).trans (e4.trans (.same s'))) (w4.same s') d'
    | false => exact iteF (hn h2 _ _ H3 q2 (e12.trans e3) w3 (DA.bl false))
  | _ => exact q2.elim
theorem pd_ch {op op' : CmpOp} {r r' : R2} {f f' : PyData → PyData → Option PyData} (ho : OpR X (compareOp op) r) (ho' : OpR X (compareOp op') r') (ok : DatOp X.K r f) (ok' : DatOp X.K r' f') (ha : PE X a (tG X.K W g1)) (hb : PE X b (tG X.K W g2)) (hc : PE X c (tG X.K W g3))
    (hm : lastMarks [op, op'] [b, c] = false := by with_unfolding_all rfl) : PE X (.Compare a [op, op'] [b, c] pos) (tG X.K W (gCh f f' g1 g2 g3)) := (pe_chain ho ho' ha hb hc hm).imp fun _ _ _ q => gCh_reads ok ok' q
theorem qd_ch {op op' : CmpOp} {r r' : R2} {f f' : PyData → PyData → Option PyData} (ho : OpR X (compareOp op) r) (ho' : OpR X (compareOp op') r') (ok : DatOp X.K r f) (ok' : DatOp X.K r' f') (ha : PE X a (tG X.K W g1)) (hb : PE X b (tG X.K W g2)) (hc : PE X c (tG X.K W g3))
    (hm : lastMarks [op, op'] [b, c] = false := by with_unfolding_all rfl) : PT X (.Compare a [op, op'] [b, c] pos) (tGT X.K W (qB (gCh f f' g1 g2 g3))) := (pt_chain ho ho' ha hb hc hm).imp fun _ _ _ q => tT_of (fun _ _ _ q => gCh_reads ok ok' q) q
/-! slices -/
theorem go_none : PO X none (tGO X.K W goN) := ⟨fun pins s σ H Q I ⟨Y, h, Γ, nx, ex, w, en, hg, hn, hx⟩ => po_none.run pins s σ H Q I (hn h none H hg (.refl _ _) w)⟩
theorem go_some (he : PE X e (tG X.K W g)) : PO X (some e) (tGO X.K W (goS g)) := ⟨fun pins s σ H Q I ⟨Y, h, Γ, nx, ex, w, en, hg, hn, hx⟩ => (po_some he).run pins s σ H Q I
  ⟨Y, h, Γ, _, ex, w, en, hg, fun h' m v H' q e w' r => by
    cases m with
    | p _ => exact q.elim
    | i d =>
      cases d with
      | int i => exact ⟨i, DA.intV r, hn h' _ H' q e w'⟩
      | _ => exact q.elim, hx⟩⟩
theorem cut_all {α : Type} {xs : List α} {lo hi : Option Int} (z : HT.sIx xs.length 0 lo = 0 ∧ HT.sIx xs.length xs.length hi = xs.length) : cutL xs lo hi = xs := by
  unfold cutL
  rw [z.1, z.2, List.drop_zero, Nat.sub_zero, List.take_length]
theorem DAs.cut {K : PySem.W.Frag} {H : Hp} {N : Addr → Prop} {vs : List V} {ds : List PyData} (s : DAs K H N vs ds) (lo hi : Option Int) : DAs K H N (cutV vs lo hi) (cutL ds lo hi) := by
  unfold cutV cutL
  rw [s.length]
  exact (s.drop _).take _
theorem pd_sl {p2 : Pos} {lo hi : Option Expr} (he : PE X e (tG X.K W g)) (hl : PO X lo (tGO X.K W go)) (hu : PO X hi (tGO X.K W go2)) : PE X (.Subscript e (.Slice lo hi none p2) pos) (tG X.K W (gSl g go go2)) :=
  (pe_slice (sl_list.or (sl_tupA.or sl_str)) he hl hu).imp fun σ H Q ⟨Y, h, Γ, nx, ex, w, en, hg, hn, hx⟩ => by
    refine ⟨Y, h, Γ, _, ex, w, en, hg, fun h1 m1 v1 H1 q1 e1 w1 r1 => ?_, hx⟩
    refine ⟨Y, h1, Γ, _, ex, w1, en.ext e1, q1, fun h2 lo H2 q2 e2 w2 => ?_, hx.ext e1⟩
    refine ⟨Y, h2, Γ, _, ex, w2, en.ext (e1.trans e2), q2, fun h3 hi H3 q3 e3 w3 => ?_, hx.ext (e1.trans e2)⟩
    obtain ⟨d, z1, q3⟩ := opt_ex q3
    obtain ⟨z, z2, q3⟩ := opt_ex q3
    have r3 := (r1.ext (e2.trans e3)).asD w3 z1
    have fin : ∀ u H4, Same H3 H4 → DA X.K H4 (Ft h3 Y) u z → Q u H4 := fun u H4 s d => hn h3 (.i z) u H4 q3 ((e1.trans (e2.trans e3)).trans (.same s)) (w3.same s) d
    cases d <;> first | cases z2 | skip
    · obtain ⟨c, rfl⟩ := ite_some z2
      exact .inr (.inr ⟨_, r3.strV, by rw [slE]; exact c, fin _ _ (fun _ _ x => x) (.str _)⟩)
    · obtain ⟨a, xs, rfl, s1, s2⟩ := r3.lstV
      exact .inl ⟨a, xs, rfl, SqL.of s1, fun p hp => fin _ _ (same_new hp) (.lst upd_same (w3.new hp) ((s2.cut _ _).same (same_new hp)))⟩
    · rename_i ds
      obtain ⟨a, xs, rfl, s1, s2⟩ := r3.tupV
      refine .inr (.inl ⟨a, xs, rfl, s1, fun z => ?_, fun _ p hp => fin _ _ (same_new hp) (.tup upd_same (w3.new hp) ((s2.cut _ _).same (same_new hp)))⟩)
      rw [s2.length] at z
      rcases r3 with r3 | ⟨_, _, _, _, e2, _⟩
      · exact fin _ _ (fun _ _ x => x) (by rw [cut_all z]; exact r3)
      · cases e2
/-! builtins -/
theorem VWs.of {K : PySem.W.Frag} {Y : Addr → Prop} {H : Hp} {h : MH} (w : WR K Y H h) : ∀ {vs : List V} {ms : List MV} {ds : List PyData}, VRs K H (Ft h Y) vs ms → ms.mapM (asD h) = some ds → VWs K H (Ft h Y) vs ds
  | _, _, ds, .nil, e => by cases e; exact .nil
  | _, _, ds, .cons (m := m) (ms := r) a s, e => by
    rw [List.mapM_cons] at e
    cases e1 : asD h m with
    | none => rw [e1] at e; cases e
    | some d =>
      cases e2 : r.mapM (asD h) with
      | none => rw [e1, e2] at e; cases e
      | some ds' =>
        rw [e1, e2] at e
        cases e
        exact .cons (a.asD w e1) (VWs.of w s e2)
theorem gB_reads {K : PySem.W.Frag} {r : List V → Hp → VK → Prop} {f : List PyData → Option PyData} (ok : DatCall K r f) {σ : St} {H : Hp} {Q : VK} (q : tG K W (gB f ga) σ H Q) : tCB r (tGA K W n ga) σ H Q := by
  obtain ⟨Y, h, Γ, nx, ex, w, en, hg, hn, hx⟩ := q
  refine ⟨Y, h, Γ, _, ex, w, en, hg, fun h1 ms vs H1 q l e1 w1 r1 => ?_, hx⟩
  obtain ⟨ds, z1, q⟩ := opt_ex q
  obtain ⟨z, z2, q⟩ := opt_ex q
  exact ok ds z vs H1 _ Q z2 (VWs.of w1 r1 z1) (fun p hp => w1.new hp) fun u H' s d => hn h1 _ u H' q (e1.trans (.same s)) (w1.same s) d
theorem pd_b {id : String} {r : List V → Hp → VK → Prop} {f : List PyData → Option PyData} (hc : CallR X (.builtin id) r) (ok : DatCall X.K r f) (hg : Gl X x) (hm : X.mg x = none) (hv : bootBuiltins x = some (.builtin id)) (ha : PA X (e :: es) (tGA X.K W n ga)) (hn : x ≠ "__name__" := by decide) (hdb : (x == ("__debug__" : Str)) = false := by decide)
    (he : starEach (e :: es) X.env = (false, eval e X.env) :: starEach es X.env := by rfl) (hpl : (backTo pos (starEach es X.env)).any (·.1) = false := by rfl) : PE X (.Call (.Name x p) (e :: es) [] pos) (tG X.K W (gB f ga)) := (pe_callB hc hg hm hv ha hn hdb he hpl).imp fun _ _ _ q => gB_reads ok q
theorem pd_ty {T : String} {r : List V → Hp → VK → Prop} {f : List PyData → Option PyData} (hc : CallR X (.type T) r) (ok : DatCall X.K r f) (hg : Gl X x) (hm : X.mg x = none) (hv : bootBuiltins x = some (.type T)) (ha : PA X (e :: es) (tGA X.K W n ga)) (hn : x ≠ "__name__" := by decide) (hdb : (x == ("__debug__" : Str)) = false := by decide)
    (he : starEach (e :: es) X.env = (false, eval e X.env) :: starEach es X.env := by rfl) (hpl : (backTo pos (starEach es X.env)).any (·.1) = false := by rfl) : PE X (.Call (.Name x p) (e :: es) [] pos) (tG X.K W (gB f ga)) := (pe_callTy hc hg hm hv ha hn hdb he hpl).imp fun _ _ _ q => gB_reads ok q
theorem seq_of {K : PySem.W.Frag} {H : Hp} {N : Addr → Prop} {v : V} {y : PyData} {ds : List PyData} (r : VW K H N v y) (e : itemsOf y = some ds) : ∃ p xs, v = .ref p ∧ (SqL K H p xs ∨ SqT K H p xs) ∧ DAs K H N xs ds := by
  cases y <;> cases e
  · obtain ⟨a, xs, rfl, h, s⟩ := r.lstV
    exact ⟨a, xs, rfl, .inl (SqL.of h), s⟩
  · obtain ⟨a, xs, rfl, h, s⟩ := r.tupV
    exact ⟨a, xs, rfl, .inr h, s⟩
theorem dat_list : DatCall X.K (fun xs H Q => ∃ p ys, xs = [.ref p] ∧ (SqL X.K H p ys ∨ SqT X.K H p ys) ∧ ∀ l, H l = none → Q (.ref l) (upd H l (.lst ys))) fList := fun ds z vs H N Q e r hN k => by
  have key : ∀ y es, ds = [y] → itemsOf y = some es → z = .list es → ∃ p ys, vs = [.ref p] ∧ (SqL X.K H p ys ∨ SqT X.K H p ys) ∧ ∀ l, H l = none → Q (.ref l) (upd H l (.lst ys)) := fun y es e1 e2 e3 => by
    subst e1 e3
    cases r with
    | cons r1 r2 =>
      cases r2
      obtain ⟨p, xs, rfl, s, d⟩ := seq_of r1 e2
      exact ⟨p, xs, rfl, s, fun l hl => k _ _ (same_new hl) (.lst upd_same (hN l hl) (d.same (same_new hl)))⟩
  unfold fList at e
  split at e
  · cases e; exact key _ _ rfl rfl rfl
  · cases e; exact key _ _ rfl rfl rfl
  · cases e
theorem dat_tuple : DatCall X.K (fun xs H Q => ∃ p ys, xs = [.ref p] ∧ ((SqL X.K H p ys ∧ ∀ l, H l = none → Q (.ref l) (upd H l (.tup ys))) ∨ (SqT X.K H p ys ∧ Q (.ref p) H))) fTuple := fun ds z vs H N Q e r hN k => by
  unfold fTuple at e
  split at e
  · cases e
    cases r with
    | cons r1 r2 =>
      cases r2
      obtain ⟨a, xs, rfl, h, s⟩ := r1.lstV
      exact ⟨a, xs, rfl, .inl ⟨SqL.of h, fun l hl => k _ _ (same_new hl) (.tup upd_same (hN l hl) (s.same (same_new hl)))⟩⟩
  · cases e
    cases r with
    | cons r1 r2 =>
      cases r2
      obtain ⟨a, xs, rfl, h, s⟩ := r1.tupV
      rcases r1 with r1 | ⟨_, _, _, _, e2, _⟩
      · exact ⟨a, xs, rfl, .inr ⟨h, k _ _ (fun _ _ x => x) r1⟩⟩
      · cases e2
  · cases e
theorem dat_int : DatCall X.K (fun xs H Q => (∃ i, xs = [.int i] ∧ Q (.int i) H) ∨ ∃ k, xs = [.bl k] ∧ Q (.int (if k then 1 else 0)) H) fInt := fun ds z vs H N Q e r hN k => by
  unfold fInt at e
  split at e
  · cases e
    cases r with
    | cons r1 r2 => cases r2; cases r1.intV; exact .inl ⟨_, rfl, k _ _ (fun _ _ x => x) (.int _)⟩
  · cases e
    cases r with
    | cons r1 r2 => cases r2; cases r1.boolV; exact .inr ⟨_, rfl, k _ _ (fun _ _ x => x) (.int _)⟩
  · cases e
theorem dat_min2 : DatCall X.K (fun xs H Q => ∃ i j, xs = [.int i, .int j] ∧ Q (.int (if j < i then j else i)) H) fMin2 := fun ds z vs H N Q e r hN k => by
  unfold fMin2 at e
  split at e
  · cases e
    cases r with
    | cons r1 r2 => cases r2 with
      | cons r2 r3 => cases r3; cases r1.intV; cases r2.intV; exact ⟨_, _, rfl, k _ _ (fun _ _ x => x) (.int _)⟩
  · cases e
theorem dat_max2 : DatCall X.K (fun xs H Q => ∃ i j, xs = [.int i, .int j] ∧ Q (.int (if j > i then j else i)) H) fMax2 := fun ds z vs H N Q e r hN k => by
  unfold fMax2 at e
  split at e
  · cases e
    cases r with
    | cons r1 r2 => cases r2 with
      | cons r2 r3 => cases r3; cases r1.intV; cases r2.intV; exact ⟨_, _, rfl, k _ _ (fun _ _ x => x) (.int _)⟩
  · cases e
theorem dat_abs : DatCall X.K (fun xs H Q => ∃ i, xs = [.int i] ∧ Q (.int (if i < 0 then -i else i)) H) fAbs := fun ds z vs H N Q e r hN k => by
  unfold fAbs at e
  split at e
  · cases e
    cases r with
    | cons r1 r2 => cases r2; cases r1.intV; exact ⟨_, rfl, k _ _ (fun _ _ x => x) (.int _)⟩
  · cases e
theorem vrs1 {K : PySem.W.Frag} {H : Hp} {N : Addr → Prop} {vs : List V} {m : MV} (r : VRs K H N vs [m]) : ∃ v, vs = [v] ∧ VR K H N v m := by
  cases r with
  | cons a s => cases s; exact ⟨_, rfl, a⟩
theorem one_of {ms : List MV} (l : ms.length = 1) : ∃ m, ms = [m] := by
  match ms, l with
  | [m], _ => exact ⟨m, rfl⟩
theorem pd_len (hg : Gl X x) (hm : X.mg x = none) (hv : bootBuiltins x = some (.builtin "len")) (ha : PE X e (tG X.K W g)) (hn : x ≠ "__name__" := by decide) (hdb : (x == ("__debug__" : Str)) = false := by decide)
    (he : starEach [e] X.env = (false, eval e X.env) :: starEach [] X.env := by rfl) (hpl : (backTo pos (starEach [] X.env)).any (·.1) = false := by rfl) : PE X (.Call (.Name x p) [e] [] pos) (tG X.K W (gLen g)) :=
  (pe_callB (call_len.or call_lenD) hg hm hv (pa_cons ha pa_nil he) hn hdb he hpl).imp fun σ H Q q =>
    g_one (k := fun m h1 nx ex => kLen h1 m fun n => nx h1 (.i (.int n))) (R := fun v H2 => (∃ x n, [v] = [x] ∧ LenV X.K x H2 n ∧ Q (.int n) H2) ∨ ∃ a kvs, [v] = [V.ref a] ∧ H2 a = some (.dK kvs) ∧ Q (.int kvs.length) H2) q fun Y h2 m v H2 nx ex kk w r hn _ => by
      have fin : ∀ n : Nat, nx h2 (.i (.int n)) → Q (.int n) H2 := fun n q => hn h2 _ _ H2 q (.refl _ _) w (DA.int _)
      cases m with
      | i d =>
        obtain ⟨n, e1, q⟩ := opt_ex (show opt (lenD' d) (fun n => nx h2 (.i (.int n))) from kk)
        cases d <;> first | cases e1 | skip
        · obtain ⟨c, rfl⟩ := ite_some e1
          cases DA.strV r
          exact .inl ⟨_, _, rfl, ⟨by rw [slE]; exact c, rfl⟩, fin _ q⟩
        · obtain ⟨a, xs, rfl, s1, _, s2⟩ := DA.lstV r
          exact .inl ⟨_, _, rfl, .inl ⟨xs, SqL.of s1, s2.length.symm⟩, fin _ q⟩
        · obtain ⟨a, xs, rfl, s1, s2⟩ := DA.tupV r
          exact .inl ⟨_, _, rfl, .inr ⟨xs, s1, s2.length.symm⟩, fin _ q⟩
      | p a =>
        cases (show v = .ref a from r)
        have kk : (match h2 a with | some (.lst ms) => nx h2 (.i (.int ms.length)) | _ => False) := kk
        cases eo : h2 a with
        | none => rw [eo] at kk; exact kk.elim
        | some o =>
          rw [eo] at kk
          obtain ⟨z, e2, r3⟩ := w.ob a o eo
          cases o <;> first | exact kk.elim | skip
          cases z <;> first | exact r3.elim | skip
          exact .inl ⟨_, _, rfl, .inl ⟨_, SqL.of e2, (show VRs _ _ _ _ _ from r3).length.symm⟩, fin _ kk⟩
theorem tyVW {K : PySem.W.Frag} {H : Hp} {N : Addr → Prop} {v : V} {d : PyData} (r : VW K H N v d) : TyX K H v (.type (tyN d)) := by
  rcases r with r | ⟨a, xs, ds, rfl, rfl, e, _⟩
  · exact r.ty
  · exact .base (.lst e)
theorem pd_isi {T : Str} {Tn : String} {P : PyData → Bool} {p1 : Pos} (kt : ∀ d, PySem.W.kitOne X.K (.type (tyN d)) (.type Tn) = some (P d)) (hg : Gl X x) (hm : X.mg x = none) (hv : bootBuiltins x = some (.builtin "isinstance")) (ha : PE X e (tG X.K W g)) (hT : PE X (.Name T p1) (tC (.ty Tn)))
    (hn : x ≠ "__name__" := by decide) (hdb : (x == ("__debug__" : Str)) = false := by decide)
    (he : starEach [e, .Name T p1] X.env = (false, eval e X.env) :: starEach [.Name T p1] X.env := by rfl) (he2 : starEach [.Name T p1] X.env = (false, eval (.Name T p1) X.env) :: starEach [] X.env := by rfl) (hpl : (backTo pos (starEach [.Name T p1] X.env)).any (·.1) = false := by rfl) :
    PE X (.Call (.Name x p) [e, .Name T p1] [] pos) (tG X.K W (gIsi P g)) :=
  (pe_callB call_isi hg hm hv (pa_cons ha (pa_cons hT pa_nil he2) he) hn hdb he hpl).imp fun σ H Q q =>
    g_one (k := fun m h1 nx ex => opt (asD h1 m) fun d => nx h1 (.i (.bool (P d)))) (R := fun v H2 => rIsi X.K [v, .ty Tn] H2 Q) q fun Y h2 m v H2 nx ex kk w r hn _ => by
      obtain ⟨d, e1, kk⟩ := opt_ex kk
      exact ⟨v, _, _, _, _, rfl, .ty _, tyVW (r.asD w e1), kt d, hn h2 _ _ H2 kk (.refl _ _) w (DA.bl _)⟩
/-! calls of defs -/
theorem spG_of {K : PySem.W.Frag} {E : XK} {Q : VK} {Y : Addr → Prop} {h h1 : MH} {H H1 : Hp} {nx : MH → MV → Prop} {ex : GX} {ms : List MV} {vs : List V} (l : ms.length = n) (w1 : WR K Y H1 h1) (e1 : Ext h H h1 H1) (r : VRs K H1 (Ft h1 Y) vs ms)
    (hn : ∀ h' m v H', nx h' m → Ext h H h' H' → WR K Y H' h' → VR K H' (Ft h' Y) v m → Q v H') (hx : ∀ h' x cls d H', ex h' x → Ext h H h' H' → WR K Y H' h' → XR K H' (Ft h' Y) x cls d → E cls d H') (q : F h1 ms nx ex) : spG K n F vs H1 Q E :=
  ⟨Y, h1, ms, nx, ex, l, w1, r, q, fun h' m v H' q' e' w' r' => hn h' m v H' q' (e1.trans e') w' r', fun h' x cls d H' q' e' w' r' => hx h' x cls d H' q' (e1.trans e') w' r'⟩
theorem pd_call0 (G : Fc X.prog X.w X.K X.mg X.base CX0 k f ps (spG X.K n F)) (hr : Room k X.A) (hg : Gl X x) (hm : X.mg x = some (.ref f)) (hk : PySem.W.keepIn X.K (.ref f) = true) (ha : PA X (e :: es) (tGA X.K W n ga))
    (hdb : (x == ("__debug__" : Str)) = false := by decide) (he : starEach (e :: es) X.env = (false, eval e X.env) :: starEach es X.env := by rfl) (hpl : (backTo pos (starEach es X.env)).any (·.1) = false := by rfl) :
    PE X (.Call (.Name x p) (e :: es) [] pos) (tG X.K W (gCall0 F ga)) := (pe_callF (E := fun _ _ _ => False) G hr hg hm hk pass0 ha hdb he hpl).imp fun σ H Q ⟨Y, h, Γ, nx, ex, w, en, hg, hn, hx⟩ =>
  ⟨Y, h, Γ, _, ex, w, en, hg, fun h1 ms vs H1 q l e1 w1 r1 => by
    show spG X.K n F (vs ++ []) H1 Q _
    rw [List.append_nil]
    exact spG_of l w1 e1 r1 hn (fun _ _ _ _ _ z _ _ _ => z) q, hx⟩
theorem pd_call (G : Fc X.prog X.w X.K X.mg X.base (L2.CX X.prog X.w) k f ps (spG X.K n F)) (tk : Takes X W) (hr : Room k X.A) (hg : Gl X x) (hm : X.mg x = some (.ref f)) (hk : PySem.W.keepIn X.K (.ref f) = true) (ha : PA X (e :: es) (tGA X.K W n ga))
    (hdb : (x == ("__debug__" : Str)) = false := by decide) (he : starEach (e :: es) X.env = (false, eval e X.env) :: starEach es X.env := by rfl) (hpl : (backTo pos (starEach es X.env)).any (·.1) = false := by rfl) :
    PE X (.Call (.Name x p) (e :: es) [] pos) (tG X.K W (gCall F ga)) := by
  obtain ⟨fd, F0, b⟩ := G
  exact (pe_callS (E := WE W) F0 hr hg hm hk b (passAt tk) ha hdb he hpl).imp fun σ H Q ⟨Y, h, Γ, nx, ex, w, en, hg, hn, hx⟩ =>
    ⟨Y, h, Γ, _, ex, w, en, hg, fun h1 ms vs H1 q l e1 w1 r1 => spG_of (E := WE W σ) l w1 e1 r1 hn hx q, hx⟩
/-- o.m(e, ..), the wish told with the slots -/
def tMethS (C : Addr) (m : Str) (sp : Sp) (E : St → XK) (ta : TE) (t : TA) : TE := fun σ H Q => ta σ H fun x H1 => ∃ a dx fs, x = .ref a ∧ H1 a = some (.ins C dx fs) ∧ fs.lookup m = none ∧
  t σ H1 fun vs H2 => sp (x :: vs) H2 Q (E σ)
theorem pe_methS {pl : Sem Bool} {o : Expr} {fd : FuncData} {sp : Sp} {E : St → XK} {ta : TE} {t : TA} (he : PE X o ta) (c : Cls X.K C) (hm : Meth X.K C m f) (F : FnOk X.prog X.w X.K X.mg X.base CX k f fd ps sp) (hr : Room k X.A) (hb : Binds X.K fd ps []) (hx : ∀ σ, PassesAt CX X σ (E σ)) (ha : PA X (e :: es) t)
    (hst : starEach (e :: es) X.env = (false, eval e X.env) :: starEach es X.env := by rfl) (hpl : (backTo pos (starEach es X.env)).any (·.1) = false := by rfl)
    (ht : eval (.Call (.Attribute o m apos) (e :: es) [] pos) X.env = (do
      let ov ← eval o X.env; standAt apos.atName; let (f, first) ← holding [ov] (getMethod ov m pl)
      callWith pos f first (backTo pos (starEach (e :: es) X.env)) (backToKw pos (keywordEach [] X.env))) := by rfl) :
    PE X (.Call (.Attribute o m apos) (e :: es) [] pos) (tMethS C m sp E ta t) := by
  refine ⟨fun pins s σ H Q I h => ?_⟩
  refine PySem.W.methodCall_KW (pl := pl) (thn (he.run pins s σ H _ I h) fun u s1 ⟨x, H1, I1, rx, a, dx, fs, ex, ea, l, q⟩ => ?_) ht
  subst ex
  obtain rfl : u = Value.ref a := rx
  refine getmeth_ok I1 ea c hm l ?_
  refine PySem.W.callWith_K (first := [.ref a]) (h₀ := X.base) I.ok.mod.kin hm.kp (thn (ha.run pos pins s1 σ H1 _ I1 q) fun us s2 ⟨vs, H2, I2, r, q2⟩ => ⟨I2.kIn, ?_⟩) hst hpl
  exact run_fnS (us := .ref a :: us) (vs := .ref a :: vs) F hr hb (hx σ) I2 (.cons rfl r) q2
theorem pe_methS0 {pl : Sem Bool} {o : Expr} {fd : FuncData} {sp : Sp} {E : St → XK} {ta : TE} (he : PE X o ta) (c : Cls X.K C) (hm : Meth X.K C m f) (F : FnOk X.prog X.w X.K X.mg X.base CX k f fd ps sp) (hr : Room k X.A) (hb : Binds X.K fd ps []) (hx : ∀ σ, PassesAt CX X σ (E σ))
    (ht : eval (.Call (.Attribute o m apos) [] [] pos) X.env = (do
      let ov ← eval o X.env; standAt apos.atName; let (f, first) ← holding [ov] (getMethod ov m pl)
      callWith pos f first (backTo pos (starEach [] X.env)) (backToKw pos (keywordEach [] X.env))) := by rfl) :
    PE X (.Call (.Attribute o m apos) [] [] pos) (tMethS C m sp E ta tNil) := by
  refine ⟨fun pins s σ H Q I h => ?_⟩
  refine PySem.W.methodCall_KW (pl := pl) (thn (he.run pins s σ H _ I h) fun u s1 ⟨x, H1, I1, rx, a, dx, fs, ex, ea, l, q⟩ => ?_) ht
  subst ex
  obtain rfl : u = Value.ref a := rx
  refine getmeth_ok I1 ea c hm l ?_
  exact PySem.W.callWith_K0 (first := [.ref a]) I1.kIn hm.kp (run_fnS (us := [.ref a]) (vs := [.ref a]) F hr hb (hx σ) I1 (.cons rfl .nil) q)
theorem gMeth_reads {K : PySem.W.Frag} {E : St → XK} {σ : St} {H : Hp} {Q : VK} (hE : ∀ (cls : Value) (d : Option Addr) (H : Hp), W cls d σ H → E σ cls d H) (q : tG K W (gMeth C m F g ga) σ H Q) : tMethS C m (spG K (n + 1) F) E (tG K W g) (tGA K W n ga) σ H Q := by
  obtain ⟨Y, h, Γ, nx, ex, w, en, hg, hn, hx⟩ := q
  refine ⟨Y, h, Γ, _, ex, w, en, hg, fun h1 m1 v1 H1 q1 e1 w1 r1 => ?_, hx⟩
  cases m1 with
  | i _ => exact q1.elim
  | p a =>
    cases (show v1 = .ref a from r1)
    have q1 : (match h1 a with | some (.ins C' _ fs) => C' = C ∧ fldM fs m = none ∧ ga h1 Γ (fun h2 ms => F h2 (.p a :: ms) nx ex) ex | _ => False) := q1
    cases eo : h1 a with
    | none => rw [eo] at q1; exact q1.elim
    | some o =>
      rw [eo] at q1
      obtain ⟨z, e2, r3⟩ := w1.ob a o eo
      cases o <;> first | exact q1.elim | skip
      cases z <;> first | exact r3.elim | skip
      obtain ⟨ec, el, qk⟩ := q1
      subst ec
      obtain ⟨e3, _, r4, r5⟩ := r3
      subst e3
      refine ⟨a, _, _, rfl, e2, (VRs.fld (f := m) r4 r5).2 el, ?_⟩
      refine ⟨Y, h1, Γ, _, ex, w1, en.ext e1, qk, fun h2 ms vs H2 q2 l e2 w2 r2 => ?_, hx.ext e1⟩
      exact spG_of (E := E σ) (by rw [List.length_cons, l]) w2 (e1.trans e2) (.cons (show VR _ _ _ _ (.p a) from rfl) r2) hn (fun h' x cls d H' a b c z => hE _ _ _ (hx h' x cls d H' a b c z)) q2
theorem gMeth0_reads {K : PySem.W.Frag} {E : St → XK} {σ : St} {H : Hp} {Q : VK} (hE : ∀ (cls : Value) (d : Option Addr) (H : Hp), W cls d σ H → E σ cls d H) (q : tG K W (gMeth C m F g gaN) σ H Q) : tMethS C m (spG K 1 F) E (tG K W g) tNil σ H Q := by
  obtain ⟨Y, h, Γ, nx, ex, w, en, hg, hn, hx⟩ := q
  refine ⟨Y, h, Γ, _, ex, w, en, hg, fun h1 m1 v1 H1 q1 e1 w1 r1 => ?_, hx⟩
  cases m1 with
  | i _ => exact q1.elim
  | p a =>
    cases (show v1 = .ref a from r1)
    have q1 : (match h1 a with | some (.ins C' _ fs) => C' = C ∧ fldM fs m = none ∧ F h1 [.p a] nx ex | _ => False) := q1
    cases eo : h1 a with
    | none => rw [eo] at q1; exact q1.elim
    | some o =>
      rw [eo] at q1
      obtain ⟨z, e2, r3⟩ := w1.ob a o eo
      cases o <;> first | exact q1.elim | skip
      cases z <;> first | exact r3.elim | skip
      obtain ⟨ec, el, qk⟩ := q1
      subst ec
      obtain ⟨e3, _, r4, r5⟩ := r3
      subst e3
      refine ⟨a, _, _, rfl, e2, (VRs.fld (f := m) r4 r5).2 el, ?_⟩
      exact spG_of (E := E σ) rfl w1 e1 (.cons (show VR _ _ _ _ (.p a) from rfl) .nil) hn (fun h' x cls d H' a b c z => hE _ _ _ (hx h' x cls d H' a b c z)) qk
end
end My

set_option Elab.async false
set_option linter.all false
set_option maxRecDepth 100000
set_option maxHeartbeats 4000000
/-! ## methods, makings, walks, comprehensions -/
namespace My
open PySem L2
/-- F asks nothing of exceptions -/
def NoEx (F : GF) : Prop := ∀ h ms nx ex, F h ms nx ex → F h ms nx fun _ _ => False
section
variable {X : Cx} {W : WX} {g g1 g2 g3 : GE} {t u : GT} {ga : GA} {e a b c o : Expr} {es : List Expr} {pos p apos : Pos} {x m : Str} {n k : Nat} {f C : Addr} {ps : List Str} {F : GF}
theorem passNo {σ : St} {E : XK} : PassesAt CX0 X σ E := fun _ _ _ _ _ _ z => z.elim
theorem pd_meth {pl : Sem Bool} (cl : Cls X.K C) (hm : Meth X.K C m f) (G : Fc X.prog X.w X.K X.mg X.base (L2.CX X.prog X.w) k f ps (spG X.K (n + 1) F)) (tk : Takes X W) (hr : Room k X.A) (he : PE X o (tG X.K W g)) (ha : PA X (e :: es) (tGA X.K W n ga))
    (hst : starEach (e :: es) X.env = (false, eval e X.env) :: starEach es X.env := by rfl) (hpl : (backTo pos (starEach es X.env)).any (·.1) = false := by rfl)
    (ht : eval (.Call (.Attribute o m apos) (e :: es) [] pos) X.env = (do
      let ov ← eval o X.env; standAt apos.atName; let (f, first) ← holding [ov] (getMethod ov m pl)
      callWith pos f first (backTo pos (starEach (e :: es) X.env)) (backToKw pos (keywordEach [] X.env))) := by rfl) :
    PE X (.Call (.Attribute o m apos) (e :: es) [] pos) (tG X.K W (gMeth C m F g ga)) := by
  obtain ⟨fd, F0, b⟩ := G
  exact (pe_methS (pl := pl) (E := WE W) he cl hm F0 hr b (passAt tk) ha hst hpl ht).imp fun σ H Q q => gMeth_reads (fun _ _ _ z => z) q
theorem pd_meth0 {pl : Sem Bool} (cl : Cls X.K C) (hm : Meth X.K C m f) (G : Fc X.prog X.w X.K X.mg X.base (L2.CX X.prog X.w) k f ps (spG X.K 1 F)) (tk : Takes X W) (hr : Room k X.A) (he : PE X o (tG X.K W g))
    (ht : eval (.Call (.Attribute o m apos) [] [] pos) X.env = (do
      let ov ← eval o X.env; standAt apos.atName; let (f, first) ← holding [ov] (getMethod ov m pl)
      callWith pos f first (backTo pos (starEach [] X.env)) (backToKw pos (keywordEach [] X.env))) := by rfl) :
    PE X (.Call (.Attribute o m apos) [] [] pos) (tG X.K W (gMeth C m F g gaN)) := by
  obtain ⟨fd, F0, b⟩ := G
  exact (pe_methS0 (pl := pl) (E := WE W) he cl hm F0 hr b (passAt tk) ht).imp fun σ H Q q => gMeth0_reads (fun _ _ _ z => z) q
/-- .. of a method that lets nothing out -/
theorem pd_methN {pl : Sem Bool} (cl : Cls X.K C) (hm : Meth X.K C m f) (G : Fc X.prog X.w X.K X.mg X.base CX0 k f ps (spG X.K (n + 1) F)) (hr : Room k X.A) (he : PE X o (tG X.K W g)) (ha : PA X (e :: es) (tGA X.K W n ga))
    (hst : starEach (e :: es) X.env = (false, eval e X.env) :: starEach es X.env := by rfl) (hpl : (backTo pos (starEach es X.env)).any (·.1) = false := by rfl)
    (ht : eval (.Call (.Attribute o m apos) (e :: es) [] pos) X.env = (do
      let ov ← eval o X.env; standAt apos.atName; let (f, first) ← holding [ov] (getMethod ov m pl)
      callWith pos f first (backTo pos (starEach (e :: es) X.env)) (backToKw pos (keywordEach [] X.env))) := by rfl) :
    PE X (.Call (.Attribute o m apos) (e :: es) [] pos) (tG X.K W (gMeth C m F g ga)) := by
  obtain ⟨fd, F0, b⟩ := G
  exact (pe_methS (pl := pl) (E := fun _ _ _ _ => True) he cl hm F0 hr b (fun _ => passNo) ha hst hpl ht).imp fun σ H Q q => gMeth_reads (fun _ _ _ _ => trivial) q
theorem pd_methN0 {pl : Sem Bool} (cl : Cls X.K C) (hm : Meth X.K C m f) (G : Fc X.prog X.w X.K X.mg X.base CX0 k f ps (spG X.K 1 F)) (hr : Room k X.A) (he : PE X o (tG X.K W g))
    (ht : eval (.Call (.Attribute o m apos) [] [] pos) X.env = (do
      let ov ← eval o X.env; standAt apos.atName; let (f, first) ← holding [ov] (getMethod ov m pl)
      callWith pos f first (backTo pos (starEach [] X.env)) (backToKw pos (keywordEach [] X.env))) := by rfl) :
    PE X (.Call (.Attribute o m apos) [] [] pos) (tG X.K W (gMeth C m F g gaN)) := by
  obtain ⟨fd, F0, b⟩ := G
  exact (pe_methS0 (pl := pl) (E := fun _ _ _ _ => True) he cl hm F0 hr b (fun _ => passNo) ht).imp fun σ H Q q => gMeth0_reads (fun _ _ _ _ => trivial) q
/-! C(..) -/
def tMakeS (C : Addr) (sp : Sp) (E : St → XK) (t : TA) : TE := fun σ H Q => t σ H fun vs H1 => ∀ x dx, H1 x = none → H1 dx = none → dx ≠ x →
  sp (.ref x :: vs) (upd (upd H1 dx (.own x)) x (.ins C dx [])) (fun v H2 => v = .non ∧ Q (.ref x) H2) (E σ)
theorem run_makeS {CX : CXT} {fd : FuncData} {sp : Sp} {E : St → XK} {pins : List (Addr × Obj)} {σ : St} {H : Hp} {s : Shared} {Q : VK} {us : List Value} {vs : List V} (M : Mk X.K C f) (F : FnOk X.prog X.w X.K X.mg X.base CX k f fd ps sp) (hr : Room (k + 1) X.A) (hb : Binds X.K fd ps [])
    (hx : PassesAt CX X σ (E σ)) (I : Inv X pins σ H s) (r : Vals vs us)
    (h : ∀ x dx, H x = none → H dx = none → dx ≠ x → sp (.ref x :: vs) (upd (upd H dx (.own x)) x (.ins C dx [])) (fun v H2 => v = .non ∧ Q (.ref x) H2) (E σ)) :
    wpAny (model X.prog X.w) X.A (call (.ref C) us) (EP X pins σ Q) X.xe s := by
  have hq := h (s.heap.objs.size + 1) s.heap.objs.size (I.hok.fresh (Nat.le_succ _)) (I.hok.fresh (Nat.le_refl _)) (Nat.ne_of_lt (Nat.lt_succ_self _))
  have I2 := Inv.made (C := C) I
  have r2 : Vals (V.ref (s.heap.objs.size + 1) :: vs) (Value.ref (s.heap.objs.size + 1) :: us) := .cons rfl r
  have hl : (Value.ref (s.heap.objs.size + 1) :: us ++ ([] : List Value)).length = ps.length := by
    have e := r2.length
    rw [F.len _ _ _ _ hq] at e
    rw [List.append_nil]
    exact e.symm
  have hb2 := hb _ (Value.ref (s.heap.objs.size + 1) :: us) I2.kIn hl
  rw [List.append_nil] at hb2
  refine wpAny_call (make_map (f := f) I.kIn M.makes M.init (beq_iff_eq.mp M.fn) (codeAny_mono (F.run _ X.stack _ _ ⟨Value.ref (s.heap.objs.size + 1) :: us, []⟩ (Value.ref (s.heap.objs.size + 1) :: us) _ _ (E σ) (hr.make C us [])
    (I2.env0.make C us []) hb2 r2 hq) fun r s' hq' => ?_))
  cases r with
  | error e => exact hx pins _ _ e s' I2 hq'
  | ok fl =>
    cases fl with
    | ret u =>
      obtain ⟨v, H', I3, rv, ev, q3⟩ := I2.after hq'
      subst ev
      exact ⟨rv, ⟨V.ref (s.heap.objs.size + 1), H', I3, rfl, q3⟩⟩
    | next => exact False.elim hq'
    | brk => exact False.elim hq'
    | cont => exact False.elim hq'
theorem pe_makeS {CX : CXT} {fd : FuncData} {sp : Sp} {E : St → XK} {t : TA} (M : Mk X.K C f) (F : FnOk X.prog X.w X.K X.mg X.base CX k f fd ps sp) (hr : Room (k + 1) X.A) (hg : Gl X x) (hm : X.mg x = some (.ref C)) (hb : Binds X.K fd ps []) (hx : ∀ σ, PassesAt CX X σ (E σ))
    (ha : PA X (e :: es) t) (hdb : (x == ("__debug__" : Str)) = false := by decide) (he : starEach (e :: es) X.env = (false, eval e X.env) :: starEach es X.env := by rfl) (hpl : (backTo pos (starEach es X.env)).any (·.1) = false := by rfl) :
    PE X (.Call (.Name x p) (e :: es) [] pos) (tMakeS C sp E t) := by
  refine ⟨fun pins s σ H Q I h => ?_⟩
  refine wpAny_Call_Name_kw (ld_glob I hg hm ?_ hdb)
  refine PySem.W.callWith_K (h₀ := X.base) I.ok.mod.kin M.kp (thn (ha.run pos pins s σ H _ I h) fun us s1 ⟨vs, H1, I1, r, q⟩ => ⟨I1.kIn, ?_⟩) he hpl
  exact run_makeS M F hr hb (hx σ) I1 r q
theorem gMake_reads {K : PySem.W.Frag} {E : St → XK} {σ : St} {H : Hp} {Q : VK} (hE : ∀ (cls : Value) (d : Option Addr) (H : Hp), W cls d σ H → E σ cls d H) (q : tG K W (gMake C F ga) σ H Q) : tMakeS C (spG K (n + 1) F) E (tGA K W n ga) σ H Q := by
  obtain ⟨Y, h, Γ, nx, ex, w, en, hg, hn, hx⟩ := q
  refine ⟨Y, h, Γ, _, ex, w, en, hg, fun h1 ms vs H1 q l e1 w1 r1 x dx hx1 hd1 ne => ?_, hx⟩
  have s1 : Same H1 (upd H1 dx (.own x)) := same_new hd1
  have w2 := w1.same s1
  have hx2 : upd H1 dx (.own x) x = none := by rw [upd_ne ne.symm]; exact hx1
  have w3 : WR K Y (upd (upd H1 dx (.own x)) x (.ins C dx [])) (mset h1 x (.ins C dx [])) := w2.put (.inr hx2) ⟨rfl, rfl, rfl, .nil⟩
  have e3 : Ext h1 H1 (mset h1 x (.ins C dx [])) (upd (upd H1 dx (.own x)) x (.ins C dx [])) := Ext.trans (.same s1) (.put (.inr hx2))
  have q := q x dx (w1.noneH hx1) (w1.noneH hd1) ne
  refine ⟨Y, _, .p x :: ms, _, ex, by rw [List.length_cons, l], w3, .cons (show VR _ _ _ _ (.p x) from rfl) (r1.ext e3), q, fun h' m v H' q' e' w' r' => ?_, fun h' x cls d H' q' e' w' r' => hE _ _ _ (hx h' x cls d H' q' (e1.trans (e3.trans e')) w' r')⟩
  obtain ⟨q1, q2⟩ := q'
  refine ⟨?_, hn h' (.p x) (.ref x) H' q2 (e1.trans (e3.trans e')) w' rfl⟩
  cases m with
  | p _ => exact q1.elim
  | i d => cases d <;> first | exact q1.elim | exact DA.noneV r'
theorem pd_make (M : Mk X.K C f) (G : Fc X.prog X.w X.K X.mg X.base (L2.CX X.prog X.w) k f ps (spG X.K (n + 1) F)) (tk : Takes X W) (hr : Room (k + 1) X.A) (hg : Gl X x) (hm : X.mg x = some (.ref C)) (ha : PA X (e :: es) (tGA X.K W n ga))
    (hdb : (x == ("__debug__" : Str)) = false := by decide) (he : starEach (e :: es) X.env = (false, eval e X.env) :: starEach es X.env := by rfl) (hpl : (backTo pos (starEach es X.env)).any (·.1) = false := by rfl) :
    PE X (.Call (.Name x p) (e :: es) [] pos) (tG X.K W (gMake C F ga)) := by
  obtain ⟨fd, F0, b⟩ := G
  exact (pe_makeS (E := WE W) M F0 hr hg hm b (passAt tk) ha hdb he hpl).imp fun σ H Q q => gMake_reads (fun _ _ _ z => z) q
end
/-! ### walks -/
/-- what a turn gives: one value, or a new pair -/
abbrev Row := List MV
def IVR (K : PySem.W.Frag) (H : Hp) (N : Addr → Prop) (v : V) : Row → Prop
  | [m] => VR K H N v m
  | [m1, m2] => ∃ T v1 v2, v = .ref T ∧ H T = some (.tup [v1, v2]) ∧ VR K H N v1 m1 ∧ VR K H N v2 m2
  | _ => False
abbrev GI := MH → Gam → (MH → List Row → (MH → Prop) → Prop) → GX → Prop
/-- what stands in the heap apart from the known objects stays -/
def Stay (h : MH) (H H2 : Hp) : Prop := ∀ b u, H b = some u → h b = none → H2 b = some u
def Tr (K : PySem.W.Frag) (H : Hp) (N : Addr → Prop) (H1 : Hp) (N1 : Addr → Prop) : Prop := ∀ v m, VR K H N v m → VR K H1 N1 v m
def WalkM (K : PySem.W.Frag) (Y : Addr → Prop) (h : MH) (H : Hp) (J : It) (its : List Row) (kc : MH → Prop) : Prop := ∃ (G : Hp → Prop) (Yv : Nat → Hp → V → Hp → Prop), Walk J its.length G Yv ∧
  (∀ Y2 h2 H2, Stay h H H2 → kc h2 → WR K Y2 H2 h2 → G H2) ∧
  ∀ i Y1 h1 H1 v H2, i < its.length → G H1 → Yv i H1 v H2 → kc h1 → WR K Y1 H1 h1 → Stay h H H1 → Tr K H (Ft h Y) H1 (Ft h1 Y1) → Same H1 H2 ∧ ∃ m, its[i]? = some m ∧ IVR K H2 (Ft h1 Y1) v m
def tGI (K : PySem.W.Frag) (W : WX) (g : GI) : TI := fun σ H R => ∃ (Y : Addr → Prop) (h : MH) (Γ : Gam) (nx : MH → List Row → (MH → Prop) → Prop) (ex : GX), WR K Y H h ∧ EnvR K H (Ft h Y) σ Γ ∧ g h Γ nx ex ∧
  (∀ h' its kc H', nx h' its kc → Ext h H h' H' → WR K Y H' h' → kc h' ∧ ∀ J, WalkM K Y h' H' J its kc → R J H') ∧ XW K Y h H ex W σ
@[simp] def rows (ds : List PyData) : List Row := ds.map fun d => [.i d]
@[simp] def giSeq (g : GE) : GI := fun h Γ nx ex => g h Γ (fun h1 m => match m with
  | .i d => opt (itemsOf d) fun ds => nx h1 (rows ds) fun _ => True
  | .p a => (match h1 a with
    | some (.lst ms) => nx h1 (ms.map fun m => [m]) fun h2 => h2 a = some (.lst ms)
    | _ => False)) ex
def intsM (lo : Int) : Nat → List Row
  | 0 => []
  | n + 1 => [.i (.int lo)] :: intsM (lo + 1) n
theorem intsM_at : ∀ {n i : Nat} {lo : Int}, i < n → (intsM lo n)[i]? = some [.i (.int (lo + (i : Nat)))]
  | 0, _, _, h => absurd h (Nat.not_lt_zero _)
  | n + 1, 0, lo, _ => by show some _ = some _; rw [Int.natCast_zero, Int.add_zero]
  | n + 1, i + 1, lo, h => by
    have := intsM_at (n := n) (i := i) (lo := lo + 1) (Nat.lt_of_succ_lt_succ h)
    unfold intsM
    rw [List.getElem?_cons_succ, this, show lo + 1 + ((i : Nat) : Int) = lo + ((i + 1 : Nat) : Int) by omega]
theorem intsM_len : ∀ {n : Nat} {lo : Int}, (intsM lo n).length = n
  | 0, _ => rfl
  | n + 1, lo => by unfold intsM; rw [List.length_cons, intsM_len]
@[simp] def giRg1 (g : GE) : GI := fun h Γ nx ex => g h Γ (fun h1 m => match m with | .i (.int j) => (-(2 ^ 62) ≤ j ∧ j < 2 ^ 62) ∧ nx h1 (intsM 0 j.toNat) (fun _ => True) | _ => False) ex
@[simp] def giRg2 (g1 g2 : GE) : GI := fun h Γ nx ex => g1 h Γ (fun h1 m => g2 h1 Γ (fun h2 m2 => match m, m2 with
  | .i (.int i), .i (.int j) => (-(2 ^ 62) ≤ i ∧ i < 2 ^ 62 ∧ -(2 ^ 62) ≤ j ∧ j < 2 ^ 62) ∧ nx h2 (intsM i (j - i).toNat) (fun _ => True)
  | _, _ => False) ex) ex
@[simp] def enumF : Nat → List MV → List Row
  | _, [] => []
  | k, m :: r => [.i (.int (k : Nat)), m] :: enumF (k + 1) r
@[simp] def enums (ms : List MV) : List Row := enumF 0 ms
theorem enumF_at : ∀ {ms : List MV} {k i : Nat}, (enumF k ms)[i]? = ms[i]?.map fun m => [.i (.int ((k + i : Nat) : Int)), m]
  | [], _, _ => by simp [enumF]
  | m :: r, k, 0 => rfl
  | m :: r, k, i + 1 => by
    have := enumF_at (ms := r) (k := k + 1) (i := i)
    unfold enumF
    rw [List.getElem?_cons_succ, List.getElem?_cons_succ, this, Nat.add_right_comm, Nat.add_assoc]
theorem enumF_len : ∀ {ms : List MV} {k : Nat}, (enumF k ms).length = ms.length
  | [], _ => rfl
  | m :: r, k => by unfold enumF; rw [List.length_cons, List.length_cons, enumF_len]
@[simp] def giEnL (g : GE) : GI := fun h Γ nx ex => g h Γ (fun h1 m => match m with
  | .i (.list ds) => nx h1 (enums (ds.map .i)) fun _ => True
  | .p a => (match h1 a with
    | some (.lst ms) => nx h1 (enums ms) fun h2 => h2 a = some (.lst ms)
    | _ => False)
  | _ => False) ex
@[simp] def giEnT (g : GE) : GI := fun h Γ nx ex => g h Γ (fun h1 m => match m with
  | .i (.tuple ds) => nx h1 (enums (ds.map .i)) fun _ => True
  | _ => False) ex
def signs (s : Str) : List Row := s.cps.toList.map fun c => [.i (.str ⟨#[c]⟩)]
@[simp] def giStr (g : GE) : GI := fun h Γ nx ex => g h Γ (fun h1 m => match m with
  | .i (.str s) => nx h1 (signs s) fun _ => True
  | _ => False) ex
section
variable {X : Cx} {W : WX} {g g1 g2 g3 : GE} {e a b c o tg : Expr} {es : List Expr} {pos p apos : Pos} {x m : Str} {n k : Nat}
/-- a list or a tuple as a walk's source -/
def iSeqA (K : PySem.W.Frag) (tl : TE) : TI := fun σ H R => tl σ H fun x H1 => ∃ a, x = .ref a ∧ (((∃ xs, SqL K H1 a xs) ∧ R (Itl K a) H1) ∨ ((∃ xs, SqT K H1 a xs) ∧ R (Itt K a) H1))
theorem pi_seqA {l : Expr} {tl : TE} (hl : PE X l tl) : PI X tg l (iSeqA X.K tl) := by
  refine ⟨fun pins s σ H R I h => ?_⟩
  refine thn (hl.run pins s σ H _ I h) fun v s1 ⟨x, H1, I1, r1, q1⟩ => ?_
  obtain ⟨a, e, q⟩ := q1
  subst e
  cases r1
  have fp : ∀ b ∈ [s1.heap.objs.size], FpOk X pins H1 b := fun b hb => by
    have e : b = s1.heap.objs.size := by simpa using hb
    subst e
    exact I1.fpOk (Nat.le_refl _) (I1.hok.fresh (Nat.le_refl _))
  rcases q with ⟨⟨xs, hq⟩, q⟩ | ⟨⟨xs, hq⟩, q⟩
  · obtain ⟨its, rv, p, hz⟩ := I1.list hq
    refine wpAny_pyIter_list p.isList ?_
    exact ⟨s1.heap.objs.size, [s1.heap.objs.size], _, _, H1, rfl, I1.kept (t' := s1.toks) fun b o e => Heap.get?_push_of_some _ e, turn_list a _, ⟨_, Heap.get?_push_size _ rfl, rfl, rfl⟩, fp, q⟩
  · obtain ⟨its, rv, p, hz⟩ := I1.tuple hq
    refine wpAny_pyIter_tuple (show s1.heap.IsTuple a its.toArray from p) ?_
    exact ⟨s1.heap.objs.size, [s1.heap.objs.size], _, _, H1, rfl, I1.kept (t' := s1.toks) fun b o e => Heap.get?_push_of_some _ e, turn_tuple a _, ⟨_, Heap.get?_push_size _ rfl, rfl, rfl⟩, fp, q⟩
theorem DAs.at {K : PySem.W.Frag} {H : Hp} {N : Addr → Prop} {vs : List V} {ds : List PyData} {i : Nat} {v : V} (s : DAs K H N vs ds) (e : vs[i]? = some v) : ∃ m, (rows ds)[i]? = some m ∧ IVR K H N v m := by
  obtain ⟨d, e1, r⟩ := s.getV e
  exact ⟨[.i d], by unfold rows; rw [List.getElem?_map, e1]; rfl, r⟩
theorem VRs.getV {K : PySem.W.Frag} {H : Hp} {N : Addr → Prop} : ∀ {vs : List V} {ms : List MV} {i : Nat} {v : V}, VRs K H N vs ms → vs[i]? = some v → ∃ m, ms[i]? = some m ∧ VR K H N v m
  | _, _, _, _, .nil, q => by simp at q
  | _, _, 0, _, .cons a _, q => by cases q; exact ⟨_, rfl, a⟩
  | _, _, i + 1, _, .cons _ s, q => by simpa using VRs.getV (i := i) s (by simpa using q)
theorem sqT_stay {K : PySem.W.Frag} {H H2 : Hp} {a : Addr} {xs : List V} (h : SqT K H a xs) (k : ∀ u, H a = some u → H2 a = some u) : SqT K H2 a xs := by
  rcases h with (h | ⟨o, h⟩) | h
  · exact .inl (.inl (k _ h))
  · exact .inl (.inr ⟨o, k _ h⟩)
  · exact .inr h
/-- the three parts of data that is walked -/
theorem walk_lstD {K : PySem.W.Frag} {Y : Addr → Prop} {h : MH} {H : Hp} {a : Addr} {xs : List V} {ds : List PyData} (e : H a = some (.lst xs)) (n : ¬ Ft h Y a) (s : DAs K H (Ft h Y) xs ds) : WalkM K Y h H (Itl K a) (rows ds) fun _ => True := by
  refine ⟨fun H => H a = some (.lst xs), YAt xs, ?_, fun _ _ H2 k _ _ => k a _ e (Ft.not n).1, fun i Y1 h1 H1 v H2 hi hG ⟨e1, e2⟩ _ w st tr => ?_⟩
  · unfold rows; rw [List.length_map, ← s.length]
    exact walk_list.mono (fun H q => SqL.of q) fun _ _ _ _ _ _ y => y
  · subst e1
    obtain ⟨d, e3, r⟩ := s.getV e2
    exact ⟨fun _ _ x => x, [.i d], by unfold rows; rw [List.getElem?_map, e3]; rfl, tr v (.i d) r⟩
theorem walk_tupD {K : PySem.W.Frag} {Y : Addr → Prop} {h : MH} {H : Hp} {a : Addr} {xs : List V} {ds : List PyData} (e : SqT K H a xs) (s : DAs K H (Ft h Y) xs ds) (kk : (∀ H2, Stay h H H2 → SqT K H2 a xs)) : WalkM K Y h H (Itt K a) (rows ds) fun _ => True := by
  refine ⟨fun H => SqT K H a xs, YAt xs, ?_, fun _ _ H2 k _ _ => kk H2 k, fun i Y1 h1 H1 v H2 hi hG ⟨e1, e2⟩ _ w st tr => ?_⟩
  · unfold rows; rw [List.length_map, ← s.length]
    exact walk_tup
  · subst e1
    obtain ⟨d, e3, r⟩ := s.getV e2
    exact ⟨fun _ _ x => x, [.i d], by unfold rows; rw [List.getElem?_map, e3]; rfl, tr v (.i d) r⟩
theorem DA.tupS {K : PySem.W.Frag} {Y : Addr → Prop} {h : MH} {H : Hp} {v : V} {ds : List PyData} (r : DA K H (Ft h Y) v (.tuple ds)) : ∃ a xs, v = .ref a ∧ SqT K H a xs ∧ DAs K H (Ft h Y) xs ds ∧ ∀ H2, Stay h H H2 → SqT K H2 a xs := by
  cases r with
  | tup e n s => exact ⟨_, _, rfl, SqT.of e, s, fun H2 k => SqT.of (k _ _ e (Ft.not n).1)⟩
  | kt e s => exact ⟨_, _, rfl, e.sq H, s, fun H2 _ => e.sq H2⟩
theorem walk_own {K : PySem.W.Frag} {Y : Addr → Prop} {h : MH} {H : Hp} {a : Addr} {ms : List MV} : WalkM K Y h H (Itl K a) (ms.map fun m => [m]) fun h2 => h2 a = some (.lst ms) := by
  refine ⟨fun H => ∃ xs, H a = some (.lst xs) ∧ xs.length = ms.length, fun i H1 x H' => H' = H1 ∧ ∀ xs, H1 a = some (.lst xs) → xs[i]? = some x, ⟨?_, ?_, ?_⟩, fun Y2 h2 H2 _ k w => ?_, fun i Y1 h1 H1 v H2 hi hG ⟨e1, e2⟩ k w st tr => ?_⟩
  · rintro i H hi ⟨xs, e, l⟩
    rw [List.length_map] at hi
    exact ⟨xs, xs[i]'(by omega), SqL.of e, by simp [show i < xs.length by omega]⟩
  · rintro H ⟨xs, e, l⟩
    rw [List.length_map]
    exact ⟨xs, SqL.of e, by omega⟩
  · rintro i H x H' hi _ ⟨e1, e2⟩
    exact ⟨e1, fun xs e => e2 xs (SqL.of e)⟩
  · obtain ⟨u, e, r⟩ := w.ob a _ k
    cases u <;> first | exact r.elim | skip
    exact ⟨_, e, (show VRs _ _ _ _ _ from r).length⟩
  · subst e1
    obtain ⟨u, e, r⟩ := w.ob a _ k
    cases u <;> first | exact r.elim | skip
    obtain ⟨m, e3, r⟩ := VRs.getV r (e2 _ e)
    exact ⟨fun _ _ x => x, [m], by rw [List.getElem?_map, e3]; rfl, r⟩
theorem gi_seq (he : PE X e (tG X.K W g)) : PI X tg e (tGI X.K W (giSeq g)) := ⟨fun pins s σ H R I ⟨Y, h, Γ, nx, ex, w, en, hg, hn, hx⟩ => (pi_seqA he).run pins s σ H R I
  ⟨Y, h, Γ, _, ex, w, en, hg, fun h1 m v H1 q e1 w1 r => by
    cases m with
    | i d =>
      obtain ⟨ds, e2, q⟩ := opt_ex (show opt (itemsOf d) (fun ds => nx h1 (rows ds) fun _ => True) from q)
      obtain ⟨_, hk⟩ := hn h1 _ _ H1 q e1 w1
      cases d <;> cases e2
      · obtain ⟨a, xs, rfl, s1, s2, s3⟩ := DA.lstV r
        exact ⟨a, rfl, .inl ⟨⟨xs, SqL.of s1⟩, hk _ (walk_lstD s1 s2 s3)⟩⟩
      · obtain ⟨a, xs, rfl, s1, s2, s3⟩ := DA.tupS r
        exact ⟨a, rfl, .inr ⟨⟨xs, s1⟩, hk _ (walk_tupD s1 s2 s3)⟩⟩
    | p a =>
      cases (show v = .ref a from r)
      have q : (match h1 a with | some (.lst ms) => nx h1 (ms.map fun m => [m]) (fun h2 => h2 a = some (.lst ms)) | _ => False) := q
      cases eo : h1 a with
      | none => rw [eo] at q; exact q.elim
      | some o =>
        rw [eo] at q
        obtain ⟨z, e2, r3⟩ := w1.ob a o eo
        cases o <;> first | exact q.elim | skip
        cases z <;> first | exact r3.elim | skip
        obtain ⟨_, hk⟩ := hn h1 _ _ H1 q e1 w1
        exact ⟨a, rfl, .inl ⟨⟨_, SqL.of e2⟩, hk _ walk_own⟩⟩, hx⟩⟩
end
end My

set_option Elab.async false
set_option linter.all false
set_option maxRecDepth 100000
set_option maxHeartbeats 4000000
/-! ## more walks, targets, comprehensions -/
namespace My
open PySem L2
section
variable {X : Cx} {W : WX} {g g1 g2 g3 : GE} {ga : GA} {e a b c o tg : Expr} {es : List Expr} {pos p apos : Pos} {x m : Str} {n k : Nat}
theorem walk_rg {K : PySem.W.Frag} {Y : Addr → Prop} {h : MH} {H : Hp} {lo : Int} {n : Nat} : WalkM K Y h H (Itr lo n) (intsM lo n) fun _ => True := by
  refine ⟨fun _ => True, YFn fun i => .int (lo + i), by rw [intsM_len]; exact walk_range, fun _ _ _ _ _ _ => trivial, fun i Y1 h1 H1 v H2 hi hG ⟨e1, e2⟩ _ w st tr => ?_⟩
  subst e1 e2
  exact ⟨fun _ _ x => x, _, intsM_at (by rw [intsM_len] at hi; exact hi), DA.int _⟩
theorem gi_rg1 (hg : Gl X "range") (hm : X.mg "range" = none) (ha : PE X a (tG X.K W g)) (he : starEach [a] X.env = (false, eval a X.env) :: starEach [] X.env := by rfl) (hs : starEach [a] X.env = [(false, eval a X.env)] := by rfl) : PI X tg (.Call (.Name "range" p) [a] [] pos) (tGI X.K W (giRg1 g)) :=
  ⟨fun pins s σ H R I ⟨Y, h, Γ, nx, ex, w, en, hg', hn, hx⟩ => (pi_range1 hg hm (pa_cons ha pa_nil he) hs).run pins s σ H R I
    ⟨Y, h, Γ, _, ex, w, en, hg', fun h1 m v H1 q e1 w1 r => by
      cases m with
      | p _ => exact q.elim
      | i d =>
        cases d <;> first | exact q.elim | skip
        obtain ⟨b, q⟩ := q
        cases DA.intV r
        exact ⟨_, rfl, b.1, b.2, (hn h1 _ _ H1 q e1 w1).2 _ walk_rg⟩, hx⟩⟩
theorem gi_rg2 (hg : Gl X "range") (hm : X.mg "range" = none) (ha : PE X a (tG X.K W g1)) (hb : PE X b (tG X.K W g2)) (he : starEach [a, b] X.env = (false, eval a X.env) :: starEach [b] X.env := by rfl) (he2 : starEach [b] X.env = (false, eval b X.env) :: starEach [] X.env := by rfl)
    (hs : starEach [a, b] X.env = [(false, eval a X.env), (false, eval b X.env)] := by rfl) (hs2 : starEach [b] X.env = [(false, eval b X.env)] := by rfl) : PI X tg (.Call (.Name "range" p) [a, b] [] pos) (tGI X.K W (giRg2 g1 g2)) :=
  ⟨fun pins s σ H R I ⟨Y, h, Γ, nx, ex, w, en, hg', hn, hx⟩ => (pi_range2 hg hm (pa_cons ha (pa_cons hb pa_nil he2) he) hs hs2).run pins s σ H R I
    ⟨Y, h, Γ, _, ex, w, en, hg', fun h1 m1 v1 H1 q1 e1 w1 r1 => ⟨Y, h1, Γ, _, ex, w1, en.ext e1, q1, fun h2 m2 v2 H2 q e2 w2 r2 => by
      cases m1 with
      | p _ => exact q.elim
      | i d1 =>
        cases m2 with
        | p _ => cases d1 <;> exact q.elim
        | i d2 =>
          cases d1 <;> cases d2 <;> first | exact q.elim | skip
          obtain ⟨b, q⟩ := q
          cases DA.intV r1
          cases DA.intV r2
          exact ⟨_, _, rfl, b, (hn h2 _ _ H2 q (e1.trans e2) w2).2 _ walk_rg⟩, hx.ext e1⟩, hx⟩⟩
theorem pair_ok {K : PySem.W.Frag} {H1 H2 : Hp} {h1 : MH} {Y1 : Addr → Prop} {v x : V} {m : MV} {i : Nat} {T : Addr} (e1 : v = .ref T) (e2 : H1 T = none) (e3 : H2 = upd H1 T (.tup [.int (i : Nat), x])) (r : VR K H1 (Ft h1 Y1) x m) :
    Same H1 H2 ∧ IVR K H2 (Ft h1 Y1) v [.i (.int ((0 + i : Nat) : Int)), m] := by
  subst e1 e3
  exact ⟨same_new e2, T, _, _, rfl, upd_same, by rw [Nat.zero_add]; exact DA.int _, r.ext (.same (same_new e2))⟩
theorem walk_enLD {K : PySem.W.Frag} {Y : Addr → Prop} {h : MH} {H : Hp} {a : Addr} {xs : List V} {ds : List PyData} (e : H a = some (.lst xs)) (n : ¬ Ft h Y a) (s : DAs K H (Ft h Y) xs ds) : WalkM K Y h H (Ite K a) (enums (ds.map .i)) fun _ => True := by
  refine ⟨fun H => H a = some (.lst xs), YPair (fun i => some (.int (i : Nat))) (fun i => xs[i]?), ?_, fun _ _ H2 k _ _ => k a _ e (Ft.not n).1, fun i Y1 h1 H1 v H2 hi hG ⟨T, x, y, e1, e2, e3, e4, e5⟩ _ w st tr => ?_⟩
  · unfold enums
    rw [enumF_len, List.length_map, ← s.length]
    exact walk_enum.mono (fun H q => SqL.of q) fun _ _ _ _ _ _ y => y
  · cases e4
    obtain ⟨d, e6, r⟩ := s.getV e5
    obtain ⟨s1, r1⟩ := pair_ok e1 e2 e3 (tr y (.i d) r)
    exact ⟨s1, _, by unfold enums; rw [enumF_at, List.getElem?_map, e6]; rfl, r1⟩
theorem walk_enTD {K : PySem.W.Frag} {Y : Addr → Prop} {h : MH} {H : Hp} {a : Addr} {xs : List V} {ds : List PyData} (s : DAs K H (Ft h Y) xs ds) (kk : ∀ H2, Stay h H H2 → SqT K H2 a xs) : WalkM K Y h H (Ien K a) (enums (ds.map .i)) fun _ => True := by
  refine ⟨fun H => SqT K H a xs, YPair (fun i => some (.int (i : Nat))) (fun i => xs[i]?), ?_, fun _ _ H2 k _ _ => kk H2 k, fun i Y1 h1 H1 v H2 hi hG ⟨T, x, y, e1, e2, e3, e4, e5⟩ _ w st tr => ?_⟩
  · unfold enums
    rw [enumF_len, List.length_map, ← s.length]
    exact walk_en
  · cases e4
    obtain ⟨d, e6, r⟩ := s.getV e5
    obtain ⟨s1, r1⟩ := pair_ok e1 e2 e3 (tr y (.i d) r)
    exact ⟨s1, _, by unfold enums; rw [enumF_at, List.getElem?_map, e6]; rfl, r1⟩
theorem walk_enOwn {K : PySem.W.Frag} {Y : Addr → Prop} {h : MH} {H : Hp} {a : Addr} {ms : List MV} : WalkM K Y h H (Ite K a) (enums ms) fun h2 => h2 a = some (.lst ms) := by
  refine ⟨fun H => ∃ xs, H a = some (.lst xs) ∧ xs.length = ms.length, fun i H1 v H' => ∃ T x, v = .ref T ∧ H1 T = none ∧ H' = upd H1 T (.tup [.int (i : Nat), x]) ∧ ∀ xs, H1 a = some (.lst xs) → xs[i]? = some x, ⟨?_, ?_, ?_⟩, fun Y2 h2 H2 _ k w => ?_, fun i Y1 h1 H1 v H2 hi hG ⟨T, y, e1, e2, e3, e5⟩ k w st tr => ?_⟩
  · rintro i H hi ⟨xs, e, l⟩
    unfold enums at hi
    rw [enumF_len] at hi
    exact ⟨xs, xs[i]'(by omega), SqL.of e, by simp [show i < xs.length by omega]⟩
  · rintro H ⟨xs, e, l⟩
    unfold enums
    rw [enumF_len]
    exact ⟨xs, SqL.of e, by omega⟩
  · rintro i H x H' hi _ ⟨T, y, e1, e2, e3, e4⟩
    exact ⟨T, y, e1, e2, e3, fun xs e => e4 xs (SqL.of e)⟩
  · obtain ⟨u, e, r⟩ := w.ob a _ k
    cases u <;> first | exact r.elim | skip
    exact ⟨_, e, (show VRs _ _ _ _ _ from r).length⟩
  · obtain ⟨u, e, r⟩ := w.ob a _ k
    cases u <;> first | exact r.elim | skip
    obtain ⟨m, e6, r⟩ := VRs.getV r (e5 _ e)
    obtain ⟨s1, r1⟩ := pair_ok e1 e2 e3 r
    exact ⟨s1, _, by unfold enums; rw [enumF_at, e6]; rfl, r1⟩
theorem gi_enL {elts : List Expr} {kk : Nat} {tpos : Pos} (hg : Gl X "enumerate") (hm : X.mg "enumerate" = none) (ha : PE X e (tG X.K W g)) (he : starEach [e] X.env = (false, eval e X.env) :: starEach [] X.env := by rfl) (hs : starEach [e] X.env = [(false, eval e X.env)] := by rfl) :
    PI X (.Tuple elts kk tpos) (.Call (.Name "enumerate" p) [e] [] pos) (tGI X.K W (giEnL g)) :=
  ⟨fun pins s σ H R I ⟨Y, h, Γ, nx, ex, w, en, hg', hn, hx⟩ => (pi_enum hg hm (pa_cons ha pa_nil he) hs).run pins s σ H R I
    ⟨Y, h, Γ, _, ex, w, en, hg', fun h1 m v H1 q e1 w1 r => by
      cases m with
      | i d =>
        cases d <;> first | exact q.elim | skip
        obtain ⟨a, xs, rfl, s1, s2, s3⟩ := DA.lstV r
        exact ⟨a, xs, rfl, SqL.of s1, (hn h1 _ _ H1 q e1 w1).2 _ (walk_enLD s1 s2 s3)⟩
      | p a =>
        cases (show v = .ref a from r)
        have q : (match h1 a with | some (.lst ms) => nx h1 (enums ms) (fun h2 => h2 a = some (.lst ms)) | _ => False) := q
        cases eo : h1 a with
        | none => rw [eo] at q; exact q.elim
        | some o =>
          rw [eo] at q
          obtain ⟨z, e2, r3⟩ := w1.ob a o eo
          cases o <;> first | exact q.elim | skip
          cases z <;> first | exact r3.elim | skip
          exact ⟨a, _, rfl, SqL.of e2, (hn h1 _ _ H1 q e1 w1).2 _ walk_enOwn⟩, hx⟩⟩
theorem gi_enT {elts : List Expr} {kk : Nat} {tpos : Pos} (hg : Gl X "enumerate") (hm : X.mg "enumerate" = none) (ha : PE X e (tG X.K W g)) (he : starEach [e] X.env = (false, eval e X.env) :: starEach [] X.env := by rfl) (hs : starEach [e] X.env = [(false, eval e X.env)] := by rfl) :
    PI X (.Tuple elts kk tpos) (.Call (.Name "enumerate" p) [e] [] pos) (tGI X.K W (giEnT g)) :=
  ⟨fun pins s σ H R I ⟨Y, h, Γ, nx, ex, w, en, hg', hn, hx⟩ => (pi_enumT hg hm (pa_cons ha pa_nil he) hs).run pins s σ H R I
    ⟨Y, h, Γ, _, ex, w, en, hg', fun h1 m v H1 q e1 w1 r => by
      cases m with
      | p _ => exact q.elim
      | i d =>
        cases d <;> first | exact q.elim | skip
        obtain ⟨a, xs, rfl, s1, s2, s3⟩ := DA.tupS r
        exact ⟨a, xs, rfl, s1, (hn h1 _ _ H1 q e1 w1).2 _ (walk_enTD s2 s3)⟩, hx⟩⟩
theorem walk_sg {K : PySem.W.Frag} {Y : Addr → Prop} {h : MH} {H : Hp} {z : Str} : WalkM K Y h H (Its z) (signs z) fun _ => True := by
  refine ⟨fun _ => True, fun i H v H' => H' = H ∧ ∃ c, z.cps[i]? = some c ∧ v = .str ⟨#[c]⟩, by unfold signs; rw [List.length_map, Array.length_toList]; exact walk_str, fun _ _ _ _ _ _ => trivial, fun i Y1 h1 H1 v H2 hi hG ⟨e1, c, e2, e3⟩ _ w st tr => ?_⟩
  subst e1 e3
  refine ⟨fun _ _ x => x, [.i (.str ⟨#[c]⟩)], ?_, DA.str _⟩
  unfold signs
  rw [List.getElem?_map, Array.getElem?_toList, e2]
  rfl
theorem gi_str (ha : PE X e (tG X.K W g)) : PI X tg e (tGI X.K W (giStr g)) :=
  ⟨fun pins s σ H R I ⟨Y, h, Γ, nx, ex, w, en, hg', hn, hx⟩ => (pi_str ha).run pins s σ H R I
    ⟨Y, h, Γ, _, ex, w, en, hg', fun h1 m v H1 q e1 w1 r => by
      cases m with
      | p _ => exact q.elim
      | i d =>
        cases d <;> first | exact q.elim | skip
        cases DA.strV r
        exact ⟨_, rfl, (hn h1 _ _ H1 q e1 w1).2 _ walk_sg⟩, hx⟩⟩
end
/-! ### targets -/
abbrev GB := MH → Gam → Row → Option Gam
def TgOk (K : PySem.W.Frag) (vs : List Nat) (gt : TG) (b : GB) : Prop := ∀ (Y : Addr → Prop) (h : MH) (H : Hp) (σ : St) (Γ : Gam) (v : V) (r : Row) (Γ' : Gam) (Q : St → Hp → Prop), b h Γ r = some Γ' → WR K Y H h → EnvR K H (Ft h Y) σ Γ → IVR K H (Ft h Y) v r →
  (∀ σ', EnvR K H (Ft h Y) σ' Γ' → wipe σ' vs = wipe σ vs → Q σ' H) → gt v σ H Q
@[simp] def bName (i : Nat) : GB := fun _ Γ r => match r with
  | [m] => some (st Γ i (some m)) | _ => none
@[simp] def setAll : Gam → List Nat → List MV → Option Gam
  | Γ, [], [] => some Γ
  | Γ, i :: is, m :: ms => setAll (st Γ i (some m)) is ms
  | _, _, _ => none
@[simp] def bTup (is : List Nat) : GB := fun _ Γ r => match r with
  | [m1, m2] => setAll Γ is [m1, m2]
  | [.i (.tuple ds)] => setAll Γ is (ds.map .i)
  | _ => none
def gNames : List Nat → TGs
  | [] => gNil
  | i :: is => gCons (gName i) (gNames is)
theorem wipe_set {i : Nat} {x : Option V} : ∀ {vs : List Nat} {σ : St}, i ∈ vs → wipe (σ.set i x) vs = wipe σ vs
  | v :: vs, σ, h => by
    unfold wipe
    by_cases q : i ∈ vs
    · rw [wipe_set q]
    · have e : i = v := by
        rcases List.mem_cons.mp h with z | z
        · exact z
        · exact absurd z q
      subst e
      have : ∀ (us : List Nat) (τ : St), i ∉ us → wipe (τ.set i x) us = (wipe τ us).set i x := fun us => by
        induction us with
        | nil => intro τ _; rfl
        | cons u us ih =>
          intro τ hu
          unfold wipe
          rw [ih τ (fun z => hu (List.mem_cons_of_mem _ z)), List.set_comm _ _ (fun z => hu (by rw [z]; exact List.mem_cons_self))]
      rw [this vs σ q, List.set_set]
theorem tg_name {K : PySem.W.Frag} {vs : List Nat} {i : Nat} (hi : i ∈ vs := by decide) : TgOk K vs (gName i) (bName i) := fun Y h H σ Γ v r Γ' Q e w en rr k => by
  unfold bName at e
  split at e
  · cases e
    exact k _ (en.set rr) (wipe_set hi)
  · cases e
theorem names_ok {K : PySem.W.Frag} {vs : List Nat} {H : Hp} {N : Addr → Prop} : ∀ {is : List Nat} {xs : List V} {ms : List MV} {σ : St} {Γ Γ' : Gam} {Q : St → Hp → Prop}, (∀ i ∈ is, i ∈ vs) → setAll Γ is ms = some Γ' → EnvR K H N σ Γ → VRs K H N xs ms →
    (∀ σ', EnvR K H N σ' Γ' → wipe σ' vs = wipe σ vs → Q σ' H) → gNames is xs σ H Q
  | [], _, _, _, _, _, _, _, e, en, .nil, k => by cases e; exact ⟨rfl, k _ en rfl⟩
  | [], _, _, _, _, _, _, _, e, en, .cons _ _, k => by cases e
  | i :: is, _, _, _, _, _, _, _, e, en, .nil, k => by cases e
  | i :: is, _, _, σ, Γ, _, _, hv, e, en, .cons a s, k => ⟨_, _, rfl, names_ok (fun j hj => hv j (List.mem_cons_of_mem _ hj)) e (en.set a) s fun σ' en' q => k σ' en' (by rw [q]; exact wipe_set (hv i List.mem_cons_self))⟩
theorem setAll_len : ∀ {is : List Nat} {ms : List MV} {Γ Γ' : Gam}, setAll Γ is ms = some Γ' → ms.length = is.length
  | [], [], _, _, _ => rfl
  | [], _ :: _, _, _, e => by cases e
  | _ :: _, [], _, _, e => by cases e
  | i :: is, m :: ms, _, _, e => by rw [List.length_cons, List.length_cons, setAll_len (is := is) (ms := ms) e]
theorem DAs.vrs {K : PySem.W.Frag} {H : Hp} {N : Addr → Prop} : ∀ {vs : List V} {ds : List PyData}, DAs K H N vs ds → VRs K H N vs (ds.map .i)
  | _, _, .nil => .nil
  | _, _, .cons a s => .cons (show VR K H N _ (.i _) from a) (DAs.vrs s)
theorem tg_tup {K : PySem.W.Frag} {vs is : List Nat} {n : Nat} (hn : is.length = n := by rfl) (hv : ∀ i ∈ is, i ∈ vs := by decide) : TgOk K vs (L2.gTup K n (gNames is)) (bTup is) := fun Y h H σ Γ v r Γ' Q e w en rr k => by
  unfold bTup at e
  split at e
  · obtain ⟨T, v1, v2, rfl, eT, r1, r2⟩ := rr
    exact ⟨T, [v1, v2], rfl, SqT.of eT, by rw [← hn, ← setAll_len e]; rfl, names_ok hv e en (.cons r1 (.cons r2 .nil)) k⟩
  · obtain ⟨a, xs, rfl, s1, s2⟩ := DA.tupV rr
    exact ⟨a, xs, rfl, s1, by rw [← hn, ← setAll_len e, List.length_map]; exact s2.length, names_ok hv e en s2.vrs k⟩
  · cases e
/-! ### comprehensions -/
@[simp] def wipeG (Γ : Gam) : List Nat → Gam
  | [] => Γ
  | v :: vs => st (wipeG Γ vs) v none
theorem EnvR.wipe {K : PySem.W.Frag} {H : Hp} {N : Addr → Prop} {σ : St} {Γ : Gam} (en : EnvR K H N σ Γ) : ∀ vs : List Nat, EnvR K H N (wipe σ vs) (wipeG Γ vs)
  | [] => en
  | v :: vs => by
    show EnvR K H N ((L2.wipe σ vs).set v none) (st (wipeG Γ vs) v none)
    exact (EnvR.wipe en vs).del
theorem EnvR.tr {K : PySem.W.Frag} {H H1 : Hp} {N N1 : Addr → Prop} (t : Tr K H N H1 N1) : ∀ {σ : St} {Γ : Gam}, EnvR K H N σ Γ → EnvR K H1 N1 σ Γ
  | _, _, .nil => .nil
  | _, _, .val a s => .val (t _ _ a) (EnvR.tr t s)
  | _, _, .skip s => .skip (EnvR.tr t s)
theorem VRs.tr {K : PySem.W.Frag} {H H1 : Hp} {N N1 : Addr → Prop} (t : Tr K H N H1 N1) : ∀ {vs : List V} {ms : List MV}, VRs K H N vs ms → VRs K H1 N1 vs ms
  | _, _, .nil => .nil
  | _, _, .cons a s => .cons (t _ _ a) (VRs.tr t s)
theorem ObR.tr {K : PySem.W.Frag} {H H1 : Hp} {N N1 : Addr → Prop} (t : Tr K H N H1 N1) {u : HO} {o : MO} (q : ObR K H N u o) : ObR K H1 N1 u o := by
  cases u <;> cases o <;> first | exact q.elim | skip
  · exact VRs.tr t q
  · exact ⟨q.1, VRs.tr t q.2⟩
  · exact ⟨q.1, q.2.1, q.2.2.1, VRs.tr t q.2.2.2⟩
theorem Tr.of {K : PySem.W.Frag} {H H1 : Hp} {N N1 : Addr → Prop} (k : ∀ b u, H b = some u → ¬ N b → H1 b = some u ∧ ¬ N1 b) : Tr K H N H1 N1 := fun v m r => by
  cases m with
  | p a => exact r
  | i d => exact DA.mono (fun b o x n => (k b o x n).1) (fun b o x n => (k b o x n).2) r
/-- D set aside -/
def Yo (Y : Addr → Prop) (D : Addr) : Addr → Prop := fun b => Y b ∨ b = D
section
variable {K : PySem.W.Frag} {Y : Addr → Prop} {H H1 : Hp} {h h1 : MH} {D : Addr}
theorem WR.aside (w : WR K Y H h) (e : H D = none) (us : List V) : WR K (Yo Y D) (upd H D (.lst us)) h := by
  have t : Tr K H (Ft h Y) (upd H D (.lst us)) (Ft h (Yo Y D)) := .of fun b x q n => by
    have hb : b ≠ D := ne_of_none q e
    obtain ⟨n1, n2⟩ := Ft.not n
    exact ⟨by rw [upd_ne hb]; exact q, Ft.mk n1 fun z => z.elim n2 hb⟩
  refine ⟨fun a o q => ?_, fun b y => ?_⟩
  · obtain ⟨z, e1, r⟩ := w.ob a o q
    exact ⟨z, by rw [upd_ne (ne_of_none e1 e)]; exact e1, r.tr t⟩
  · rcases y with y | y
    · obtain ⟨z1, z, z2⟩ := w.ya b y
      exact ⟨z1, z, by rw [upd_ne (ne_of_none z2 e)]; exact z2⟩
    · subst y
      exact ⟨w.noneH e, us, upd_same⟩
theorem WR.ownUpd (w : WR K Y H h) (y : Y D) (us : List V) : WR K Y (upd H D (.lst us)) h ∧ Tr K H (Ft h Y) (upd H D (.lst us)) (Ft h Y) := by
  have t : Tr K H (Ft h Y) (upd H D (.lst us)) (Ft h Y) := .of fun b x q n => by
    have hb : b ≠ D := fun z => n (by rw [z]; exact .inr y)
    exact ⟨by rw [upd_ne hb]; exact q, n⟩
  refine ⟨⟨fun a o q => ?_, fun b yb => ?_⟩, t⟩
  · obtain ⟨z, e1, r⟩ := w.ob a o q
    have ha : a ≠ D := fun z => by rw [z, (w.ya D y).1] at q; cases q
    exact ⟨z, by rw [upd_ne ha]; exact e1, r.tr t⟩
  · obtain ⟨z1, z, z2⟩ := w.ya b yb
    by_cases hb : b = D
    · subst hb; exact ⟨z1, us, upd_same⟩
    · exact ⟨z1, z, by rw [upd_ne hb]; exact z2⟩
theorem WR.back (w : WR K (Yo Y D) H h) : WR K Y H h ∧ Tr K H (Ft h (Yo Y D)) H (Ft h Y) := by
  have t : Tr K H (Ft h (Yo Y D)) H (Ft h Y) := .of fun b x q n => by
    obtain ⟨n1, n2⟩ := Ft.not n
    exact ⟨q, Ft.mk n1 fun z => n2 (.inl z)⟩
  refine ⟨⟨fun a o q => ?_, fun b yb => w.ya b (.inl yb)⟩, t⟩
  obtain ⟨z, e1, r⟩ := w.ob a o q
  exact ⟨z, e1, r.tr t⟩
end
@[simp] def XF : GX := fun _ _ => False
abbrev W0 : WX := fun _ _ _ _ => False
@[simp] def lcL (b : GB) (t : GT) (g : GE) (Γ : Gam) (kc : MH → Prop) (k : MH → List MV → Prop) : List Row → List MV → MH → Prop
  | [], acc, h => kc h ∧ k h acc
  | r :: its, acc, h => kc h ∧ opt (b h Γ r) fun Γ1 => t h Γ1 (fun h1 c => if c = true then g h1 Γ1 (fun h2 y => lcL b t g Γ kc k its (acc ++ [y]) h2) XF else lcL b t g Γ kc k its acc h1) XF
/-- [g for b in gi if t] -/
@[simp] def gLC (gi : GI) (vs : List Nat) (b : GB) (t : GT) (g : GE) : GE := fun h Γ nx ex => gi h Γ (fun h1 its kc => its.length ≤ SL ∧ lcL b t g (wipeG Γ vs) kc (fun h2 acc => opt (allI acc) fun ds => nx h2 (.i (.list ds))) its [] h1) ex
/-- .. a new known list -/
@[simp] def gLCn (gi : GI) (vs : List Nat) (b : GB) (t : GT) (g : GE) : GE := fun h Γ nx ex => gi h Γ (fun h1 its kc => its.length ≤ SL ∧ lcL b t g (wipeG Γ vs) kc (fun h2 acc => ∀ a, h2 a = none → nx (mset h2 a (.lst acc)) (.p a)) its [] h1) ex
@[simp] def qYes : GT := fun h _ nx _ => nx h true
section
variable {X : Cx} {W : WX}
theorem ptd_nil : PTs X [] (tGT X.K W qYes) := ⟨fun pins s σ H Q I ⟨Y, h, Γ, nx, ex, w, en, hg, hn, hx⟩ => pts_nil.run pins s σ H Q I (hn h true H hg (.refl _ _) w)⟩
theorem ptd_one {c : Expr} {t : GT} (hc : PT X c (tGT X.K W t)) : PTs X [c] (tGT X.K W t) := pts_one hc
theorem lc_main {K : PySem.W.Frag} {Y : Addr → Prop} {h1 : MH} {H1 : Hp} {J : It} {its : List Row} {kc : MH → Prop} {b : GB} {t : GT} {g : GE} {Γ : Gam} {k : MH → List MV → Prop} {gt : TG} {vs : List Nat} {σ : St} {D : Addr} {Qd : Hp → Prop}
    (wk : WalkM K Y h1 H1 J its kc) (w1 : WR K Y H1 h1) (en : EnvR K H1 (Ft h1 Y) σ Γ) (hD : H1 D = none) (hb : TgOk K vs gt b) (hl : its.length ≤ SL) (q : lcL b t g (wipeG Γ vs) kc k its [] h1)
    (hd : ∀ h2 acc H2 xs, k h2 acc → WR K (Yo Y D) H2 h2 → Ext h1 H1 h2 H2 → H2 D = some (.lst xs) → VRs K H2 (Ft h2 (Yo Y D)) xs acc → Qd H2) :
    ∃ W : Nat → Nat → Hp → Prop, (∃ m, W 0 m (upd H1 D (.lst []))) ∧ ∀ i m H, W i m H →
      (J.stop i H ∧ Qd H) ∨ (J.go i H ∧ ∃ Nx : Hp → Prop, (∀ H', Nx H' → ∃ m', m' < m ∧ W (i + 1) m' H') ∧ ∀ x H', J.yld i H x H' → gt x (wipe σ vs) H' fun σ2 H2 => wipe σ2 vs = wipe σ vs ∧ (tGT K W0 t) σ2 H2 fun b H3 =>
        if b = true then (tG K W0 g) σ2 H3 fun y H4 => ∃ acc, H4 D = some (.lst acc) ∧ acc.length < sizeLine ∧ Nx (upd H4 D (.lst (acc ++ [y]))) else Nx H3) := by
  obtain ⟨G, Yv, wk, wG, wY⟩ := wk
  have xw0 : ∀ {Y : Addr → Prop} {h : MH} {H : Hp} {σ : St}, XW K Y h H XF W0 σ := fun {_ _ _ _} _ _ _ _ _ z _ _ _ => z
  have ww : ∀ (τ : St) (us : List Nat), wipe (wipe τ us) us = wipe τ us := fun τ us => by
    have : ∀ (us ws : List Nat), (∀ u ∈ us, u ∈ ws) → wipe (wipe τ us) ws = wipe τ ws := fun us => by
      induction us with
      | nil => intro ws _; rfl
      | cons u us ih =>
        intro ws hu
        show wipe ((wipe τ us).set u none) ws = wipe τ ws
        rw [wipe_set (hu u List.mem_cons_self)]
        exact ih ws fun x hx => hu x (List.mem_cons_of_mem _ hx)
    exact this us us fun _ h => h
  refine lc_it wk (fun i Hc => ∃ hc acc xs, Hc D = some (.lst xs) ∧ VRs K Hc (Ft hc (Yo Y D)) xs acc ∧ WR K (Yo Y D) Hc hc ∧ Ext h1 H1 hc Hc ∧ acc.length ≤ i ∧ lcL b t g (wipeG Γ vs) kc k (its.drop i) acc hc) ?_ ?_ ?_ ?_
  · exact ⟨h1, [], [], upd_same, .nil, w1.aside hD _, .same (same_new hD), Nat.le_refl _, by rw [List.drop_zero]; exact q⟩
  · rintro i Hc hi ⟨hc, acc, xs, e1, e2, e3, e4, e5, e6⟩
    refine wG _ hc Hc (fun b u x y => (e4 b u x y).1) ?_ e3
    cases z : its.drop i <;> rw [z] at e6 <;> exact e6.1
  · rintro i x Hc H' hi ⟨hc, acc, xs, e1, e2, e3, e4, e5, e6⟩ y
    have tr : Tr K H1 (Ft h1 Y) Hc (Ft hc (Yo Y D)) := .of fun b u x n => by
      obtain ⟨n1, n2⟩ := Ft.not n
      obtain ⟨p1, p2⟩ := e4 b u x n1
      exact ⟨p1, Ft.mk p2 fun z => z.elim n2 (ne_of_none x hD)⟩
    have st : Stay h1 H1 Hc := fun b u x y => (e4 b u x y).1
    have ed : its.drop i = its[i] :: its.drop (i + 1) := List.drop_eq_getElem_cons hi
    rw [ed] at e6
    obtain ⟨kc1, e6⟩ := e6
    obtain ⟨sm, r, er, rr⟩ := wY i _ hc Hc x H' hi (wG _ hc Hc st kc1 e3) y kc1 e3 st tr
    rw [List.getElem?_eq_getElem hi] at er
    cases er
    obtain ⟨Γ1, eb, e6⟩ := opt_ex e6
    have w' := e3.same sm
    have en' : EnvR K H' (Ft hc (Yo Y D)) (wipe σ vs) (wipeG Γ vs) := ((en.tr tr).ext (.same sm)).wipe vs
    have eD : H' D = some (.lst xs) := sm _ _ e1
    have e2' := e2.ext (Ext.same sm)
    refine hb _ hc H' _ _ x _ Γ1 _ eb w' en' rr fun σ' en2 hw => ⟨by rw [hw, ww], ?_⟩
    have e4' : Ext h1 H1 hc H' := e4.trans (.same sm)
    refine ⟨_, hc, Γ1, _, XF, w', en2, e6, fun h2 c H2 q2 x2 w2 => ?_, xw0⟩
    cases c with
    | false => exact iteF ⟨h2, acc, xs, (x2 D _ eD (w'.ya D (.inr rfl)).1).1, e2'.ext x2, w2, e4'.trans x2, by omega, by rw [if_neg Bool.noConfusion] at q2; exact q2⟩
    | true =>
      rw [if_pos rfl] at q2
      refine iteT ⟨_, h2, Γ1, _, XF, w2, en2.ext x2, q2, fun h3 y v H3 q3 x3 w3 r3 => ?_, xw0⟩
      have eD2 : H2 D = some (.lst xs) := (x2 D _ eD (w'.ya D (.inr rfl)).1).1
      have eD3 : H3 D = some (.lst xs) := (x3 D _ eD2 (w2.ya D (.inr rfl)).1).1
      have e23 := (e2'.ext x2).ext x3
      obtain ⟨w4, t4⟩ := w3.ownUpd (D := D) (.inr rfl) (xs ++ [v])
      refine ⟨xs, eD3, by rw [e23.length, slE]; omega, h3, acc ++ [y], xs ++ [v], upd_same, (e23.append (.cons r3 .nil)).tr t4, w4, fun c u p1 p2 => ?_, by rw [List.length_append]; show acc.length + 1 ≤ i + 1; omega, q3⟩
      obtain ⟨p3, p4⟩ := ((e4'.trans x2).trans x3) c u p1 p2
      exact ⟨by rw [upd_ne (ne_of_none p1 hD)]; exact p3, p4⟩
  · rintro Hc ⟨hc, acc, xs, e1, e2, e3, e4, e5, e6⟩
    rw [List.drop_length] at e6
    exact hd hc acc Hc xs e6.2 e3 e4 e1 e2
variable {elt tg iter : Expr} {ifs : List Expr} {scope : Scope} {own : List (Str × Nat)} {pos : Pos} {gi : GI} {gt : TG} {b : GB} {t : GT} {g : GE}
variable {vs : List Nat}
theorem gLC_reads (hb : TgOk X.K vs gt b) {σ : St} {H : Hp} {Q : VK} (q : tG X.K W (gLC gi vs b t g) σ H Q) : tLc (tGI X.K W gi) gt (tGT X.K W0 t) (tG X.K W0 g) vs σ H Q := by
  obtain ⟨Y, h, Γ, nx, ex, w, en, hg', hn, hx⟩ := q
  exact ⟨Y, h, Γ, _, ex, w, en, hg', fun h1 its kc H1 q e1 w1 => ⟨by
    obtain ⟨_, q⟩ := q
    cases its <;> exact q.1, fun J wk D hD => lc_main wk w1 (en.ext e1) hD hb q.1 q.2 fun h2 acc H2 xs q2 w2 e2 eD r2 => by
      obtain ⟨ds, ed, q2⟩ := opt_ex q2
      obtain ⟨w3, t3⟩ := w2.back
      refine hn h2 _ (.ref D) H2 q2 (e1.trans e2) w3 (DA.lst eD (Ft.mk (w2.ya D (.inr rfl)).1 fun z => ?_) ((r2.tr t3).all ed))
      obtain ⟨_, u, z2⟩ := w1.ya D z
      rw [hD] at z2; cases z2⟩, hx⟩
theorem pd_lc (hc : X.calm = true) (hN : X.N.Nodup) (hi : PI X tg iter (tGI X.K W gi)) (ok : BlkOk X.N X.env.scope scope own)
    (hg : ∀ (s : Shared) (H : Hp) (C : Addr) (cl : List (Str × Addr)) (fp : List Addr), PG (X.blk s H scope (compEnvC scope cl C X.env) fp) tg gt) (hb : TgOk X.K (own.map (·.2)) gt b)
    (ht : ∀ (s : Shared) (H : Hp) (C : Addr) (cl : List (Str × Addr)) (fp : List Addr), PTs (X.blk s H scope (compEnvC scope cl C X.env) fp) ifs (tGT X.K W0 t))
    (he : ∀ (s : Shared) (H : Hp) (C : Addr) (cl : List (Str × Addr)) (fp : List Addr), PE (X.blk s H scope (compEnvC scope cl C X.env) fp) elt (tG X.K W0 g)) (hs : ∀ x, foldedSetIterable iter X.env x = pure x := by intro _; rfl) :
    PE X (.ListComp elt [⟨tg, iter, ifs, 0⟩] scope pos) (tG X.K W (gLC gi (own.map (·.2)) b t g)) := (pe_lc hc hN hi ok hg ht he hs).imp fun σ H Q q => gLC_reads hb q
theorem gLCn_reads (hb : TgOk X.K vs gt b) {σ : St} {H : Hp} {Q : VK} (q : tG X.K W (gLCn gi vs b t g) σ H Q) : tLc (tGI X.K W gi) gt (tGT X.K W0 t) (tG X.K W0 g) vs σ H Q := by
  obtain ⟨Y, h, Γ, nx, ex, w, en, hg', hn, hx⟩ := q
  exact ⟨Y, h, Γ, _, ex, w, en, hg', fun h1 its kc H1 q e1 w1 => ⟨by
    obtain ⟨_, q⟩ := q
    cases its <;> exact q.1, fun J wk D hD => lc_main wk w1 (en.ext e1) hD hb q.1 q.2 fun h2 acc H2 xs q2 w2 e2 eD r2 => by
      obtain ⟨w3, t3⟩ := w2.back
      have hn2 := (w2.ya D (.inr rfl)).1
      have yD : ¬ Y D := fun z => by
        obtain ⟨_, u, z2⟩ := w1.ya D z
        rw [hD] at z2; cases z2
      have t4 : Tr X.K H2 (Ft h2 (Yo Y D)) H2 (Ft (mset h2 D (.lst acc)) Y) := .of fun b u x n => by
        obtain ⟨n1, n2⟩ := Ft.not n
        have hb : b ≠ D := fun z => n2 (.inr z)
        exact ⟨x, Ft.mk (by rw [mset_ne hb]; exact n1) fun z => n2 (.inl z)⟩
      have w4 : WR X.K Y H2 (mset h2 D (.lst acc)) := by
        refine ⟨fun a o q => ?_, fun b y => ?_⟩
        · by_cases ha : a = D
          · subst ha
            rw [mset_same] at q
            cases q
            exact ⟨_, eD, r2.tr t4⟩
          · rw [mset_ne ha] at q
            obtain ⟨u, p1, p2⟩ := w2.ob a o q
            exact ⟨u, p1, p2.tr t4⟩
        · have hb : b ≠ D := fun z => yD (by rw [← z]; exact y)
          rw [mset_ne hb]
          exact w3.ya b y
      refine hn _ (.p D) (.ref D) H2 (q2 D hn2) (e1.trans fun b u p1 p2 => ?_) w4 rfl
      obtain ⟨p3, p4⟩ := e2 b u p1 p2
      exact ⟨p3, by rw [mset_ne (ne_of_none p1 hD)]; exact p4⟩⟩, hx⟩
theorem pd_lcN (hc : X.calm = true) (hN : X.N.Nodup) (hi : PI X tg iter (tGI X.K W gi)) (ok : BlkOk X.N X.env.scope scope own)
    (hg : ∀ (s : Shared) (H : Hp) (C : Addr) (cl : List (Str × Addr)) (fp : List Addr), PG (X.blk s H scope (compEnvC scope cl C X.env) fp) tg gt) (hb : TgOk X.K (own.map (·.2)) gt b)
    (ht : ∀ (s : Shared) (H : Hp) (C : Addr) (cl : List (Str × Addr)) (fp : List Addr), PTs (X.blk s H scope (compEnvC scope cl C X.env) fp) ifs (tGT X.K W0 t))
    (he : ∀ (s : Shared) (H : Hp) (C : Addr) (cl : List (Str × Addr)) (fp : List Addr), PE (X.blk s H scope (compEnvC scope cl C X.env) fp) elt (tG X.K W0 g)) (hs : ∀ x, foldedSetIterable iter X.env x = pure x := by intro _; rfl) :
    PE X (.ListComp elt [⟨tg, iter, ifs, 0⟩] scope pos) (tG X.K W (gLCn gi (own.map (·.2)) b t g)) := (pe_lc hc hN hi ok hg ht he hs).imp fun σ H Q q => gLCn_reads hb q
end
end My

set_option Elab.async false
set_option linter.all false
set_option maxRecDepth 100000
set_option maxHeartbeats 4000000
/-! ## statements, defs -/
namespace My
open PySem L2
@[simp] def gsN : GS := fun h Γ nx _ _ => nx h Γ
@[simp] def gsC (a b : GS) : GS := fun h Γ nx rt ex => a h Γ (fun h1 Γ1 => b h1 Γ1 nx rt ex) rt ex
@[simp] def gsSet (i : Nat) (g : GE) : GS := fun h Γ nx _ ex => g h Γ (fun h1 m => nx h1 (st Γ i (some m))) ex
@[simp] def gsAsg (b : GB) (g : GE) : GS := fun h Γ nx _ ex => g h Γ (fun h1 m => opt (b h1 Γ [m]) (nx h1)) ex
@[simp] def gsPar (i j : Nat) (ga : GA) : GS := fun h Γ nx _ ex => ga h Γ (fun h1 ms => match ms with | [a, b] => nx h1 (st (st Γ i (some a)) j (some b)) | _ => False) ex
@[simp] def gsPar3 (i j l : Nat) (ga : GA) : GS := fun h Γ nx _ ex => ga h Γ (fun h1 ms => match ms with | [a, b, c] => nx h1 (st (st (st Γ i (some a)) j (some b)) l (some c)) | _ => False) ex
@[simp] def gsExpr (g : GE) : GS := fun h Γ nx _ ex => g h Γ (fun h1 _ => nx h1 Γ) ex
@[simp] def gsRet (g : GE) : GS := fun h Γ _ rt ex => g h Γ rt ex
@[simp] def gsRetN : GS := fun h _ _ rt _ => rt h (.i .none)
@[simp] def gsIf (t : GT) (a b : GS) : GS := fun h Γ nx rt ex => t h Γ (fun h1 c => if c = true then a h1 Γ nx rt ex else b h1 Γ nx rt ex) ex
def gsNever : GS := fun _ _ _ _ _ => False
@[simp] def frL (b : GB) (body : GS) (kc : MH → Prop) (nx : MH → Gam → Prop) (rt : MH → MV → Prop) (ex : GX) : List Row → MH → Gam → Prop
  | [], h, Γ => kc h ∧ nx h Γ
  | r :: its, h, Γ => kc h ∧ opt (b h Γ r) fun Γ1 => body h Γ1 (fun h2 Γ2 => frL b body kc nx rt ex its h2 Γ2) rt ex
@[simp] def gsFor (gi : GI) (b : GB) (body : GS) : GS := fun h Γ nx rt ex => gi h Γ (fun h1 its kc => frL b body kc nx rt ex its h1 Γ) ex
def whL (t : GT) (body : GS) (nx : MH → Gam → Prop) (rt : MH → MV → Prop) (ex : GX) : Nat → MH → Gam → Prop
  | 0, _, _ => False
  | n + 1, h, Γ => t h Γ (fun h1 c => if c = true then body h1 Γ (fun h2 Γ2 => whL t body nx rt ex n h2 Γ2) rt ex else nx h1 Γ) ex
@[simp] def gsWhile (t : GT) (body : GS) : GS := fun h Γ nx rt ex => ∃ n, whL t body nx rt ex n h Γ
/-- xs[i] = m -/
@[simp] def kPutL (h : MH) (mo mi m : MV) (k : MH → Prop) : Prop :=
  match mo, mi with
  | .p a, .i (.int z) => (match h a with
    | some (.lst ms) => opt (ixN ms.length z) fun j => k (mset h a (.lst (ms.set j m)))
    | _ => False)
  | _, _ => False
@[simp] def gsPutL (go gi ge : GE) : GS := fun h Γ nx _ ex => ge h Γ (fun h1 m => go h1 Γ (fun h2 mo => gi h2 Γ (fun h3 mi => kPutL h3 mo mi m fun h4 => nx h4 Γ) ex) ex) ex
def putKM (kvs : List (Key × MV)) (k : Key) (v : MV) : List (Key × MV) :=
  if (kvs.any fun kv => decide (kv.1 = k)) = true then kvs.map (fun kv => if kv.1 = k then (kv.1, v) else kv) else kvs ++ [(k, v)]
@[simp] def kPutD (h : MH) (mo mi m : MV) (k : MH → Prop) : Prop :=
  match mo with
  | .p a => (match h a with
    | some (.dct kvs) => kvs.length < SL ∧ opt (keyM mi) fun q => k (mset h a (.dct (putKM kvs q m)))
    | _ => False)
  | _ => False
@[simp] def gsPutD (go gi ge : GE) : GS := fun h Γ nx _ ex => ge h Γ (fun h1 m => go h1 Γ (fun h2 mo => gi h2 Γ (fun h3 mi => kPutD h3 mo mi m fun h4 => nx h4 Γ) ex) ex) ex
@[simp] def putFM (f : Str) (v : MV) : List (Str × MV) → List (Str × MV)
  | [] => [(f, v)]
  | (g, x) :: r => if g = f then (g, v) :: r else (g, x) :: putFM f v r
@[simp] def kPutF (C : Addr) (f : Str) (h : MH) (mo m : MV) (k : MH → Prop) : Prop :=
  match mo with
  | .p a => (match h a with
    | some (.ins C' dx fs) => C' = C ∧ fs.length < 1000 ∧ k (mset h a (.ins C dx (putFM f m fs)))
    | _ => False)
  | _ => False
@[simp] def gsFld (C : Addr) (f : Str) (go ge : GE) : GS := fun h Γ nx _ ex => ge h Γ (fun h1 m => go h1 Γ (fun h2 mo => kPutF C f h2 mo m fun h3 => nx h3 Γ) ex) ex
/-- x op= e -/
@[simp] def gsAug (i : Nat) (f : PyData → PyData → Option PyData) (g : GE) : GS := fun h Γ nx _ ex => opt (lk Γ i) fun x => match x with
  | .i d => g h Γ (fun h1 m => opt (asD h1 m) fun y => opt (f d y) fun z => nx h1 (st Γ i (some (.i z)))) ex
  | .p _ => False
@[simp] def gsAugF (C : Addr) (fn : Str) (f : PyData → PyData → Option PyData) (go ge : GE) : GS := fun h Γ nx _ ex => go h Γ (fun h1 mo => kFld C fn h1 mo fun x => match x with
  | .i d => ge h1 Γ (fun h2 m => opt (asD h2 m) fun y => opt (f d y) fun z => kPutF C fn h2 mo (.i z) fun h3 => nx h3 Γ) ex
  | .p _ => False) ex
@[simp] def gsAugL (f : PyData → PyData → Option PyData) (go gi ge : GE) : GS := fun h Γ nx _ ex => go h Γ (fun h1 mo => gi h1 Γ (fun h2 mi => kIx h2 mo mi fun x => match x with
  | .i d => ge h2 Γ (fun h3 m => opt (asD h3 m) fun y => opt (f d y) fun z => kPutL h3 mo mi (.i z) fun h4 => nx h4 Γ) ex
  | .p _ => False) ex) ex
/-! lists' own doings -/
@[simp] def kOwn (h : MH) (m : MV) (k : Addr → List MV → Prop) : Prop :=
  match m with
  | .p a => (match h a with
    | some (.lst ms) => k a ms
    | _ => False)
  | _ => False
@[simp] def gApp (go ge : GE) : GE := fun h Γ nx ex => go h Γ (fun h1 mo => kOwn h1 mo fun _ _ => ge h1 Γ (fun h2 m => kOwn h2 mo fun a ms => ms.length < SL ∧ nx (mset h2 a (.lst (ms ++ [m]))) (.i .none)) ex) ex
@[simp] def gPop (go : GE) : GE := fun h Γ nx ex => go h Γ (fun h1 mo => kOwn h1 mo fun a ms => opt ms.getLast? fun m => nx (mset h1 a (.lst ms.dropLast)) m) ex
section
variable {X : Cx} {W : WX} {g g1 g2 g3 go gi ge : GE} {t : GT} {ga : GA} {gs gs2 : GS} {e a b c o value : Expr} {es : List Expr} {s : Stmt} {rest body : List Stmt} {pos p apos cpos : Pos} {x y z : Str} {n k i j l : Nat}
theorem sd_nil : PSs X [] (tGS X.K W gsN) := pss_nil.imp fun D σ H ⟨Y, h, Γ, nx, rt, ex, w, en, hg, hn, hr, hx⟩ => hn h Γ σ H hg (.refl _ _) w en
theorem sd_cons (h1 : PS X s (tGS X.K W gs)) (h2 : PSs X rest (tGS X.K W gs2)) : PSs X (s :: rest) (tGS X.K W (gsC gs gs2)) := (pss_cons h1 h2).imp fun D σ H ⟨Y, h, Γ, nx, rt, ex, w, en, hg, hn, hr, hx⟩ =>
  ⟨Y, h, Γ, _, rt, ex, w, en, hg, fun h1 Γ1 σ1 H1 q e1 w1 en1 => ⟨Y, h1, Γ1, nx, rt, ex, w1, en1, q, fun h2 Γ2 σ2 H2 q2 e2 w2 en2 => hn h2 Γ2 σ2 H2 q2 (e1.trans e2) w2 en2, fun h2 m v H2 q2 e2 w2 r2 => hr h2 m v H2 q2 (e1.trans e2) w2 r2, fun σ' => (hx σ').ext e1⟩, hr, hx⟩
theorem sd_one (h1 : PS X s (tGS X.K W gs)) : PSs X [s] (tGS X.K W gs) := pss_one h1
theorem sd_never : PS X s (tGS X.K W gsNever) := ⟨fun _ _ _ _ _ _ ⟨_, _, _, _, _, _, _, _, hg, _⟩ => hg.elim⟩
theorem sd_set {p1 : Pos} (hN : X.N.Nodup) (hi : X.N[i]? = some x) (hx : Loc X.env.scope x) (he : PE X e (tG X.K W g)) (hs : swapsWith e (some (.Name x p1)) pos.line X.env = pure false := by rfl) (hf : X.fn x = true ∨ X.env.scope.names.lookup x = some .local := by first | exact .inl rfl | exact .inr rfl | assumption) :
    PS X (.Assign [.Name x p1] e pos) (tGS X.K W (gsSet i g)) := (ps_set hN hi hx he hs hf).imp fun D σ H ⟨Y, h, Γ, nx, rt, ex, w, en, hg, hn, hr, hx⟩ =>
  ⟨Y, h, Γ, _, ex, w, en, hg, fun h1 m v H1 q e1 w1 r => hn h1 _ _ H1 q e1 w1 ((en.ext e1).set r), hx σ⟩
theorem sd_asg {tg : Expr} {gt : TG} {b : GB} {vs : List Nat} (hb : TgOk X.K vs gt b) (he : PE X e (tG X.K W g)) (hg : PG X tg gt) (hs : swapsWithSole [tg] e pos.line X.env = pure false := by rfl) (hw : swappedStores [tg] e X.env = pure none := by rfl)
    (h1 : (assignEach [tg] X.env).map (·.2) = [assign tg X.env] := by rfl) : PS X (.Assign [tg] e pos) (tGS X.K W (gsAsg b g)) := (ps_asg he hg hs hw h1).imp fun D σ H ⟨Y, h, Γ, nx, rt, ex, w, en, hg, hn, hr, hx⟩ =>
  ⟨Y, h, Γ, _, ex, w, en, hg, fun h1 m v H1 q e1 w1 r => by
    obtain ⟨Γ1, e2, q⟩ := opt_ex q
    exact hb Y h1 H1 σ Γ v [m] Γ1 _ e2 w1 (en.ext e1) r fun σ' en' _ => hn h1 Γ1 σ' H1 q e1 w1 en', hx σ⟩
theorem sd_par {a b : Expr} {px py pt : Pos} {kt k2 pt2} (hc : X.calm = true) (hN : X.N.Nodup) (hi : X.N[i]? = some x) (hj : X.N[j]? = some y) (hij : i ≠ j)
    (hx : X.env.scope.names.lookup x = some .local) (hy : X.env.scope.names.lookup y = some .local) (ha : PA X [a, b] (tGA X.K W n ga))
    (hw : swappedStores [.Tuple [.Name x px, .Name y py] kt pt] (.Tuple [a, b] k2 pt2) X.env = pure (some [x, y]))
    (hs : swapsWithSole [.Tuple [.Name x px, .Name y py] kt pt] (.Tuple [a, b] k2 pt2) pos.line X.env = pure false := by rfl) :
    PS X (.Assign [.Tuple [.Name x px, .Name y py] kt pt] (.Tuple [a, b] k2 pt2) pos) (tGS X.K W (gsPar i j ga)) := (ps_par hc hN hi hj hij hx hy ha hw hs).imp fun D σ H ⟨Y, h, Γ, nx, rt, ex, w, en, hg, hn, hr, hx⟩ =>
  ⟨Y, h, Γ, _, ex, w, en, hg, fun h1 ms vs H1 q _ e1 w1 r => by
    match ms, q, r with
    | [m1, m2], q, .cons r1 (.cons r2 .nil) => exact ⟨_, _, rfl, hn h1 _ _ H1 q e1 w1 (((en.ext e1).set r1).set r2)⟩
    | [], q, _ => exact q.elim
    | [_], q, _ => exact q.elim
    | _ :: _ :: _ :: _, q, _ => exact q.elim, hx σ⟩
theorem sd_par3 {a b c : Expr} {px py pz pt : Pos} {kt k2 pt2} (hc : X.calm = true) (hN : X.N.Nodup) (hi : X.N[i]? = some x) (hj : X.N[j]? = some y) (hl : X.N[l]? = some z) (hij : i ≠ j) (hil : i ≠ l) (hjl : j ≠ l)
    (hx : X.env.scope.names.lookup x = some .local) (hy : X.env.scope.names.lookup y = some .local) (hz : X.env.scope.names.lookup z = some .local) (ha : PA X [a, b, c] (tGA X.K W n ga))
    (hw : swappedStores [.Tuple [.Name x px, .Name y py, .Name z pz] kt pt] (.Tuple [a, b, c] k2 pt2) X.env = pure (some [x, y, z]))
    (hs : swapsWithSole [.Tuple [.Name x px, .Name y py, .Name z pz] kt pt] (.Tuple [a, b, c] k2 pt2) pos.line X.env = pure false := by rfl) :
    PS X (.Assign [.Tuple [.Name x px, .Name y py, .Name z pz] kt pt] (.Tuple [a, b, c] k2 pt2) pos) (tGS X.K W (gsPar3 i j l ga)) := (ps_par3 hc hN hi hj hl hij hil hjl hx hy hz ha hw hs).imp fun D σ H ⟨Y, h, Γ, nx, rt, ex, w, en, hg, hn, hr, hx⟩ =>
  ⟨Y, h, Γ, _, ex, w, en, hg, fun h1 ms vs H1 q _ e1 w1 r => by
    match ms, q, r with
    | [m1, m2, m3], q, .cons r1 (.cons r2 (.cons r3 .nil)) => exact ⟨_, _, _, rfl, hn h1 _ _ H1 q e1 w1 ((((en.ext e1).set r1).set r2).set r3)⟩
    | [], q, _ => exact q.elim
    | [_], q, _ => exact q.elim
    | [_, _], q, _ => exact q.elim
    | _ :: _ :: _ :: _ :: _, q, _ => exact q.elim, hx σ⟩
theorem sd_expr (he : PE X e (tG X.K W g)) (hs : swapsWith e none pos.line X.env = pure false := by rfl) : PS X (.Expr e pos) (tGS X.K W (gsExpr g)) := (ps_expr he hs).imp fun D σ H ⟨Y, h, Γ, nx, rt, ex, w, en, hg, hn, hr, hx⟩ =>
  ⟨Y, h, Γ, _, ex, w, en, hg, fun h1 m v H1 q e1 w1 r => hn h1 Γ σ H1 q e1 w1 (en.ext e1), hx σ⟩
theorem sd_ret (he : PE X e (tG X.K W g)) : PS X (.Return (some e) pos) (tGS X.K W (gsRet g)) := (ps_ret he).imp fun D σ H ⟨Y, h, Γ, nx, rt, ex, w, en, hg, hn, hr, hx⟩ => ⟨Y, h, Γ, _, ex, w, en, hg, hr, hx σ⟩
theorem sd_retN : PS X (.Return none pos) (tGS X.K W gsRetN) := ps_retN.imp fun D σ H ⟨Y, h, Γ, nx, rt, ex, w, en, hg, hn, hr, hx⟩ => hr h _ _ H hg (.refl _ _) w DA.non
theorem sd_if {a b : List Stmt} (hc : PT X c (tGT X.K W t)) (ha : PSs X a (tGS X.K W gs)) (hb : PSs X b (tGS X.K W gs2)) : PS X (.If c a b pos) (tGS X.K W (gsIf t gs gs2)) := (ps_if hc ha hb).imp fun D σ H ⟨Y, h, Γ, nx, rt, ex, w, en, hg, hn, hr, hx⟩ =>
  ⟨Y, h, Γ, _, ex, w, en, hg, fun h1 c H1 q e1 w1 => by
    have fin : ∀ {g : GS}, g h1 Γ nx rt ex → tGS X.K W g D σ H1 := fun q => ⟨Y, h1, Γ, nx, rt, ex, w1, en.ext e1, q, fun h2 Γ2 σ2 H2 q2 e2 w2 en2 => hn h2 Γ2 σ2 H2 q2 (e1.trans e2) w2 en2, fun h2 m v H2 q2 e2 w2 r2 => hr h2 m v H2 q2 (e1.trans e2) w2 r2, fun σ' => (hx σ').ext e1⟩
    cases c with
    | true => exact iteT (fin (by rw [if_pos rfl] at q; exact q))
    | false => exact iteF (fin (by rw [if_neg Bool.noConfusion] at q; exact q)), hx σ⟩
theorem sd_for {tg iter : Expr} {gt : TG} {gI : GI} {b : GB} {vs : List Nat} (hp : PassesOwn (model X.prog X.w) X.A X.env X.xe) (hc : X.calm = true) (hi : PI X tg iter (tGI X.K W gI)) (hg : PG X tg gt) (hb : TgOk X.K vs gt b) (hbd : PSs X body (tGS X.K W gs))
    (hs : ∀ x, foldedSetIterable iter X.env x = pure x := by intro _; rfl) : PS X (.For tg iter body [] pos) (tGS X.K W (gsFor gI b gs)) := (ps_for hp hc hi hg hbd hs).imp fun D σ H ⟨Y, h, Γ, nx, rt, ex, w, en, hg, hn, hr, hx⟩ =>
  ⟨Y, h, Γ, _, ex, w, en, hg, fun h1 its kc H1 q e1 w1 => ⟨by cases its <;> exact q.1, fun J ⟨G, Yv, wk, wG, wY⟩ => by
    refine for_it wk (fun i σc Hc => ∃ hc Γc, WR X.K Y Hc hc ∧ EnvR X.K Hc (Ft hc Y) σc Γc ∧ Ext h1 H1 hc Hc ∧ frL b gs kc nx rt ex (its.drop i) hc Γc) ?_ ?_ ?_ ?_
    · exact ⟨h1, Γ, w1, en.ext e1, .refl _ _, by rw [List.drop_zero]; exact q⟩
    · rintro i σc Hc hi ⟨hc, Γc, w2, en2, e2, q2⟩
      refine wG _ hc Hc (fun b u x y => (e2 b u x y).1) ?_ w2
      cases z : its.drop i <;> rw [z] at q2 <;> exact q2.1
    · rintro i v σc Hc H' hi ⟨hc, Γc, w2, en2, e2, q2⟩ y
      have tr : Tr X.K H1 (Ft h1 Y) Hc (Ft hc Y) := fun v m r => r.ext e2
      have st : Stay h1 H1 Hc := fun b u x y => (e2 b u x y).1
      have ed : its.drop i = its[i] :: its.drop (i + 1) := List.drop_eq_getElem_cons hi
      rw [ed] at q2
      obtain ⟨kc1, q2⟩ := q2
      obtain ⟨sm, r, er, rr⟩ := wY i _ hc Hc v H' hi (wG _ hc Hc st kc1 w2) y kc1 w2 st tr
      rw [List.getElem?_eq_getElem hi] at er
      cases er
      obtain ⟨Γ1, eb, q2⟩ := opt_ex q2
      have e3 : Ext h1 H1 hc H' := e2.trans (.same sm)
      refine hb Y hc H' σc Γc v _ Γ1 _ eb (w2.same sm) (en2.ext (.same sm)) rr fun σ' en' _ => ⟨Y, hc, Γ1, _, rt, ex, w2.same sm, en', q2, fun h4 Γ4 σ4 H4 q4 e4 w4 en4 => ?_, fun h4 m v4 H4 q4 e4 w4 r4 => ?_, fun σ' => (hx σ').ext (e1.trans e3)⟩
      · exact ⟨h4, Γ4, w4, en4, e3.trans e4, q4⟩
      · exact hr h4 m v4 H4 q4 ((e1.trans e3).trans e4) w4 r4
    · rintro σc Hc ⟨hc, Γc, w2, en2, e2, q2⟩
      rw [List.drop_length] at q2
      exact hn hc Γc σc Hc q2.2 (e1.trans e2) w2 en2⟩, hx σ⟩
theorem sd_while (hp : PassesOwn (model X.prog X.w) X.A X.env X.xe) (hc : PT X c (tGT X.K W t)) (hb : PSs X body (tGS X.K W gs)) : PS X (.While c body [] pos) (tGS X.K W (gsWhile t gs)) := (ps_while hp hc hb).imp fun D σ H ⟨Y, h, Γ, nx, rt, ex, w, en, ⟨m0, hg⟩, hn, hr, hx⟩ => by
  refine ⟨fun m σc Hc => ∃ hc Γc, WR X.K Y Hc hc ∧ EnvR X.K Hc (Ft hc Y) σc Γc ∧ Ext h H hc Hc ∧ whL t gs nx rt ex m hc Γc, ⟨m0, h, Γ, w, en, .refl _ _, hg⟩, ?_⟩
  rintro m σc Hc ⟨hc, Γc, w2, en2, e2, q2⟩
  cases m with
  | zero => exact q2.elim
  | succ m =>
    refine ⟨Y, hc, Γc, _, ex, w2, en2, q2, fun h3 c H3 q3 e3 w3 => ?_, (hx σc).ext e2⟩
    cases c with
    | true =>
      rw [if_pos rfl] at q3
      refine iteT ⟨fun σ' H' => ∃ hc Γc, WR X.K Y H' hc ∧ EnvR X.K H' (Ft hc Y) σ' Γc ∧ Ext h H hc H' ∧ whL t gs nx rt ex m hc Γc, fun σ' H' z => ⟨m, Nat.lt_succ_self m, z⟩, ?_⟩
      exact ⟨Y, h3, Γc, _, rt, ex, w3, en2.ext e3, q3, fun h4 Γ4 σ4 H4 q4 e4 w4 en4 => ⟨h4, Γ4, w4, en4, (e2.trans e3).trans e4, q4⟩, fun h4 m v4 H4 q4 e4 w4 r4 => hr h4 m v4 H4 q4 ((e2.trans e3).trans e4) w4 r4, fun σ' => (hx σ').ext (e2.trans e3)⟩
    | false =>
      rw [if_neg Bool.noConfusion] at q3
      exact iteF (hn h3 Γc σc H3 q3 (e2.trans e3) w3 (en2.ext e3))
/-! stores -/
theorem WR.lstAt {K : PySem.W.Frag} {Y : Addr → Prop} {H : Hp} {h : MH} {a : Addr} {ms : List MV} (w : WR K Y H h) (e : h a = some (.lst ms)) : ∃ xs, H a = some (.lst xs) ∧ VRs K H (Ft h Y) xs ms := by
  obtain ⟨u, e2, r⟩ := w.ob a _ e
  cases u <;> first | exact r.elim | skip
  exact ⟨_, e2, r⟩
theorem kOwn_at {h : MH} {m : MV} {k : Addr → List MV → Prop} (q : kOwn h m k) : ∃ a ms, m = .p a ∧ h a = some (.lst ms) ∧ k a ms := by
  cases m with
  | i _ => exact q.elim
  | p a =>
    have q : (match h a with | some (.lst ms) => k a ms | _ => False) := q
    cases e : h a with
    | none => rw [e] at q; exact q.elim
    | some o =>
      rw [e] at q
      cases o <;> first | exact q.elim | skip
      exact ⟨a, _, rfl, e, q⟩
theorem kPutL_at {h : MH} {mo mi m : MV} {k : MH → Prop} (q : kPutL h mo mi m k) : ∃ a z ms j, mo = .p a ∧ mi = .i (.int z) ∧ h a = some (.lst ms) ∧ ixN ms.length z = some j ∧ k (mset h a (.lst (ms.set j m))) := by
  cases mo with
  | i _ => exact q.elim
  | p a =>
    cases mi with
    | p _ => exact q.elim
    | i d =>
      cases d <;> first | exact q.elim | skip
      rename_i z
      have q : (match h a with | some (.lst ms) => opt (ixN ms.length z) (fun j => k (mset h a (.lst (ms.set j m)))) | _ => False) := q
      cases e : h a with
      | none => rw [e] at q; exact q.elim
      | some o =>
        rw [e] at q
        cases o <;> first | exact q.elim | skip
        obtain ⟨j, e2, q⟩ := opt_ex q
        exact ⟨a, z, _, j, rfl, rfl, e, e2, q⟩
theorem mset_some {h : MH} {a : Addr} {o : MO} (e : h a = some o) : h a ≠ none := by rw [e]; exact Option.some_ne_none o
theorem kPutL_reads {K : PySem.W.Frag} {Y : Addr → Prop} {h3 : MH} {H3 : Hp} {mo mi m : MV} {vo vi v : V} {k : MH → Prop} {Q : Hp → Prop} (q : kPutL h3 mo mi m k) (w : WR K Y H3 h3) (ro : VR K H3 (Ft h3 Y) vo mo) (ri : VR K H3 (Ft h3 Y) vi mi) (r : VR K H3 (Ft h3 Y) v m)
    (fin : ∀ h4 H4, k h4 → Ext h3 H3 h4 H4 → WR K Y H4 h4 → Q H4) : rSetL vo vi v H3 Q := by
  obtain ⟨a, z, ms, j, rfl, rfl, e1, e2, q⟩ := kPutL_at q
  cases (show vo = .ref a from ro)
  cases DA.intV ri
  obtain ⟨xs, e3, rs⟩ := w.lstAt e1
  exact ⟨a, xs, z, j, rfl, rfl, e3, by rw [rs.length]; exact e2, fin _ _ q (.put (.inl (mset_some e1))) (w.put (.inl (mset_some e1)) (show VRs _ _ _ _ _ from (VRs.set r j rs).put (.inl (mset_some e1))))⟩
theorem sd_putL {pos' : Pos} (ho : PE X o (tG X.K W go)) (hi : PE X a (tG X.K W gi)) (he : PE X e (tG X.K W ge)) (hs : swapsWithSole [.Subscript o a pos'] e pos.line X.env = pure false := by rfl) (hw : swappedStores [.Subscript o a pos'] e X.env = pure none := by rfl)
    (h1 : (assignEach [.Subscript o a pos'] X.env).map (·.2) = [assign (.Subscript o a pos') X.env] := by rfl)
    (ha : ∀ v, assign (.Subscript o a pos') X.env v = (do
      let ov ← holding [v] (eval o X.env)
      let iv ← holding [v, ov] (eval a X.env)
      standAt pos'
      holding [v, ov, iv] (setItem ov iv v)
      release [v, ov, iv] []) := by intro _; rfl) : PS X (.Assign [.Subscript o a pos'] e pos) (tGS X.K W (gsPutL go gi ge)) :=
  (ps_asg he (pg_sub ho hi set_list ha) hs hw h1).imp fun D σ H ⟨Y, h, Γ, nx, rt, ex, w, en, hg, hn, hr, hx⟩ =>
  ⟨Y, h, Γ, _, ex, w, en, hg, fun h1 m v H1 q1 e1 w1 r1 => ⟨Y, h1, Γ, _, ex, w1, en.ext e1, q1, fun h2 mo vo H2 q2 e2 w2 r2 => ⟨Y, h2, Γ, _, ex, w2, en.ext (e1.trans e2), q2, fun h3 mi vi H3 q3 e3 w3 r3 => by
    have e23 := e2.trans e3
    exact kPutL_reads q3 w3 (r2.ext e3) r3 (r1.ext e23) fun h4 H4 q4 e4 w4 => hn h4 Γ σ H4 q4 ((e1.trans e23).trans e4) w4 (en.ext ((e1.trans e23).trans e4)), (hx σ).ext (e1.trans e2)⟩, (hx σ).ext e1⟩, hx σ⟩
theorem VRs.putK {K : PySem.W.Frag} {H : Hp} {N : Addr → Prop} {q : Key} {v : V} {m : MV} (a : VR K H N v m) {kvs : List (Key × V)} {kms : List (Key × MV)} (e : kvs.map Prod.fst = kms.map Prod.fst) (s : VRs K H N (kvs.map Prod.snd) (kms.map Prod.snd)) :
    (putK kvs q v).map Prod.fst = (putKM kms q m).map Prod.fst ∧ VRs K H N ((putK kvs q v).map Prod.snd) ((putKM kms q m).map Prod.snd) := by
  have hany : (kvs.any fun kv => decide (kv.1 = q)) = kms.any fun kv => decide (kv.1 = q) := by
    have h1 : (kvs.any fun kv => decide (kv.1 = q)) = (kvs.map Prod.fst).any fun k => decide (k = q) := by rw [List.any_map]; rfl
    have h2 : (kms.any fun kv => decide (kv.1 = q)) = (kms.map Prod.fst).any fun k => decide (k = q) := by rw [List.any_map]; rfl
    rw [h1, h2, e]
  unfold L2.putK putKM
  rw [hany]
  by_cases z : (kms.any fun kv => decide (kv.1 = q)) = true
  · rw [if_pos z, if_pos z]
    clear z hany
    induction kvs generalizing kms with
    | nil => cases kms with
      | nil => exact ⟨rfl, .nil⟩
      | cons _ _ => cases e
    | cons p r ih => cases kms with
      | nil => cases e
      | cons p' r' =>
        obtain ⟨k, x⟩ := p
        obtain ⟨k', y⟩ := p'
        injection e with e1 e2
        have e1 : k = k' := e1
        subst e1
        cases s with
        | cons b s =>
          obtain ⟨i1, i2⟩ := ih e2 s
          by_cases hq : k = q
          · rw [List.map_cons, List.map_cons, List.map_cons, List.map_cons, List.map_cons, List.map_cons, if_pos hq, if_pos hq, i1]
            exact ⟨rfl, .cons a i2⟩
          · rw [List.map_cons, List.map_cons, List.map_cons, List.map_cons, List.map_cons, List.map_cons, if_neg hq, if_neg hq, i1]
            exact ⟨rfl, .cons b i2⟩
  · rw [if_neg z, if_neg z, List.map_append, List.map_append, List.map_append, List.map_append, e]
    exact ⟨rfl, s.append (.cons a .nil)⟩
theorem kPutD_at {h : MH} {mo mi m : MV} {k : MH → Prop} (q : kPutD h mo mi m k) : ∃ a kvs key, mo = .p a ∧ keyM mi = some key ∧ h a = some (.dct kvs) ∧ kvs.length < SL ∧ k (mset h a (.dct (putKM kvs key m))) := by
  cases mo with
  | i _ => exact q.elim
  | p a =>
    have q : (match h a with | some (.dct kvs) => kvs.length < SL ∧ opt (keyM mi) (fun q => k (mset h a (.dct (putKM kvs q m)))) | _ => False) := q
    cases e : h a with
    | none => rw [e] at q; exact q.elim
    | some o =>
      rw [e] at q
      cases o <;> first | exact q.elim | skip
      obtain ⟨l, q⟩ := q
      obtain ⟨key, e2, q⟩ := opt_ex q
      exact ⟨a, _, key, rfl, e2, e, l, q⟩
theorem sd_putD {pos' : Pos} (hu : X.A.units + 1 < cLine) (ho : PE X o (tG X.K W go)) (hi : PE X a (tG X.K W gi)) (he : PE X e (tG X.K W ge)) (hs : swapsWith e (some (.Subscript o a pos')) pos.line X.env = pure false := by rfl) :
    PS X (.Assign [.Subscript o a pos'] e pos) (tGS X.K W (gsPutD go gi ge)) :=
  (ps_dput hu ho hi he hs).imp fun D σ H ⟨Y, h, Γ, nx, rt, ex, w, en, hg, hn, hr, hx⟩ =>
  ⟨Y, h, Γ, _, ex, w, en, hg, fun h1 m v H1 q1 e1 w1 r1 => ⟨Y, h1, Γ, _, ex, w1, en.ext e1, q1, fun h2 mo vo H2 q2 e2 w2 r2 => ⟨Y, h2, Γ, _, ex, w2, en.ext (e1.trans e2), q2, fun h3 mi vi H3 q3 e3 w3 r3 => by
    have e23 := e2.trans e3
    obtain ⟨a, kvs, key, rfl, ek, ea, l, q⟩ := kPutD_at q3
    cases (show vo = .ref a from r2)
    cases keyM_ok ek r3
    obtain ⟨u, e5, r5⟩ := w3.ob a _ ea
    cases u <;> first | exact r5.elim | skip
    rename_i kvV
    obtain ⟨r6, r7⟩ := r5
    have e8 : Ext h3 H3 (mset h3 a (.dct (putKM kvs key m))) (upd H3 a (.dK (putK kvV key v))) := .put (.inl (mset_some ea))
    obtain ⟨z1, z2⟩ := VRs.putK (q := key) (r1.ext e23) r6 r7
    refine ⟨a, _, rfl, DPut.k (k := key) e5 (by rw [slE]; have := congrArg List.length r6; rw [List.length_map, List.length_map] at this; omega), hn _ Γ σ _ q ((e1.trans e23).trans e8) (w3.put (.inl (mset_some ea)) ⟨z1, z2.put (.inl (mset_some ea))⟩) (en.ext ((e1.trans e23).trans e8))⟩, (hx σ).ext (e1.trans e2)⟩, (hx σ).ext e1⟩, hx σ⟩
theorem VRs.putF {K : PySem.W.Frag} {H : Hp} {N : Addr → Prop} {f : Str} {v : V} {m : MV} (a : VR K H N v m) : ∀ {fs : List (Str × V)} {gs : List (Str × MV)}, fs.map Prod.fst = gs.map Prod.fst → VRs K H N (fs.map Prod.snd) (gs.map Prod.snd) →
    (putF f v fs).map Prod.fst = (putFM f m gs).map Prod.fst ∧ VRs K H N ((putF f v fs).map Prod.snd) ((putFM f m gs).map Prod.snd)
  | [], [], _, _ => ⟨rfl, .cons a .nil⟩
  | [], _ :: _, e, _ => by cases e
  | _ :: _, [], e, _ => by cases e
  | (k, x) :: fs, (k', y) :: gs, e, s => by
    injection e with e1 e2
    have e1 : k = k' := e1
    subst e1
    cases s with
    | cons b s =>
    unfold L2.putF putFM
    by_cases hq : k = f
    · rw [if_pos hq, if_pos hq]
      exact ⟨by rw [List.map_cons, List.map_cons, e2], .cons a s⟩
    · rw [if_neg hq, if_neg hq]
      obtain ⟨i1, i2⟩ := VRs.putF a e2 s
      exact ⟨by rw [List.map_cons, List.map_cons, i1], .cons b i2⟩
theorem kPutF_at {C : Addr} {f : Str} {h : MH} {mo m : MV} {k : MH → Prop} (q : kPutF C f h mo m k) : ∃ a dx fs, mo = .p a ∧ h a = some (.ins C dx fs) ∧ fs.length < 1000 ∧ k (mset h a (.ins C dx (putFM f m fs))) := by
  cases mo with
  | i _ => exact q.elim
  | p a =>
    have q : (match h a with | some (.ins C' dx fs) => C' = C ∧ fs.length < 1000 ∧ k (mset h a (.ins C dx (putFM f m fs))) | _ => False) := q
    cases e : h a with
    | none => rw [e] at q; exact q.elim
    | some o =>
      rw [e] at q
      cases o <;> first | exact q.elim | skip
      obtain ⟨ec, l, q⟩ := q
      subst ec
      exact ⟨a, _, _, rfl, e, l, q⟩
theorem WR.insAt {K : PySem.W.Frag} {Y : Addr → Prop} {H : Hp} {h : MH} {a C dx : Addr} {gs : List (Str × MV)} (w : WR K Y H h) (e : h a = some (.ins C dx gs)) : ∃ fs, H a = some (.ins C dx fs) ∧ fs.map Prod.fst = gs.map Prod.fst ∧ VRs K H (Ft h Y) (fs.map Prod.snd) (gs.map Prod.snd) := by
  obtain ⟨u, e2, r⟩ := w.ob a _ e
  cases u <;> first | exact r.elim | skip
  obtain ⟨rfl, rfl, r1, r2⟩ := r
  exact ⟨_, e2, r1, r2⟩
theorem sd_fld {C : Addr} {f : Str} {pos' : Pos} (cl : Cls X.K C) (no : NoAttr X.K C f) (ho : PE X o (tG X.K W go)) (he : PE X e (tG X.K W ge)) (hs : swapsWith e (some (.Attribute o f pos')) pos.line X.env = pure false := by rfl) :
    PS X (.Assign [.Attribute o f pos'] e pos) (tGS X.K W (gsFld C f go ge)) := (ps_fld ho he hs).imp fun D σ H ⟨Y, h, Γ, nx, rt, ex, w, en, hg, hn, hr, hx⟩ =>
  ⟨Y, h, Γ, _, ex, w, en, hg, fun h1 m v H1 q1 e1 w1 r1 => ⟨Y, h1, Γ, _, ex, w1, en.ext e1, q1, fun h2 mo vo H2 q2 e2 w2 r2 => by
    obtain ⟨a, dx, gs, rfl, ea, l, q⟩ := kPutF_at q2
    cases (show vo = .ref a from r2)
    obtain ⟨fs, e3, r4, r5⟩ := w2.insAt ea
    obtain ⟨z1, z2⟩ := VRs.putF (f := f) (r1.ext e2) r4 r5
    have e8 : Ext h2 H2 (mset h2 a (.ins C dx (putFM f m gs))) (upd H2 a (.ins C dx (putF f v fs))) := .put (.inl (mset_some ea))
    exact ⟨a, C, dx, fs, rfl, e3, cl, no, by have := congrArg List.length r4; rw [List.length_map, List.length_map] at this; omega, hn _ Γ σ _ q ((e1.trans e2).trans e8) (w2.put (.inl (mset_some ea)) ⟨rfl, rfl, z1, z2.put (.inl (mset_some ea))⟩) (en.ext ((e1.trans e2).trans e8))⟩, (hx σ).ext e1⟩, hx σ⟩
/-! op= -/
theorem sd_aug {p1 : Pos} {op : Operator} {r : R2} {f : PyData → PyData → Option PyData} (hN : X.N.Nodup) (hi : X.N[i]? = some x) (hx : Loc X.env.scope x) (ho : OpR X (inplaceOp op) r) (ok : DatOp X.K r f) (he : PE X e (tG X.K W g))
    (hf : X.fn x = true ∨ X.env.scope.names.lookup x = some .local := by first | exact .inl rfl | exact .inr rfl | assumption) : PS X (.AugAssign (.Name x p1) op e pos) (tGS X.K W (gsAug i f g)) := (ps_aug hN hi hx he ho hf).imp fun D σ H ⟨Y, h, Γ, nx, rt, ex, w, en, hg, hn, hr, hx⟩ => by
  obtain ⟨m, e1, q⟩ := opt_ex hg
  obtain ⟨v, e2, r1⟩ := en.get e1
  cases m with
  | p _ => exact q.elim
  | i d =>
    refine ⟨v, e2, Y, h, Γ, _, ex, w, en, q, fun h1 m2 v2 H1 q1 e1 w1 r2 => ?_, hx σ⟩
    obtain ⟨y, z1, q1⟩ := opt_ex q1
    obtain ⟨z, z2, q1⟩ := opt_ex q1
    exact ok d y z v v2 H1 _ _ z2 (.inl (r1.ext e1)) (r2.asD w1 z1) (fun p hp => w1.new hp) fun u H' s d' => hn h1 _ _ H' q1 (e1.trans (.same s)) (w1.same s) ((en.ext (e1.trans (.same s))).set (show VR _ _ _ _ (.i _) from d'))
theorem kFld_at {C : Addr} {f : Str} {h : MH} {m : MV} {k : MV → Prop} (q : kFld C f h m k) : ∃ a dx fs x, m = .p a ∧ h a = some (.ins C dx fs) ∧ fldM fs f = some x ∧ k x := by
  cases m with
  | i _ => exact q.elim
  | p a =>
    have q : (match h a with | some (.ins C' _ fs) => C' = C ∧ opt (fldM fs f) k | _ => False) := q
    cases e : h a with
    | none => rw [e] at q; exact q.elim
    | some o =>
      rw [e] at q
      cases o <;> first | exact q.elim | skip
      obtain ⟨ec, qk⟩ := q
      subst ec
      obtain ⟨x, e2, qk⟩ := opt_ex qk
      exact ⟨a, _, _, x, rfl, e, e2, qk⟩
theorem sd_augF {C : Addr} {fn : Str} {op : Operator} {r : R2} {f : PyData → PyData → Option PyData} {tpos : Pos} (cl : Cls X.K C) (no : NoAttr X.K C fn) (hop : OpR X (inplaceOp op) r) (ok : DatOp X.K r f) (ho : PE X o (tG X.K W go)) (he : PE X e (tG X.K W ge)) :
    PS X (.AugAssign (.Attribute o fn tpos) op e pos) (tGS X.K W (gsAugF C fn f go ge)) := (ps_fldaug (rd := r) ho he hop).imp fun D σ H ⟨Y, h, Γ, nx, rt, ex, w, en, hg, hn, hr, hx⟩ =>
  ⟨Y, h, Γ, _, ex, w, en, hg, fun h1 mo vo H1 q1 e1 w1 r1 => by
    obtain ⟨a, dx, gs, m, rfl, ea, ef, q⟩ := kFld_at q1
    cases (show vo = .ref a from r1)
    obtain ⟨fs, e3, r4, r5⟩ := w1.insAt ea
    obtain ⟨v, e6, r6⟩ := (VRs.fld (f := fn) r4 r5).1 m ef
    cases m with
    | p _ => exact q.elim
    | i d =>
      refine ⟨a, C, dx, fs, v, rfl, e3, cl, no, e6, Y, h1, Γ, _, ex, w1, en.ext e1, q, fun h2 m2 v2 H2 q2 e2 w2 r2 => ?_, (hx σ).ext e1⟩
      obtain ⟨y, z1, q2⟩ := opt_ex q2
      obtain ⟨z, z2, q2⟩ := opt_ex q2
      refine ok d y z v v2 H2 _ _ z2 (.inl (r6.ext e2)) (r2.asD w2 z1) (fun p hp => w2.new hp) fun u H3 s d' => ?_
      obtain ⟨a', dx', gs', ez, ea', l, q2⟩ := kPutF_at q2
      cases ez
      have w3 := w2.same s
      obtain ⟨fs', e3', r4', r5'⟩ := w3.insAt ea'
      obtain ⟨y1, y2⟩ := VRs.putF (f := fn) (show VR X.K H3 (Ft h2 Y) u (.i z) from d') r4' r5'
      have e8 : Ext h2 H3 (mset h2 a (.ins C dx' (putFM fn (.i z) gs'))) (upd H3 a (.ins C dx' (putF fn u fs'))) := .put (.inl (mset_some ea'))
      have e9 := ((e1.trans e2).trans (.same s)).trans e8
      exact ⟨dx', fs', e3', by have := congrArg List.length r4'; rw [List.length_map, List.length_map] at this; omega, hn _ Γ σ _ q2 e9 (w3.put (.inl (mset_some ea')) ⟨rfl, rfl, y1, y2.put (.inl (mset_some ea'))⟩) (en.ext e9)⟩, hx σ⟩
/-! append, pop -/
theorem pd_app (ho : PE X o (tG X.K W go)) (ha : PE X e (tG X.K W ge))
    (hbase : attributeBase o "append" X.env (eval o X.env) = eval o X.env := by rfl)
    (hfew : ((backTo cpos (starEach [e] X.env)).all (fun x => !x.1) && (backToKw cpos (keywordEach [] X.env)).all (fun x => x.1.isSome)
      && decide (([e] : List Expr).length + ([] : List Keyword).length + (if ([] : List Keyword).isEmpty then 0 else 1) < 30)) = true := by rfl)
    (hline : (apos.endLine == cpos.line) = true := by rfl) (hs : starEach [e] X.env = (false, eval e X.env) :: starEach [] X.env := by rfl) (hplain : (backTo cpos (starEach [] X.env)).any (·.1) = false := by rfl) :
    PE X (.Call (.Attribute o "append" apos) [e] [] cpos) (tG X.K W (gApp go ge)) :=
  (pe_bm PySem.F.plainAttrs_list PySem.F.slot_list_append PySem.F.type_list_append mt_append ho (pa_cons ha pa_nil hs) hbase hfew hline hs hplain).imp fun σ H Q ⟨Y, h, Γ, nx, ex, w, en, hg, hn, hx⟩ =>
  ⟨Y, h, Γ, _, ex, w, en, hg, fun h1 mo vo H1 q1 e1 w1 r1 => by
    obtain ⟨a, ms, rfl, ea, q1⟩ := kOwn_at q1
    cases (show vo = .ref a from r1)
    obtain ⟨xs, e3, rs⟩ := w1.lstAt ea
    refine ⟨.inl ⟨rfl, xs, SqL.of e3⟩, Y, h1, Γ, _, ex, w1, en.ext e1, q1, fun h2 m v H2 q2 e2 w2 r2 => ?_, hx.ext e1⟩
    obtain ⟨a', ms', ez, ea', l, q2⟩ := kOwn_at q2
    cases ez
    obtain ⟨xs', e3', rs'⟩ := w2.lstAt ea'
    have e8 : Ext h2 H2 (mset h2 a (.lst (ms' ++ [m]))) (upd H2 a (.lst (xs' ++ [v]))) := .put (.inl (mset_some ea'))
    exact ⟨a, xs', v, rfl, rfl, e3', by rw [rs'.length, slE]; exact l, hn _ _ _ _ q2 ((e1.trans e2).trans e8) (w2.put (.inl (mset_some ea')) (show VRs _ _ _ _ _ from (rs'.append (.cons r2 .nil)).put (.inl (mset_some ea')))) DA.non⟩, hx⟩
theorem VRs.dropLast {K : PySem.W.Frag} {H : Hp} {N : Addr → Prop} : ∀ {vs : List V} {ms : List MV}, VRs K H N vs ms → VRs K H N vs.dropLast ms.dropLast
  | _, _, .nil => .nil
  | _, _, .cons a .nil => .nil
  | _, _, .cons a (.cons b s) => .cons a (VRs.dropLast (.cons b s))
theorem pd_pop (ho : PE X o (tG X.K W go)) (hbase : attributeBase o "pop" X.env (eval o X.env) = eval o X.env := by rfl) (hline : (apos.endLine == cpos.line) = true := by rfl) :
    PE X (.Call (.Attribute o "pop" apos) [] [] cpos) (tG X.K W (gPop go)) :=
  (pe_bm0 PySem.F.plainAttrs_list PySem.F.slot_list_pop PySem.F.type_list_pop mt_pop ho hbase hline).imp fun σ H Q ⟨Y, h, Γ, nx, ex, w, en, hg, hn, hx⟩ =>
  ⟨Y, h, Γ, _, ex, w, en, hg, fun h1 mo vo H1 q1 e1 w1 r1 => by
    obtain ⟨a, ms, rfl, ea, q1⟩ := kOwn_at q1
    cases (show vo = .ref a from r1)
    obtain ⟨xs, e3, rs⟩ := w1.lstAt ea
    obtain ⟨m, em, q1⟩ := opt_ex q1
    rw [List.getLast?_eq_getElem?] at em
    obtain ⟨v, ev, rv⟩ := rs.get em
    have e8 : Ext h1 H1 (mset h1 a (.lst ms.dropLast)) (upd H1 a (.lst xs.dropLast)) := .put (.inl (mset_some ea))
    exact ⟨.inl ⟨rfl, xs, SqL.of e3⟩, a, xs, v, rfl, rfl, e3, by rw [rs.length]; exact ev, hn _ _ _ _ q1 (e1.trans e8) (w1.put (.inl (mset_some ea)) (show VRs _ _ _ _ _ from rs.dropLast.put (.inl (mset_some ea)))) (rv.ext e8)⟩, hx⟩
end
/-! ### defs -/
/-- the slots at a def's entry -/
@[simp] def startG (N : List Str) (ms : List MV) : Gam := ms.map some ++ List.replicate (N.length - ms.length) none
/-- a def's meaning by its body's -/
@[simp] def defG (N : List Str) (gs : GS) : GF := fun h ms nx ex => gs h (startG N ms) (fun h' _ => nx h' (.i .none)) nx ex
/-- .. of one that lets nothing out -/
@[simp] def defG0 (N : List Str) (gs : GS) : GF := fun h ms nx _ => gs h (startG N ms) (fun h' _ => nx h' (.i .none)) nx XF
theorem EnvR.start' {K : PySem.W.Frag} {H : Hp} {N : Addr → Prop} {vs : List V} {ms : List MV} {Ns : List Str} (r : VRs K H N vs ms) : EnvR K H N (L2.start Ns vs) (startG Ns ms) := by
  unfold L2.start startG
  rw [r.length]
  exact EnvR.start _ r
abbrev WO (E : XK) : WX := fun cls d _ H => E cls d H
end My

set_option Elab.async false
set_option linter.all false
set_option maxRecDepth 100000
set_option maxHeartbeats 4000000
/-! ## new known lists from old; freezing; bits of builtins -/
namespace My
open PySem L2
@[simp] def itM (h : MH) : MV → Option (List MV)
  | .i (.list ds) => some (ds.map .i)
  | .p a => (match h a with
    | some (.lst ms) => some ms
    | _ => none)
  | _ => none
@[simp] def itMT (h : MH) : MV → Option (List MV)
  | .i (.tuple ds) => some (ds.map .i)
  | m => itM h m
@[simp] def kNew (h : MH) (ms : List MV) (nx : MH → MV → Prop) : Prop := ∀ a, h a = none → nx (mset h a (.lst ms)) (.p a)
@[simp] def gCatN (g1 g2 : GE) : GE := fun h Γ nx ex => g1 h Γ (fun h1 m1 => g2 h1 Γ (fun h2 m2 => opt (itM h2 m1) fun a => opt (itM h2 m2) fun b => a.length + b.length ≤ SL ∧ kNew h2 (a ++ b) nx) ex) ex
@[simp] def gRepN (g1 g2 : GE) : GE := fun h Γ nx ex => g1 h Γ (fun h1 m1 => g2 h1 Γ (fun h2 m2 => opt (itM h2 m1) fun a => match m2 with
  | .i (.int k) => (-(2 ^ 63) ≤ k ∧ k < 2 ^ 63 ∧ a.length * k.toNat ≤ SL) ∧ kNew h2 (List.replicate k.toNat a).flatten nx
  | _ => False) ex) ex
@[simp] def gSlN (g : GE) (l u : GO) : GE := fun h Γ nx ex => g h Γ (fun h1 m => l h1 Γ (fun h2 lo => u h2 Γ (fun h3 hi => opt (itM h3 m) fun a => kNew h3 (cutL a lo hi) nx) ex) ex) ex
@[simp] def gListN (g : GE) : GE := fun h Γ nx ex => g h Γ (fun h1 m => opt (itMT h1 m) fun a => kNew h1 a nx) ex
/-- a known list of data turns into a datum -/
@[simp] def gFrz (g : GE) : GE := fun h Γ nx ex => g h Γ (fun h1 m => match m with
  | .p a => (match h1 a with
    | some (.lst ms) => opt (allI ms) fun ds => nx (mdel h1 a) (.i (.list ds))
    | _ => False)
  | _ => False) ex
@[simp] def allB : List PyData → Option (List Bool)
  | [] => some []
  | .bool b :: r => (allB r).map (b :: ·)
  | _ :: _ => none
@[simp] def fAll : List PyData → Option PyData
  | [.list ds] => (allB ds).map fun bs => .bool (bs.all id) | _ => none
@[simp] def fAny : List PyData → Option PyData
  | [.list ds] => (allB ds).map fun bs => .bool (bs.any id) | _ => none
@[simp] def fAddI : PyData → PyData → Option PyData
  | .int a, .int b => some (.int (a + b)) | _, _ => none
@[simp] def allN : List PyData → Option (List Int)
  | [] => some []
  | .int b :: r => (allN r).map (b :: ·)
  | _ :: _ => none
@[simp] def fSum : List PyData → Option PyData
  | [.list ds] => (allN ds).map fun bs => .int bs.sum | _ => none
@[simp] def fDivW : PyData → PyData → Option PyData
  | .int a, .int b => if 0 < b ∧ b < 2 ^ 62 then some (.int (a / b)) else none | _, _ => none
section
variable {K : PySem.W.Frag}
theorem allB_ok {H : Hp} {N : Addr → Prop} : ∀ {ds : List PyData} {bs : List Bool} {vs : List V}, allB ds = some bs → DAs K H N vs ds → vs = bs.map V.bl
  | [], _, _, e, .nil => by cases e; rfl
  | .bool b :: r, bs, _, e, .cons a s => by
    have e : (allB r).map (b :: ·) = some bs := e
    cases z : allB r with
    | none => rw [z] at e; cases e
    | some cs => rw [z] at e; cases e; cases a.boolV; rw [allB_ok z s]; rfl
theorem dat_all : DatCall K (rAll K) fAll := fun ds z vs H N Q e r hN k => by
  unfold fAll at e
  split at e
  · rename_i es
    cases q : allB es with
    | none => rw [q] at e; cases e
    | some bs =>
      rw [q] at e
      cases e
      cases r with
      | cons r1 r2 =>
        cases r2
        obtain ⟨a, xs, rfl, h, s⟩ := r1.lstV
        cases allB_ok q s
        exact ⟨a, bs, rfl, SqL.of h, k _ _ (fun _ _ x => x) (.bl _)⟩
  · cases e
theorem dat_any : DatCall K (rAny K) fAny := fun ds z vs H N Q e r hN k => by
  unfold fAny at e
  split at e
  · rename_i es
    cases q : allB es with
    | none => rw [q] at e; cases e
    | some bs =>
      rw [q] at e
      cases e
      cases r with
      | cons r1 r2 =>
        cases r2
        obtain ⟨a, xs, rfl, h, s⟩ := r1.lstV
        cases allB_ok q s
        exact ⟨a, bs, rfl, SqL.of h, k _ _ (fun _ _ x => x) (.bl _)⟩
  · cases e
theorem dat_iadd : DatOp K (rI0 fun i j => .int (i + j)) fAddI := .int2 (g := fun a b => .int (a + b)) (fun _ _ _ _ => .int _) fun x y z e => by
  cases x <;> cases y <;> cases e
  exact ⟨_, _, rfl, rfl, rfl⟩
theorem dat_inS : DatOp K (fun x y H Q => ∃ (c : Nat) (z : Str), x = .str ⟨#[c]⟩ ∧ y = .str z ∧ Q (.bl (decide (c ∈ z.cps.toList))) H) fInS := fun x y z v u H N Q e r1 r2 _ k => by
  cases x <;> cases y <;> first | cases e | skip
  rename_i x y
  have e : (match x.cps.toList with | [c] => some (PyData.bool (decide (c ∈ y.cps.toList))) | _ => none) = some z := e
  cases h : x.cps.toList with
  | nil => rw [h] at e; cases e
  | cons c r =>
    cases r with
    | cons _ _ => rw [h] at e; cases e
    | nil =>
      rw [h] at e
      cases e
      have hx : x = ⟨#[c]⟩ := by
        obtain ⟨cs⟩ := x
        have : cs.toList = [c] := h
        rw [← Array.toArray_toList (xs := cs), this]
      subst hx
      exact ⟨c, y, r1.strV, r2.strV, k _ _ (fun _ _ x => x) (.bl _)⟩
theorem dat_ninS : DatOp K (fun x y H Q => ∃ (c : Nat) (z : Str), x = .str ⟨#[c]⟩ ∧ y = .str z ∧ Q (.bl (!decide (c ∈ z.cps.toList))) H) fNinS := fun x y z v u H N Q e r1 r2 _ k => by
  cases x <;> cases y <;> first | cases e | skip
  rename_i x y
  have e : (match x.cps.toList with | [c] => some (PyData.bool (!decide (c ∈ y.cps.toList))) | _ => none) = some z := e
  cases h : x.cps.toList with
  | nil => rw [h] at e; cases e
  | cons c r =>
    cases r with
    | cons _ _ => rw [h] at e; cases e
    | nil =>
      rw [h] at e
      cases e
      have hx : x = ⟨#[c]⟩ := by
        obtain ⟨cs⟩ := x
        have : cs.toList = [c] := h
        rw [← Array.toArray_toList (xs := cs), this]
      subst hx
      exact ⟨c, y, r1.strV, r2.strV, k _ _ (fun _ _ x => x) (.bl _)⟩
theorem allN_ok {H : Hp} {N : Addr → Prop} : ∀ {ds : List PyData} {bs : List Int} {vs : List V}, allN ds = some bs → DAs K H N vs ds → vs = bs.map V.int
  | [], _, _, e, .nil => by cases e; rfl
  | .int b :: r, bs, _, e, .cons a s => by
    have e : (allN r).map (b :: ·) = some bs := e
    cases z : allN r with
    | none => rw [z] at e; cases e
    | some cs => rw [z] at e; cases e; cases a.intV; rw [allN_ok z s]; rfl
theorem dat_sum : DatCall K (rSum K) fSum := fun ds z vs H N Q e r hN k => by
  unfold fSum at e
  split at e
  · rename_i es
    cases q : allN es with
    | none => rw [q] at e; cases e
    | some bs =>
      rw [q] at e
      cases e
      cases r with
      | cons r1 r2 =>
        cases r2
        obtain ⟨a, xs, rfl, h, s⟩ := r1.lstV
        cases allN_ok q s
        exact ⟨a, bs, rfl, SqL.of h, k _ _ (fun _ _ x => x) (.int _)⟩
  · cases e
theorem dat_divW : DatOp K (rI CDivW fun i j => .int (i / j)) fDivW := .intC (g := fun a b => .int (a / b)) (fun _ _ _ _ => .int _) fun x y z e => by
  cases x <;> cases y <;> first | cases e | skip
  rename_i a b
  obtain ⟨⟨c1, c2⟩, rfl⟩ := ite_some e
  refine ⟨_, _, rfl, rfl, ⟨c1, ?_⟩, rfl⟩
  have h1 : b.natAbs < 2 ^ 62 := by omega
  exact Nat.lt_of_lt_of_le (PySem.Flt.log2_lt_of (by decide) h1) (by decide)
theorem itM_ok {Y : Addr → Prop} {H : Hp} {h : MH} {v : V} {m : MV} {ms : List MV} (w : WR K Y H h) (r : VR K H (Ft h Y) v m) (e : itM h m = some ms) : ∃ a xs, v = .ref a ∧ H a = some (.lst xs) ∧ VRs K H (Ft h Y) xs ms := by
  cases m with
  | i d =>
    cases d <;> cases e
    obtain ⟨a, xs, rfl, s1, _, s2⟩ := DA.lstV r
    exact ⟨a, xs, rfl, s1, s2.vrs⟩
  | p a =>
    have e : (match h a with | some (.lst ms) => some ms | _ => none) = some ms := e
    cases eo : h a with
    | none => rw [eo] at e; cases e
    | some o =>
      rw [eo] at e
      cases o <;> cases e
      obtain ⟨xs, e2, r2⟩ := w.lstAt eo
      exact ⟨a, xs, r, e2, r2⟩
theorem new_ok {Y : Addr → Prop} {H : Hp} {h : MH} {xs : List V} {ms : List MV} {nx : MH → MV → Prop} {Q : VK} (w : WR K Y H h) (r : VRs K H (Ft h Y) xs ms) (q : kNew h ms nx) (hn : ∀ h' m v H', nx h' m → Ext h H h' H' → WR K Y H' h' → VR K H' (Ft h' Y) v m → Q v H') :
    ∀ p, H p = none → Q (.ref p) (upd H p (.lst xs)) := fun p hp =>
  hn _ (.p p) _ _ (q p (w.noneH hp)) (.put (.inr hp)) (w.put (.inr hp) (show VRs _ _ _ _ _ from r.put (.inr hp))) rfl
theorem VRs.flat {H : Hp} {N : Addr → Prop} {vs : List V} {ms : List MV} (s : VRs K H N vs ms) : ∀ n : Nat, VRs K H N (List.replicate n vs).flatten (List.replicate n ms).flatten
  | 0 => .nil
  | n + 1 => by
    rw [List.replicate_succ, List.replicate_succ, List.flatten_cons, List.flatten_cons]
    exact s.append (VRs.flat s n)
theorem VRs.drop {H : Hp} {N : Addr → Prop} : ∀ {vs : List V} {ds : List MV} (n : Nat), VRs K H N vs ds → VRs K H N (vs.drop n) (ds.drop n)
  | _, _, 0, h => h
  | _, _, _ + 1, .nil => .nil
  | _, _, n + 1, .cons _ s => VRs.drop n s
theorem VRs.take {H : Hp} {N : Addr → Prop} : ∀ {vs : List V} {ds : List MV} (n : Nat), VRs K H N vs ds → VRs K H N (vs.take n) (ds.take n)
  | _, _, 0, _ => .nil
  | _, _, _ + 1, .nil => .nil
  | _, _, n + 1, .cons a s => .cons a (VRs.take n s)
theorem VRs.cut {H : Hp} {N : Addr → Prop} {vs : List V} {ds : List MV} (s : VRs K H N vs ds) (lo hi : Option Int) : VRs K H N (cutV vs lo hi) (cutL ds lo hi) := by
  unfold cutV cutL
  rw [s.length]
  exact (s.drop _).take _
theorem WR.freeze {Y : Addr → Prop} {H : Hp} {h : MH} {a : Addr} {ms : List MV} {ds : List PyData} (w : WR K Y H h) (e : h a = some (.lst ms)) (q : allI ms = some ds) :
    WR K Y H (mdel h a) ∧ Ext h H (mdel h a) H ∧ VR K H (Ft (mdel h a) Y) (.ref a) (.i (.list ds)) := by
  have hd : ∀ b, h b = none → mdel h a b = none := fun b z => by unfold mdel; split <;> first | rfl | exact z
  have ha : mdel h a a = none := if_pos rfl
  have ya : ¬ Y a := fun z => by rw [(w.ya a z).1] at e; cases e
  have t : Tr K H (Ft h Y) H (Ft (mdel h a) Y) := .of fun b x p n => ⟨p, by
    obtain ⟨n1, n2⟩ := Ft.not n
    exact Ft.mk (hd b n1) n2⟩
  obtain ⟨xs, e2, r⟩ := w.lstAt e
  refine ⟨⟨fun b o z => ?_, fun b y => ⟨hd b (w.ya b y).1, (w.ya b y).2⟩⟩, fun b u x z => ⟨x, hd b z⟩, DA.lst e2 (Ft.mk ha ya) ((r.tr t).all q)⟩
  have hb : b ≠ a := fun z2 => by rw [z2, ha] at z; cases z
  have z : h b = some o := by rw [← z]; exact (if_neg hb).symm
  obtain ⟨u, p1, p2⟩ := w.ob b o z
  exact ⟨u, p1, p2.tr t⟩
end
section
variable {X : Cx} {W : WX} {g g1 g2 : GE} {go go2 : GO} {e a b : Expr} {pos p p2 : Pos} {x : Str} {n i : Nat}
theorem pd_catN (ha : PE X a (tG X.K W g1)) (hb : PE X b (tG X.K W g2)) : PE X (.BinOp a .Add b pos) (tG X.K W (gCatN g1 g2)) := (pe_op op_cat ha hb).imp fun σ H Q q =>
  g_bin (k := fun m1 m2 h2 nx ex => opt (itM h2 m1) fun a => opt (itM h2 m2) fun b => a.length + b.length ≤ SL ∧ kNew h2 (a ++ b) nx) (R := fun v1 v2 H2 => rCat v1 v2 H2 Q) q fun Y h2 m1 m2 v1 v2 H2 nx ex kk w r1 r2 hn _ => by
    obtain ⟨ms1, e1, kk⟩ := opt_ex kk
    obtain ⟨ms2, e2, l, kk⟩ := opt_ex kk
    obtain ⟨a1, xs, rfl, p1, s1⟩ := itM_ok w r1 e1
    obtain ⟨a2, ys, rfl, p2, s2⟩ := itM_ok w r2 e2
    exact ⟨a1, a2, xs, ys, rfl, rfl, p1, p2, by rw [slE, s1.length, s2.length]; exact l, new_ok w (s1.append s2) kk hn⟩
theorem pd_repN (ha : PE X a (tG X.K W g1)) (hb : PE X b (tG X.K W g2)) : PE X (.BinOp a .Mult b pos) (tG X.K W (gRepN g1 g2)) := (pe_op op_rep ha hb).imp fun σ H Q q =>
  g_bin (k := fun m1 m2 h2 nx ex => opt (itM h2 m1) fun a => match m2 with
    | .i (.int k) => (-(2 ^ 63) ≤ k ∧ k < 2 ^ 63 ∧ a.length * k.toNat ≤ SL) ∧ kNew h2 (List.replicate k.toNat a).flatten nx
    | _ => False) (R := fun v1 v2 H2 => rRep v1 v2 H2 Q) q fun Y h2 m1 m2 v1 v2 H2 nx ex kk w r1 r2 hn _ => by
    obtain ⟨ms1, e1, kk⟩ := opt_ex kk
    obtain ⟨a1, xs, rfl, p1, s1⟩ := itM_ok w r1 e1
    cases m2 with
    | p _ => exact kk.elim
    | i d =>
      cases d <;> first | exact kk.elim | skip
      obtain ⟨⟨c1, c2, c3⟩, kk⟩ := kk
      cases DA.intV r2
      exact ⟨a1, _, xs, rfl, rfl, p1, c1, c2, by rw [slE, s1.length]; exact c3, new_ok w (s1.flat _) kk hn⟩
theorem pd_slN {lo hi : Option Expr} (he : PE X e (tG X.K W g)) (hl : PO X lo (tGO X.K W go)) (hu : PO X hi (tGO X.K W go2)) : PE X (.Subscript e (.Slice lo hi none p2) pos) (tG X.K W (gSlN g go go2)) :=
  (pe_slice sl_list he hl hu).imp fun σ H Q ⟨Y, h, Γ, nx, ex, w, en, hg, hn, hx⟩ => by
    refine ⟨Y, h, Γ, _, ex, w, en, hg, fun h1 m1 v1 H1 q1 e1 w1 r1 => ?_, hx⟩
    refine ⟨Y, h1, Γ, _, ex, w1, en.ext e1, q1, fun h2 lo H2 q2 e2 w2 => ?_, hx.ext e1⟩
    refine ⟨Y, h2, Γ, _, ex, w2, en.ext (e1.trans e2), q2, fun h3 hi H3 q3 e3 w3 => ?_, hx.ext (e1.trans e2)⟩
    obtain ⟨ms, z1, q3⟩ := opt_ex q3
    obtain ⟨a, xs, rfl, p1, s1⟩ := itM_ok w3 (r1.ext (e2.trans e3)) z1
    exact ⟨a, xs, rfl, SqL.of p1, new_ok w3 (s1.cut _ _) q3 fun h' m v H' q e w r => hn h' m v H' q ((e1.trans (e2.trans e3)).trans e) w r⟩
theorem pd_listN (hg : Gl X x) (hm : X.mg x = none) (hv : bootBuiltins x = some (.type "list")) (ha : PE X e (tG X.K W g)) (hn : x ≠ "__name__" := by decide) (hdb : (x == ("__debug__" : Str)) = false := by decide)
    (he : starEach [e] X.env = (false, eval e X.env) :: starEach [] X.env := by rfl) (hpl : (backTo pos (starEach [] X.env)).any (·.1) = false := by rfl) : PE X (.Call (.Name x p) [e] [] pos) (tG X.K W (gListN g)) :=
  (pe_callTy call_list_of hg hm hv (pa_cons ha pa_nil he) hn hdb he hpl).imp fun σ H Q q =>
    g_one (k := fun m h1 nx ex => opt (itMT h1 m) fun a => kNew h1 a nx) (R := fun v H2 => ∃ p ys, [v] = [V.ref p] ∧ (SqL X.K H2 p ys ∨ SqT X.K H2 p ys) ∧ ∀ l, H2 l = none → Q (.ref l) (upd H2 l (.lst ys))) q fun Y h2 m v H2 nx ex kk w r hn _ => by
      obtain ⟨ms, z1, kk⟩ := opt_ex kk
      by_cases ht : ∃ ds, m = .i (.tuple ds)
      · obtain ⟨ds, rfl⟩ := ht
        cases z1
        obtain ⟨a, xs, rfl, s1, s2⟩ := DA.tupV r
        exact ⟨a, xs, rfl, .inr s1, new_ok w s2.vrs kk hn⟩
      · have z1 : itM h2 m = some ms := by
          unfold itMT at z1
          split at z1
          · exact absurd ⟨_, rfl⟩ ht
          · exact z1
        obtain ⟨a, xs, rfl, p1, s1⟩ := itM_ok w r z1
        exact ⟨a, xs, rfl, .inl (SqL.of p1), new_ok w s1 kk hn⟩
theorem pd_frz (he : PE X e (tG X.K W g)) : PE X e (tG X.K W (gFrz g)) := he.imp fun σ H Q ⟨Y, h, Γ, nx, ex, w, en, hg, hn, hx⟩ =>
  ⟨Y, h, Γ, _, ex, w, en, hg, fun h1 m v H1 q e1 w1 r => by
    cases m with
    | i _ => exact q.elim
    | p a =>
      cases (show v = .ref a from r)
      have q : (match h1 a with | some (.lst ms) => opt (allI ms) (fun ds => nx (mdel h1 a) (.i (.list ds))) | _ => False) := q
      cases eo : h1 a with
      | none => rw [eo] at q; exact q.elim
      | some o =>
        rw [eo] at q
        cases o <;> first | exact q.elim | skip
        obtain ⟨ds, ed, q⟩ := opt_ex q
        obtain ⟨w2, e2, r2⟩ := w1.freeze eo ed
        exact hn _ _ _ H1 q (e1.trans e2) w2 r2, hx⟩
/-! name = [..] -/
theorem sd_setLc {y : Str} {py : Pos} {elt tg iter : Expr} {ifs : List Expr} {scope : Scope} {own : List (Str × Nat)} {spos : Pos} {gi : GI} {gt : TG} {t : GT} {bb : GB} {wh : (MH → MV → Prop) → MH → List MV → Prop} {g0 : GE} (hc : X.calm = true) (hN : X.N.Nodup) (hy : X.N[i]? = some y) (hyl : X.env.scope.names.lookup y = some .local)
    (hsw : swapsWith (.ListComp elt [⟨tg, iter, ifs, 0⟩] scope pos) (some (.Name y py)) spos.line X.env = pure true) (hi : PI X tg iter (tGI X.K W gi)) (ok : BlkOk X.N X.env.scope scope own)
    (hg : ∀ (s : Shared) (H : Hp) (C : Addr) (cl : List (Str × Addr)) (fp : List Addr), PG (X.blk s H scope (compEnvC scope cl C X.env) fp) tg gt)
    (ht : ∀ (s : Shared) (H : Hp) (C : Addr) (cl : List (Str × Addr)) (fp : List Addr), PTs (X.blk s H scope (compEnvC scope cl C X.env) fp) ifs (tGT X.K W0 t))
    (he : ∀ (s : Shared) (H : Hp) (C : Addr) (cl : List (Str × Addr)) (fp : List Addr), PE (X.blk s H scope (compEnvC scope cl C X.env) fp) elt (tG X.K W0 g))
    (rd : ∀ σ H Q, tG X.K W g0 σ H Q → tLc (tGI X.K W gi) gt (tGT X.K W0 t) (tG X.K W0 g) (own.map (·.2)) σ H Q) (hs : ∀ x, foldedSetIterable iter X.env x = pure x := by intro _; rfl) :
    PS X (.Assign [.Name y py] (.ListComp elt [⟨tg, iter, ifs, 0⟩] scope pos) spos) (tGS X.K W (gsSet i g0)) := (ps_setLc hc hN hy hyl hsw hi ok hg ht he hs).imp fun D σ H ⟨Y, h, Γ, nx, rt, ex, w, en, hg, hn, hr, hx⟩ => by
  show tLc _ _ _ _ _ σ H fun x H1 => gName i x σ H1 D.nx
  exact rd σ H _ ⟨Y, h, Γ, _, ex, w, en, hg, fun h1 m v H1 q e1 w1 r => hn h1 _ _ H1 q e1 w1 ((en.ext e1).set r), hx σ⟩
end
end My

set_option Elab.async false
set_option linter.all false
set_option maxRecDepth 100000
set_option maxHeartbeats 4000000
/-! ## defs of the file by the small world -/
namespace My
open PySem L2
section
variable {P : Program} {w : World} {K : PySem.W.Frag} {mg : Str → Option Value} {base : Heap}
theorem Fc.okG {x qual : Str} {st : Stmt} {f : Addr} {N ps : List Str} {k : Nat} {gs : GS} (F : ∃ fd, Fun K x qual st f fd ∧ Binds K fd ps []) (S : FnScope N ps (defScope st))
    (hbody : ∀ (cdv : Value) (A : Around) (outer : List Env) (s : Shared) (f : Addr) (H : Hp) (E : XK), Room k (A.deeper (PyProof.Rows.envOfC qual (defScope st) s.heap.objs.size f cdv)) →
      PSs (cxOf CX0 P w K mg base N qual (defScope st) f cdv A outer s H E).nox (defBody st) (tGS K W0 gs)) : Fc P w K mg base CX0 (k + 1) f ps (spG K ps.length (defG0 N gs)) :=
  Fc.ok F S (fun vs H Q E ⟨Y, h, ms, nx, ex, l, _, r, _⟩ => by rw [r.length]; exact l) fun cdv A outer s f H vs Q E hr ⟨Y, h, ms, nx, ex, l, w, r, q, hn, hx⟩ =>
    ⟨_, hbody cdv A outer s f H E hr, Y, h, startG N ms, _, nx, XF, w, EnvR.start' r, q, fun h' Γ' σ' H' q' e' w' en' => hn h' _ _ H' q' e' w' DA.non, hn, fun _ _ _ _ _ _ z _ _ _ => z⟩
theorem Fc.okGX {x qual : Str} {st : Stmt} {f : Addr} {N ps : List Str} {k : Nat} {gs : GS} (F : ∃ fd, Fun K x qual st f fd ∧ Binds K fd ps []) (S : FnScope N ps (defScope st))
    (hbody : ∀ (cdv : Value) (A : Around) (outer : List Env) (s : Shared) (f : Addr) (H : Hp) (E : XK), Room k (A.deeper (PyProof.Rows.envOfC qual (defScope st) s.heap.objs.size f cdv)) →
      PSs (cxOf (L2.CX P w) P w K mg base N qual (defScope st) f cdv A outer s H E) (defBody st) (tGS K (WO E) gs)) : Fc P w K mg base (L2.CX P w) (k + 1) f ps (spG K ps.length (defG N gs)) :=
  Fc.okX F S (fun vs H Q E ⟨Y, h, ms, nx, ex, l, _, r, _⟩ => by rw [r.length]; exact l) fun cdv A outer s f H vs Q E hr ⟨Y, h, ms, nx, ex, l, w, r, q, hn, hx⟩ =>
    ⟨_, hbody cdv A outer s f H E hr, Y, h, startG N ms, _, nx, ex, w, EnvR.start' r, q, fun h' Γ' σ' H' q' e' w' en' => hn h' _ _ H' q' e' w' DA.non, hn, fun σ' h' x cls d H' q' e' w' r' => hx h' x cls d H' q' e' w' r'⟩
/-- another reading of what a def promises -/
theorem Fc.imp {CX : CXT} {k : Nat} {f : Addr} {ps : List Str} {sp sp' : Sp} (F : Fc P w K mg base CX k f ps sp) (h : ∀ vs H Q E, sp' vs H Q E → sp vs H Q E) : Fc P w K mg base CX k f ps sp' := by
  obtain ⟨fd, F, b⟩ := F
  exact ⟨fd, F.imp h, b⟩
theorem Fc.mono {CX : CXT} {j k : Nat} {f : Addr} {ps : List Str} {sp : Sp} (F : Fc P w K mg base CX j f ps sp) (h : j ≤ k) : Fc P w K mg base CX k f ps sp := by
  obtain ⟨fd, F, b⟩ := F
  exact ⟨fd, F.mono h, b⟩
/-- the same, the meaning told otherwise -/
theorem Fc.impG {CX : CXT} {k n : Nat} {f : Addr} {ps : List Str} {F F' : GF} (G : Fc P w K mg base CX k f ps (spG K n F)) (h : ∀ h ms nx ex, ms.length = n → F' h ms nx ex → F h ms nx ex) : Fc P w K mg base CX k f ps (spG K n F') :=
  G.imp fun vs H Q E ⟨Y, hh, ms, nx, ex, l, w, r, q, hn, hx⟩ => ⟨Y, hh, ms, nx, ex, l, w, r, h hh ms nx ex l q, hn, hx⟩
end
end My

set_option Elab.async false
set_option linter.all false
set_option maxRecDepth 100000
set_option maxHeartbeats 4000000
namespace My
open PySem L2
section
variable {P : Program} {w : World} {K : PySem.W.Frag} {mg : Str → Option Value} {base : Heap} {ad : Ad}
-- _law_draws slots: 0 script; level 1
theorem sc_law_draws : FnScope ["script"] ["script"] (defScope s_law_draws) := ⟨rfl, rfl, rfl, by decide +kernel, rfl, by decide +kernel, by decide +kernel⟩
def B_law_draws (ad : Ad) : GS :=
      (gsRet (gNew (gaC (gB fList (gaC (gV 0) gaN)) (gaC (gC (.int 0)) (gaC (gC (.int 0)) (gaC (gC (.int 1)) gaN))))))
def F_law_draws (ad : Ad) : GF := defG0 ["script"] (B_law_draws ad)
theorem ok_law_draws (T : Txt K mg ad) (U : Funs K ad) : Fc P w K mg base CX0 1 ad.law_draws ["script"] (spG K 1 (F_law_draws ad)) := by
  exact Fc.okG U.F_law_draws sc_law_draws fun cdv A outer s f H E hr =>
      (sd_one (sd_ret (pd_new (pd_cons (pd_ty call_list_of dat_list (by rfl) T.b_list (by decide +kernel) (pd_cons (pd_v 0) pd_nil)) (pd_cons pd_int (pd_cons pd_int (pd_cons pd_int pd_nil)))))))

-- _law_draw slots: 0 draws, 1 limit, 2 cell, 3 value; level 1
theorem sc_law_draw : FnScope ["draws", "limit", "cell", "value"] ["draws", "limit"] (defScope s_law_draw) := ⟨rfl, rfl, rfl, by decide +kernel, rfl, by decide +kernel, by decide +kernel⟩
def B_law_draw (ad : Ad) : GS :=
      (gsC (gsIf (qAnd (qB (gOp fEq (gIx (gV 0) (gC (.int 2))) (gC (.int 0)))) (qB (gOp fLt (gIx (gV 0) (gC (.int 1))) (gLen (gIx (gV 0) (gC (.int 0))))))) (gsC (gsSet 2 (gIx (gIx (gV 0) (gC (.int 0))) (gIx (gV 0) (gC (.int 1)))))
      (gsC (gsPutL (gV 0) (gC (.int 1)) (gOp fAdd (gIx (gV 0) (gC (.int 1))) (gC (.int 1))))
      (gsC (gsIf (qB (gOp fGe (gV 2) (gOp fPow (gC (.int 10)) (gC (.int 18))))) (gsPutL (gV 0) (gC (.int 2)) (gV 2)) gsN)
      (gsPutL (gV 0) (gC (.int 3)) (gOp fMod (gB fInt (gaC (gOp fAdd (gOp fAdd (gOp fMul (gIx (gV 0) (gC (.int 3))) (gC (.int 48271))) (gV 2)) (gC (.int 13))) gaN)) (gC (.int 2147483647))))))) gsN)
      (gsC (gsIf (qB (gOp fGt (gIx (gV 0) (gC (.int 2))) (gC (.int 0)))) (gsC (gsSet 3 (gOp fMod (gB fInt (gaC (gIx (gV 0) (gC (.int 2))) gaN)) (gV 1)))
      (gsC (gsPutL (gV 0) (gC (.int 2)) (gOp fDivW (gIx (gV 0) (gC (.int 2))) (gV 1)))
      (gsRet (gV 3)))) gsN)
      (gsC (gsPutL (gV 0) (gC (.int 3)) (gOp fMod (gB fInt (gaC (gOp fAdd (gOp fMul (gIx (gV 0) (gC (.int 3))) (gC (.int 69621))) (gC (.int 7))) gaN)) (gC (.int 2147483629))))
      (gsRet (gOp fMod (gB fInt (gaC (gOp fDiv (gIx (gV 0) (gC (.int 3))) (gC (.int 11))) gaN)) (gV 1))))))
def R_law_draw (ad : Ad) : GF := defG0 ["draws", "limit", "cell", "value"] (B_law_draw ad)
theorem okR_law_draw (T : Txt K mg ad) (U : Funs K ad) : Fc P w K mg base CX0 1 ad.law_draw ["draws", "limit"] (spG K 2 (R_law_draw ad)) := by
  exact Fc.okG U.F_law_draw sc_law_draw fun cdv A outer s f H E hr =>
      (sd_cons (sd_if (PW.pt (qd_and (qd_cmp (op_eqA hr.units) dat_eq (pd_ix (pd_v 0) pd_int) pd_int (nomark _)) (qd_and1 (qd_cmp op_ltD dat_lt (pd_ix (pd_v 0) pd_int) (pd_len (by rfl) T.b_len (by decide +kernel) (pd_ix (pd_v 0) pd_int)) (nomark _))))) (sd_cons (sd_set (i := 2) sc_law_draw.nd rfl (Or.inl rfl) (pd_ix (pd_ix (pd_v 0) pd_int) (pd_ix (pd_v 0) pd_int)))
      (sd_cons (sd_putL (pd_v 0) pd_int (pd_op op_addD dat_add (pd_ix (pd_v 0) pd_int) pd_int))
      (sd_cons (sd_if (qd_cmp op_geD dat_ge (pd_v 2) (pd_op op_pow dat_pow pd_int pd_int) (nomark _)) (sd_one (sd_putL (pd_v 0) pd_int (pd_v 2))) sd_nil)
      (sd_one (sd_putL (pd_v 0) pd_int (pd_op op_modN dat_mod (pd_ty call_int1 dat_int (by rfl) T.b_int (by decide +kernel) (pd_cons (pd_op op_addD dat_add (pd_op op_addD dat_add (pd_op op_mulD dat_mul (pd_ix (pd_v 0) pd_int) pd_int) (pd_v 2)) pd_int) pd_nil)) pd_int)))))) sd_nil)
      (sd_cons (sd_if (qd_cmp op_gtD dat_gt (pd_ix (pd_v 0) pd_int) pd_int (nomark _)) (sd_cons (sd_set (i := 3) sc_law_draw.nd rfl (Or.inl rfl) (pd_op op_modN dat_mod (pd_ty call_int1 dat_int (by rfl) T.b_int (by decide +kernel) (pd_cons (pd_ix (pd_v 0) pd_int) pd_nil)) (pd_v 1)))
      (sd_cons (sd_putL (pd_v 0) pd_int (pd_op op_fdivW dat_divW (pd_ix (pd_v 0) pd_int) (pd_v 1)))
      (sd_one (sd_ret (pd_v 3))))) sd_nil)
      (sd_cons (sd_putL (pd_v 0) pd_int (pd_op op_modN dat_mod (pd_ty call_int1 dat_int (by rfl) T.b_int (by decide +kernel) (pd_cons (pd_op op_addD dat_add (pd_op op_mulD dat_mul (pd_ix (pd_v 0) pd_int) pd_int) pd_int) pd_nil)) pd_int))
      (sd_one (sd_ret (pd_op op_modN dat_mod (pd_ty call_int1 dat_int (by rfl) T.b_int (by decide +kernel) (pd_cons (pd_op op_fdivN dat_div (pd_ix (pd_v 0) pd_int) pd_int) pd_nil)) (pd_v 1)))))))

-- Program.told slots: 0 self; level 1
theorem sc_Program_told : FnScope ["self"] ["self"] (defScope s_Program_told) := ⟨rfl, rfl, rfl, by decide +kernel, rfl, by decide +kernel, by decide +kernel⟩
def B_Program_told (ad : Ad) : GS :=
      (gsRet (gTup (gaC (gFld ad.C_Program "cells" (gV 0)) (gaC (gFld ad.C_Program "locks" (gV 0)) (gaC (gFld ad.C_Program "procs" (gV 0)) (gaC (gFld ad.C_Program "start" (gV 0)) gaN))))))
def F_Program_told (ad : Ad) : GF := defG0 ["self"] (B_Program_told ad)
theorem ok_Program_told (T : Txt K mg ad) (U : Funs K ad) : Fc P w K mg base CX0 1 ad.Program_told ["self"] (spG K 1 (F_Program_told ad)) := by
  exact Fc.okG U.F_Program_told sc_Program_told fun cdv A outer s f H E hr =>
      (sd_one (sd_ret (pd_tup (pd_cons (pd_fld T.cl_Program T.no_Program_cells (pd_v 0)) (pd_cons (pd_fld T.cl_Program T.no_Program_locks (pd_v 0)) (pd_cons (pd_fld T.cl_Program T.no_Program_procs (pd_v 0)) (pd_cons (pd_fld T.cl_Program T.no_Program_start (pd_v 0)) pd_nil)))))))

end
end My

set_option Elab.async false
set_option linter.all false
set_option maxRecDepth 100000
set_option maxHeartbeats 4000000
namespace My
open PySem L2
def DrG (h : MH) (p : Addr) : Prop := ∃ (ns : List Int) (i z v : Int), h p = some (.lst [.i (.list (ns.map .int)), .i (.int i), .i (.int z), .i (.int v)]) ∧ 0 ≤ i ∧ i ≤ ns.length ∧ 0 ≤ v ∧ v < 2147483647
/-- all but the draws stands -/
def DrS (p : Addr) (h h' : MH) : Prop := ∀ b o, b ≠ p → h b = some o → h' b = some o
def F_law_draw (_ : Ad) : GF := fun h ms nx _ => ∃ p l, ms = [.p p, .i (.int l)] ∧ DrG h p ∧ (0 < l ∧ l < 2 ^ 62) ∧ ∀ n h', 0 ≤ n → n < l → DrG h' p → DrS p h h' → nx h' (.i (.int n))
theorem mset_mset {h : MH} {a : Addr} {o u : MO} : mset (mset h a o) a u = mset h a u := by
  funext b
  unfold mset
  by_cases e : b = a
  · rw [if_pos e, if_pos e]
  · rw [if_neg e, if_neg e, if_neg e]
theorem DrS.put {h : MH} {p : Addr} {o : MO} : DrS p h (mset h p o) := fun b u n e => by rw [mset_ne n]; exact e
@[simp] theorem atI_c0 {α : Type} {a : α} {l : List α} : atI (a :: l) 0 = some a := by
  have := atI_nat (xs := a :: l) (j := 0) rfl
  simpa using this
@[simp] theorem atI_c1 {α : Type} {a b : α} {l : List α} : atI (a :: b :: l) 1 = some b := by
  have := atI_nat (xs := a :: b :: l) (j := 1) rfl
  simpa using this
@[simp] theorem atI_c2 {α : Type} {a b c : α} {l : List α} : atI (a :: b :: c :: l) 2 = some c := by
  have := atI_nat (xs := a :: b :: c :: l) (j := 2) rfl
  simpa using this
@[simp] theorem atI_c3 {α : Type} {a b c d : α} {l : List α} : atI (a :: b :: c :: d :: l) 3 = some d := by
  have := atI_nat (xs := a :: b :: c :: d :: l) (j := 3) rfl
  simpa using this
theorem draw_imp {ad : Ad} : ∀ h ms nx ex, ms.length = 2 → F_law_draw ad h ms nx ex → R_law_draw ad h ms nx ex := by
  rintro h ms nx ex - ⟨p, l, rfl, ⟨ns, i, z, v, e, i0, i1, v0, v1⟩, ⟨l0, l1⟩, k⟩
  have hb : ∀ {a b : Int}, 0 ≤ a → a < 2147483647 → (-18446744073709551616 < a ∧ a < 18446744073709551616 ∨ -18446744073709551616 < b ∧ b < 18446744073709551616) := fun h1 h2 => .inl ⟨by omega, by omega⟩
  have l2 : ¬ l = 0 := by omega
  have l1 : l < 4611686018427387904 := l1
  have fin : ∀ (i z v n : Int) h', h' = mset h p (.lst [.i (.list (ns.map .int)), .i (.int i), .i (.int z), .i (.int v)]) → 0 ≤ i → i ≤ ns.length → 0 ≤ v → v < 2147483647 → 0 ≤ n → n < l → nx h' (.i (.int n)) := fun i z v n h' eh a b c d e f => by
    subst eh
    exact k n _ e f ⟨ns, i, z, v, mset_same, a, b, c, d⟩ .put
  have A := fun x => fmod_lo x (show (0 : Int) < 2147483647 by decide)
  have B := fun x => fmod_hi x (show (0 : Int) < 2147483647 by decide)
  have A2 := fun x => fmod_lo x (show (0 : Int) < 2147483629 by decide)
  have B2 := fun x => Int.lt_trans (fmod_hi x (show (0 : Int) < 2147483629 by decide)) (show (2147483629 : Int) < 2147483647 by decide)
  have C := fun x => fmod_lo x l0
  have D := fun x => fmod_hi x l0
  by_cases c : z = 0 ∧ i < ns.length
  · obtain ⟨rfl, c⟩ := c
    obtain ⟨j, rfl⟩ : ∃ j : Nat, i = (j : Int) := ⟨i.toNat, by omega⟩
    have hj : j < ns.length := by omega
    have hx : atI (List.map PyData.int ns) (j : Int) = some (.int ns[j]) := atI_nat (by rw [List.getElem?_map, List.getElem?_eq_getElem hj]; rfl)
    by_cases c3 : 1000000000000000000 ≤ ns[j]
    · have c4 : 0 < ns[j] := by omega
      simp [R_law_draw, B_law_draw, e, mset_same, mset_mset, ixN, hx, hj, c3, c4, hb v0 v1, l0, l1, l2]
      exact fin _ _ _ _ _ rfl (by omega) (by omega) (A _) (B _) (C _) (D _)
    · simp [R_law_draw, B_law_draw, e, mset_same, mset_mset, ixN, hx, hj, c3, hb v0 v1, hb (A _) (B _), l2]
      exact fin _ _ _ _ _ rfl (by omega) (by omega) (A2 _) (B2 _) (C _) (D _)
  · have c' : z = 0 → ¬ i < ns.length := fun a b => c ⟨a, b⟩
    by_cases c1 : z = 0
    · have c2 := c' c1
      subst c1
      simp [R_law_draw, B_law_draw, e, mset_same, mset_mset, ixN, c2, hb v0 v1, l2]
      exact fin _ _ _ _ _ rfl (by omega) (by omega) (A2 _) (B2 _) (C _) (D _)
    · by_cases c4 : 0 < z
      · simp [R_law_draw, B_law_draw, e, mset_same, mset_mset, ixN, c1, c4, hb v0 v1, l0, l1, l2]
        exact fin _ _ _ _ _ rfl (by omega) (by omega) v0 v1 (C _) (D _)
      · simp [R_law_draw, B_law_draw, e, mset_same, mset_mset, ixN, c1, c4, hb v0 v1, l2]
        exact fin _ _ _ _ _ rfl (by omega) (by omega) (A2 _) (B2 _) (C _) (D _)
section
variable {P : Program} {w : World} {K : PySem.W.Frag} {mg : Str → Option Value} {base : Heap} {ad : Ad}
theorem ok_law_draw (T : Txt K mg ad) (U : Funs K ad) : Fc P w K mg base CX0 1 ad.law_draw ["draws", "limit"] (spG K 2 (F_law_draw ad)) := (okR_law_draw T U).impG draw_imp
end
end My

set_option Elab.async false
set_option linter.all false
set_option maxRecDepth 100000
set_option maxHeartbeats 4000000
namespace My
open PySem L2
section
variable {P : Program} {w : World} {K : PySem.W.Frag} {mg : Str → Option Value} {base : Heap} {ad : Ad}
-- _law_pick slots: 0 draws, 1 things; level 2
theorem sc_law_pick : FnScope ["draws", "things"] ["draws", "things"] (defScope s_law_pick) := ⟨rfl, rfl, rfl, by decide +kernel, rfl, by decide +kernel, by decide +kernel⟩
def B_law_pick (ad : Ad) : GS :=
      (gsRet (gIx (gV 1) (gCall0 (F_law_draw ad) (gaC (gV 0) (gaC (gLen (gV 1)) gaN)))))
def R_law_pick (ad : Ad) : GF := defG0 ["draws", "things"] (B_law_pick ad)
theorem okR_law_pick (T : Txt K mg ad) (U : Funs K ad) : Fc P w K mg base CX0 2 ad.law_pick ["draws", "things"] (spG K 2 (R_law_pick ad)) := by
  have G_law_draw := ok_law_draw (P := P) (w := w) (base := base) T U
  exact Fc.okG U.F_law_pick sc_law_pick fun cdv A outer s f H E hr =>
      (sd_one (sd_ret (pd_ix (pd_v 1) (pd_call0 G_law_draw (hr.mono (by decide)) rfl T.g_law_draw T.k_law_draw (pd_cons (pd_v 0) (pd_cons (pd_len (by rfl) T.b_len (by decide +kernel) (pd_v 1)) pd_nil))))))

-- _law_proc slots: 0 told, 1 name, 2 row; level 1
theorem sc_law_proc : FnScope ["told", "name", "row"] ["told", "name"] (defScope s_law_proc) := ⟨rfl, rfl, rfl, by decide +kernel, rfl, by decide +kernel, by decide +kernel⟩
def B_law_proc (ad : Ad) : GS :=
      (gsRet (gIx (gLC (giSeq (gIx (gV 0) (gC (.int 2)))) [2] (bName 2) (qB (gOp fEq (gIx (gV 2) (gC (.int 0))) (gV 1))) (gV 2)) (gC (.int 0))))
def R_law_proc (ad : Ad) : GF := defG0 ["told", "name", "row"] (B_law_proc ad)
theorem okR_law_proc (T : Txt K mg ad) (U : Funs K ad) : Fc P w K mg base CX0 1 ad.law_proc ["told", "name"] (spG K 2 (R_law_proc ad)) := by
  exact Fc.okG U.F_law_proc sc_law_proc fun cdv A outer s f H E hr =>
      (sd_one (sd_ret (pd_ix (pd_lc (own := [("row", 2)]) rfl sc_law_proc.nd (gi_seq (pd_ix (pd_v 0) pd_int)) (blkOk_by (own := [("row", 2)]) (N := ["told", "name", "row"]) (sc := defScope s_law_proc) (by decide +kernel)) (fun _ _ _ _ _ => (pg_name (i := 2) sc_law_proc.nd rfl (Or.inl rfl))) tg_name (fun _ _ _ _ _ => (ptd_one (qd_cmp (op_eqA hr.units) dat_eq (pd_ix (pd_v 2) pd_int) (pd_v 1) (nomark _)))) (fun _ _ _ _ _ => (pd_v 2))) pd_int)))

-- needs slots: 0 program, 1 op, 2 word; level 1
theorem sc_needs : FnScope ["program", "op", "word"] ["program", "op"] (defScope s_needs) := ⟨rfl, rfl, rfl, by decide +kernel, rfl, by decide +kernel, by decide +kernel⟩
def B_needs (ad : Ad) : GS :=
      (gsC (gsSet 2 (gIx (gV 1) (gC (.int 0))))
      (gsC (gsIf (qOr (qB (gOp fIn (gV 2) (gC (.tuple [(.str "add"), (.str "sub"), (.str "mul"), (.str "div"), (.str "rem"), (.str "and"), (.str "or"), (.str "xor")])))) (qB (gOp fIn (gV 2) (gTup (gaC (gC (.str "if")) (gaC (gC (.str "set")) gaN)))))) (gsRet (gC (.int 2))) gsN)
      (gsC (gsIf (qB (gOp fIn (gV 2) (gTup (gaC (gC (.str "store")) (gaC (gC (.str "dup")) (gaC (gC (.str "drop")) (gaC (gC (.str "neg")) (gaC (gC (.str "give")) (gaC (gC (.str "put")) (gaC (gC (.str "fetch")) (gaC (gC (.str "trade")) (gaC (gC (.str "tell")) (gaC (gC (.str "join")) gaN))))))))))))) (gsRet (gC (.int 1))) gsN)
      (gsRet (gIf (qB (gOp fIn (gV 2) (gTup (gaC (gC (.str "call")) (gaC (gC (.str "spawn")) gaN))))) (gIx (gDget (gFld ad.C_Program "by" (gV 0)) (gIx (gV 1) (gC (.int 1)))) (gC (.int 1))) (gC (.int 0)))))))
def R_needs (ad : Ad) : GF := defG0 ["program", "op", "word"] (B_needs ad)
theorem okR_needs (T : Txt K mg ad) (U : Funs K ad) : Fc P w K mg base CX0 1 ad.needs ["program", "op"] (spG K 2 (R_needs ad)) := by
  exact Fc.okG U.F_needs sc_needs fun cdv A outer s f H E hr =>
      (sd_cons (sd_set (i := 2) sc_needs.nd rfl (Or.inl rfl) (pd_ix (pd_v 1) pd_int))
      (sd_cons (sd_if (PW.pt (qd_or (qd_cmp op_in_seq dat_in (pd_v 2) (pd_gl rfl T.g_WORKS (fun _ _ => .kt T.t_WORKS (.cons (.str _) (.cons (.str _) (.cons (.str _) (.cons (.str _) (.cons (.str _) (.cons (.str _) (.cons (.str _) (.cons (.str _) .nil)))))))))) (by rfl)) (qd_or1 (qd_cmp op_in_seq dat_in (pd_v 2) (pd_tup (pd_cons pd_str (pd_cons pd_str pd_nil))) (by rfl))))) (sd_one (sd_ret pd_int)) sd_nil)
      (sd_cons (sd_if (qd_cmp op_in_seq dat_in (pd_v 2) (pd_tup (pd_cons pd_str (pd_cons pd_str (pd_cons pd_str (pd_cons pd_str (pd_cons pd_str (pd_cons pd_str (pd_cons pd_str (pd_cons pd_str (pd_cons pd_str (pd_cons pd_str pd_nil))))))))))) (by rfl)) (sd_one (sd_ret pd_int)) sd_nil)
      (sd_one (sd_ret (pd_if (qd_cmp op_in_seq dat_in (pd_v 2) (pd_tup (pd_cons pd_str (pd_cons pd_str pd_nil))) (by rfl)) (pd_ix (pd_dget (hu_of hr) (pd_fld T.cl_Program T.no_Program_by (pd_v 0)) (pd_ix (pd_v 1) pd_int)) pd_int) pd_int))))))

-- _law_same slots: 0 actual, 1 expected, 2 k; level 2
theorem sc_law_same : FnScope ["actual", "expected", "k"] ["actual", "expected"] (defScope s_law_same) := ⟨rfl, rfl, rfl, by decide +kernel, rfl, by decide +kernel, by decide +kernel⟩
def B_law_same (F0 : GF) : GS :=
      (gsC (gsIf (qOr (qB (gIsi isT (gV 1))) (qB (gIsi isL (gV 1)))) (gsC (gsIf (qOr (qB (gOp fNe (gIsi isT (gV 1)) (gIsi isT (gV 0)))) (qB (gOp fNe (gIsi isL (gV 1)) (gIsi isL (gV 0))))) (gsRet (gC (.bool false))) gsN)
      (gsC (gsIf (qB (gOp fNe (gLen (gV 0)) (gLen (gV 1)))) (gsRet (gC (.bool false))) gsN)
      (gsRet (gOp fEq (gLen (gLC (giRg1 (gLen (gV 1))) [2] (bName 2) (qNot (qB (gCall0 F0 (gaC (gIx (gV 0) (gV 2)) (gaC (gIx (gV 1) (gV 2)) gaN))))) (gV 2))) (gC (.int 0)))))) gsN)
      (gsC (gsIf (qB (gIsi isS (gV 1))) (gsRet (gAnd (gIsi isS (gV 0)) (gOp fEq (gV 0) (gV 1)))) gsN)
      (gsC (gsIf (qB (gIsN (gV 1))) (gsRet (gIsN (gV 0))) gsN)
      (gsC (gsIf (qOr (qB (gIsi isB (gV 1))) (qB (gIsi isB (gV 0)))) (gsRet (gAnd (gIsi isB (gV 1)) (gAnd (gIsi isB (gV 0)) (gOp fEq (gV 0) (gV 1))))) gsN)
      (gsRet (gAnd (gIsi isI (gV 0)) (gAnd (gIsi isI (gV 1)) (gOp fEq (gV 0) (gV 1)))))))))
def R_law_same (F0 : GF) : GF := defG0 ["actual", "expected", "k"] (B_law_same F0)
theorem okR_law_same (T : Txt K mg ad) (U : Funs K ad) {k : Nat} {F0 : GF} (G_law_same : Fc P w K mg base CX0 k ad.law_same ["actual", "expected"] (spG K 2 F0)) : Fc P w K mg base CX0 (k + 1) ad.law_same ["actual", "expected"] (spG K 2 (R_law_same F0)) := by
  exact Fc.okG U.F_law_same sc_law_same fun cdv A outer s f H E hr =>
      (sd_cons (sd_if (PW.pt (qd_or (qd_val (pd_isi k_tup (by rfl) T.b_isinstance (by decide +kernel) (pd_v 1) (pe_bltn (v := .ty "tuple") (by rfl) T.b_tuple (by decide +kernel) rfl))) (qd_or1 (qd_val (pd_isi k_list (by rfl) T.b_isinstance (by decide +kernel) (pd_v 1) (pe_bltn (v := .ty "list") (by rfl) T.b_list (by decide +kernel) rfl)))))) (sd_cons (sd_if (PW.pt (qd_or (qd_cmp (op_neA hr.units) dat_ne (pd_isi k_tup (by rfl) T.b_isinstance (by decide +kernel) (pd_v 1) (pe_bltn (v := .ty "tuple") (by rfl) T.b_tuple (by decide +kernel) rfl)) (pd_isi k_tup (by rfl) T.b_isinstance (by decide +kernel) (pd_v 0) (pe_bltn (v := .ty "tuple") (by rfl) T.b_tuple (by decide +kernel) rfl)) (nomark _)) (qd_or1 (qd_cmp (op_neA hr.units) dat_ne (pd_isi k_list (by rfl) T.b_isinstance (by decide +kernel) (pd_v 1) (pe_bltn (v := .ty "list") (by rfl) T.b_list (by decide +kernel) rfl)) (pd_isi k_list (by rfl) T.b_isinstance (by decide +kernel) (pd_v 0) (pe_bltn (v := .ty "list") (by rfl) T.b_list (by decide +kernel) rfl)) (nomark _))))) (sd_one (sd_ret pd_bl)) sd_nil)
      (sd_cons (sd_if (qd_cmp (op_neA hr.units) dat_ne (pd_len (by rfl) T.b_len (by decide +kernel) (pd_v 0)) (pd_len (by rfl) T.b_len (by decide +kernel) (pd_v 1)) (nomark _)) (sd_one (sd_ret pd_bl)) sd_nil)
      (sd_one (sd_ret (pd_cmp (op_eqA hr.units) dat_eq (pd_len (by rfl) T.b_len (by decide +kernel) (pd_lc (own := [("k", 2)]) rfl sc_law_same.nd (gi_rg1 rfl T.b_range (pd_len (by rfl) T.b_len (by decide +kernel) (pd_v 1))) (blkOk_by (own := [("k", 2)]) (N := ["actual", "expected", "k"]) (sc := defScope s_law_same) (by decide +kernel)) (fun _ _ _ _ _ => (pg_name (i := 2) sc_law_same.nd rfl (Or.inl rfl))) tg_name (fun _ _ _ _ _ => (ptd_one (qd_not (qd_val (pd_call0 G_law_same hr rfl T.g_law_same T.k_law_same (pd_cons (pd_ix (pd_v 0) (pd_v 2)) (pd_cons (pd_ix (pd_v 1) (pd_v 2)) pd_nil))))))) (fun _ _ _ _ _ => (pd_v 2)))) pd_int (nomark _)))))) sd_nil)
      (sd_cons (sd_if (qd_val (pd_isi k_str (by rfl) T.b_isinstance (by decide +kernel) (pd_v 1) (pe_bltn (v := .ty "str") (by rfl) T.b_str (by decide +kernel) rfl))) (sd_one (sd_ret (pd_and (pd_isi k_str (by rfl) T.b_isinstance (by decide +kernel) (pd_v 0) (pe_bltn (v := .ty "str") (by rfl) T.b_str (by decide +kernel) rfl)) (pd_one (pd_cmp (op_eqA hr.units) dat_eq (pd_v 0) (pd_v 1) (nomark _)))))) sd_nil)
      (sd_cons (sd_if (qd_isN (pd_v 1)) (sd_one (sd_ret (pd_isN (pd_v 0)))) sd_nil)
      (sd_cons (sd_if (PW.pt (qd_or (qd_val (pd_isi k_bool (by rfl) T.b_isinstance (by decide +kernel) (pd_v 1) (pe_bltn (v := .ty "bool") (by rfl) T.b_bool (by decide +kernel) rfl))) (qd_or1 (qd_val (pd_isi k_bool (by rfl) T.b_isinstance (by decide +kernel) (pd_v 0) (pe_bltn (v := .ty "bool") (by rfl) T.b_bool (by decide +kernel) rfl)))))) (sd_one (sd_ret (pd_and (pd_isi k_bool (by rfl) T.b_isinstance (by decide +kernel) (pd_v 1) (pe_bltn (v := .ty "bool") (by rfl) T.b_bool (by decide +kernel) rfl)) (pd_and (pd_isi k_bool (by rfl) T.b_isinstance (by decide +kernel) (pd_v 0) (pe_bltn (v := .ty "bool") (by rfl) T.b_bool (by decide +kernel) rfl)) (pd_one (pd_cmp (op_eqA hr.units) dat_eq (pd_v 0) (pd_v 1) (nomark _))))))) sd_nil)
      (sd_one (sd_ret (pd_and (pd_isi k_int (by rfl) T.b_isinstance (by decide +kernel) (pd_v 0) (pe_bltn (v := .ty "int") (by rfl) T.b_int (by decide +kernel) rfl)) (pd_and (pd_isi k_int (by rfl) T.b_isinstance (by decide +kernel) (pd_v 1) (pe_bltn (v := .ty "int") (by rfl) T.b_int (by decide +kernel) rfl)) (pd_one (pd_cmp (op_eqA hr.units) dat_eq (pd_v 0) (pd_v 1) (nomark _)))))))))))


end
end My

set_option Elab.async false
set_option linter.all false
set_option maxRecDepth 100000
set_option maxHeartbeats 4000000
namespace My
open PySem L2
theorem opt_of {α : Type} {o : Option α} {x : α} {k : α → Prop} (e : o = some x) (q : k x) : opt o k := by rw [e]; exact q
theorem DrS.refl (p : Addr) (h : MH) : DrS p h h := fun _ _ _ e => e
theorem DrS.trans {p : Addr} {h h1 h2 : MH} (a : DrS p h h1) (b : DrS p h1 h2) : DrS p h h2 := fun c o n e => b c o n (a c o n e)
/-! ### _law_pick -/
def F_law_pick (_ : Ad) : GF := fun h ms nx _ => ∃ p t ds, ms = [.p p, .i t] ∧ itemsOf t = some ds ∧ DrG h p ∧ (0 < ds.length ∧ ds.length ≤ SL) ∧ ∀ d h', d ∈ ds → DrG h' p → DrS p h h' → nx h' (.i d)
theorem pick_imp {ad : Ad} : ∀ h ms nx ex, ms.length = 2 → F_law_pick ad h ms nx ex → R_law_pick ad h ms nx ex := by
  rintro h ms nx ex - ⟨p, t, ds, rfl, et, hD, ⟨l0, l1⟩, k⟩
  have l1 : ds.length ≤ 16777216 := l1
  have hl : lenD' t = some ds.length := by cases t <;> cases et <;> rfl
  have key : ∀ (nx : MH → MV → Prop) n h', 0 ≤ n → n < (ds.length : Int) → (∀ d ∈ ds, nx h' (.i d)) → kIx h' (.i t) (.i (.int n)) (nx h') := fun nx n h' n0 n1 q => by
    obtain ⟨j, rfl⟩ : ∃ j : Nat, n = (j : Int) := ⟨n.toNat, by omega⟩
    have hj : j < ds.length := by omega
    have hx : atI ds (j : Int) = some ds[j] := atI_nat (List.getElem?_eq_getElem hj)
    cases t <;> cases et
    · exact opt_of hx (q _ (List.getElem_mem hj))
    · exact opt_of hx (q _ (List.getElem_mem hj))
  refine opt_of hl ?_
  exact ⟨p, ds.length, rfl, hD, ⟨by omega, by omega⟩, fun n h' n0 n1 D S => key _ n h' n0 n1 fun d hd => k d h' hd D S⟩
/-! ### comprehensions over data that only read -/
theorem lcL_filter {b : GB} {t : GT} {g : GE} {Γ : Gam} {kc : MH → Prop} {k : MH → List MV → Prop} {h : MH} {p : PyData → Bool} {f : PyData → PyData} {G1 : PyData → Gam} (hkc : kc h) : ∀ {ds : List PyData} {acc : List MV}, (∀ d ∈ ds, b h Γ [.i d] = some (G1 d)) →
    (∀ d ∈ ds, ∀ nx : MH → Bool → Prop, nx h (p d) → t h (G1 d) nx XF) → (∀ d ∈ ds, p d = true → ∀ nx : MH → MV → Prop, nx h (.i (f d)) → g h (G1 d) nx XF) → k h (acc ++ ((ds.filter p).map fun d => .i (f d))) → lcL b t g Γ kc k (rows ds) acc h
  | [], acc, _, _, _, q => ⟨hkc, by simpa using q⟩
  | d :: ds, acc, hb, ht, hg, q => by
    refine ⟨hkc, opt_of (hb d List.mem_cons_self) (ht d List.mem_cons_self _ ?_)⟩
    have rec' : ∀ {acc : List MV}, k h (acc ++ ((ds.filter p).map fun d => .i (f d))) → lcL b t g Γ kc k (rows ds) acc h := fun q => lcL_filter hkc (fun d hd => hb d (List.mem_cons_of_mem _ hd)) (fun d hd => ht d (List.mem_cons_of_mem _ hd)) (fun d hd => hg d (List.mem_cons_of_mem _ hd)) q
    cases hp : p d with
    | true =>
      rw [List.filter_cons_of_pos hp, List.map_cons] at q
      exact iteT (hg d List.mem_cons_self hp _ (rec' (by rw [List.append_assoc]; exact q)))
    | false =>
      rw [List.filter_cons_of_neg (by rw [hp]; exact Bool.noConfusion)] at q
      exact iteF (rec' q)
theorem allI_map : ∀ ds : List PyData, allI (ds.map .i) = some ds
  | [] => rfl
  | d :: ds => by
    show (allI (ds.map .i)).map (d :: ·) = _
    rw [allI_map ds]; rfl
/-! ### _law_proc -/
def F_law_proc (_ : Ad) : GF := fun h ms nx _ => ∃ x y procs r q row, ms = [.i (.tuple (x :: y :: .tuple procs :: r)), .i (.str q)] ∧ (∀ p ∈ procs, ∃ n t, p = .tuple (.str n :: t)) ∧ procs.length ≤ SL ∧ procs.find? (fun d => decide (procName d = q)) = some row ∧ nx h (.i row)
theorem filter_find {α : Type} {p : α → Bool} {x : α} : ∀ {l : List α}, l.find? p = some x → ∃ r, l.filter p = x :: r
  | [], h => by cases h
  | a :: l, h => by
    cases hp : p a with
    | true =>
      rw [List.find?_cons_of_pos hp] at h
      cases h
      exact ⟨_, List.filter_cons_of_pos hp⟩
    | false =>
      rw [List.find?_cons_of_neg (by rw [hp]; exact Bool.noConfusion)] at h
      rw [List.filter_cons_of_neg (by rw [hp]; exact Bool.noConfusion)]
      exact filter_find h
theorem proc_imp {ad : Ad} : ∀ h ms nx ex, ms.length = 2 → F_law_proc ad h ms nx ex → R_law_proc ad h ms nx ex := by
  rintro h ms nx ex - ⟨x, y, procs, r, q, row, rfl, hp, hl, hf, k⟩
  obtain ⟨r', er⟩ := filter_find hf
  refine opt_of (x := .tuple procs) atI_c2 ?_
  refine ⟨by unfold rows; rw [List.length_map]; exact hl, ?_⟩
  refine lcL_filter (p := fun d => decide (procName d = q)) (f := fun d => d) trivial (fun d hd => rfl) (fun d hd nx k => ?_) (fun d hd _ nx k => k) ?_
  · obtain ⟨n, t, rfl⟩ := hp d hd
    refine opt_of (x := PyData.str n) atI_c0 ?_
    exact k
  · rw [List.nil_append]
    refine opt_of (allI_map _) ?_
    rw [er]
    exact opt_of atI_c0 k
section
variable {P : Program} {w : World} {K : PySem.W.Frag} {mg : Str → Option Value} {base : Heap} {ad : Ad}
theorem ok_law_pick (T : Txt K mg ad) (U : Funs K ad) : Fc P w K mg base CX0 2 ad.law_pick ["draws", "things"] (spG K 2 (F_law_pick ad)) := (okR_law_pick T U).impG pick_imp
theorem ok_law_proc (T : Txt K mg ad) (U : Funs K ad) : Fc P w K mg base CX0 1 ad.law_proc ["told", "name"] (spG K 2 (F_law_proc ad)) := (okR_law_proc T U).impG proc_imp
end
/-! ### _law_same at equal data -/
mutual
def depD : PyData → Nat
  | .list ds => depDs ds + 1
  | .tuple ds => depDs ds + 1
  | _ => 0
def depDs : List PyData → Nat
  | [] => 0
  | d :: ds => max (depD d) (depDs ds)
end
mutual
/-- no dict within, no sequence beyond the line -/
def fitD : PyData → Bool
  | .list ds => decide (ds.length ≤ 1000000) && fitDs ds
  | .tuple ds => decide (ds.length ≤ 1000000) && fitDs ds
  | .dict _ => false
  | _ => true
def fitDs : List PyData → Bool
  | [] => true
  | d :: ds => fitD d && fitDs ds
end
theorem depDs_get : ∀ {ds : List PyData} {i : Nat} {d : PyData}, ds[i]? = some d → depD d ≤ depDs ds
  | [], _, _, h => by simp at h
  | e :: ds, 0, d, h => by cases h; exact Nat.le_max_left _ _
  | e :: ds, i + 1, d, h => Nat.le_trans (depDs_get (ds := ds) (i := i) (by simpa using h)) (Nat.le_max_right _ _)
theorem fitDs_get : ∀ {ds : List PyData} {i : Nat} {d : PyData}, fitDs ds = true → ds[i]? = some d → fitD d = true
  | [], _, _, _, h => by simp at h
  | e :: ds, 0, d, f, h => by cases h; exact (Bool.and_eq_true_iff.mp f).1
  | e :: ds, i + 1, d, f, h => fitDs_get (ds := ds) (i := i) (Bool.and_eq_true_iff.mp f).2 (by simpa using h)
def F_same (n : Nat) : GF := fun h ms nx _ => ∃ d, ms = [.i d, .i d] ∧ depD d < n ∧ fitD d = true ∧ nx h (.i (.bool true))
theorem lcL_none {b : GB} {t : GT} {g : GE} {Γ : Gam} {kc : MH → Prop} {k : MH → List MV → Prop} {h : MH} {G1 : Row → Gam} {acc : List MV} (hkc : kc h) (q : k h acc) : ∀ {its : List Row}, (∀ r ∈ its, b h Γ r = some (G1 r)) →
    (∀ r ∈ its, ∀ nx : MH → Bool → Prop, nx h false → t h (G1 r) nx XF) → lcL b t g Γ kc k its acc h
  | [], _, _ => ⟨hkc, q⟩
  | r :: its, hb, ht => ⟨hkc, opt_of (hb r List.mem_cons_self) (ht r List.mem_cons_self _ (iteF (lcL_none hkc q (fun r hr => hb r (List.mem_cons_of_mem _ hr)) (fun r hr => ht r (List.mem_cons_of_mem _ hr)))))⟩
theorem intsM_mem {n : Nat} {r : Row} : ∀ {lo : Int}, r ∈ intsM lo n → ∃ i : Nat, i < n ∧ r = [.i (.int (lo + (i : Nat)))] := by
  intro lo h
  obtain ⟨i, hi, e⟩ := List.mem_iff_getElem.mp h
  rw [intsM_len] at hi
  have := intsM_at (lo := lo) hi
  rw [List.getElem?_eq_getElem (by rw [intsM_len]; exact hi), e] at this
  exact ⟨i, hi, Option.some.inj this⟩
theorem seq_same {n : Nat} {h : MH} {nx : MH → MV → Prop} {ex : GX} {d : PyData} {ds : List PyData} (et : itemsOf d = some ds) (hd : depDs ds < n) (hf : fitDs ds = true) (hl : ds.length ≤ 1000000) (k : nx h (.i (.bool true))) : R_law_same (F_same n) h [.i d, .i d] nx ex := by
  have hlen : lenD' d = some ds.length := by cases d <;> cases et <;> rfl
  have main : (gsC (gsIf (qB (gOp fNe (gLen (gV 0)) (gLen (gV 1)))) (gsRet (gC (.bool false))) gsN)
      (gsRet (gOp fEq (gLen (gLC (giRg1 (gLen (gV 1))) [2] (bName 2) (qNot (qB (gCall0 (F_same n) (gaC (gIx (gV 0) (gV 2)) (gaC (gIx (gV 1) (gV 2)) gaN))))) (gV 2))) (gC (.int 0))))) h [some (.i d), some (.i d), none] (fun _ _ => False) nx XF := by
    refine opt_of hlen (opt_of hlen ?_)
    show (if (!decide ((ds.length : Int) = (ds.length : Int))) = true then _ else _)
    rw [decide_eq_true rfl]
    refine iteF ?_
    refine opt_of hlen ?_
    refine ⟨⟨by omega, by omega⟩, ?_⟩
    refine ⟨by rw [intsM_len]; show _ ≤ 16777216; omega, ?_⟩
    refine lcL_none (G1 := fun r => match r with | [m] => [some (.i d), some (.i d), some m] | _ => []) trivial ?_ (fun r hr => ?_) (fun r hr nx q => ?_)
    · exact k
    · obtain ⟨i, hi, rfl⟩ := intsM_mem hr
      rfl
    · obtain ⟨i, hi, rfl⟩ := intsM_mem hr
      have hi : i < ds.length := by rw [Int.toNat_natCast] at hi; exact hi
      have hx : atI ds (0 + (i : Int)) = some ds[i] := by rw [Int.zero_add]; exact atI_nat (List.getElem?_eq_getElem hi)
      have ix : ∀ k : MV → Prop, k (.i ds[i]) → kIx h (.i d) (.i (.int (0 + (i : Int)))) k := fun k q => by
        cases d <;> cases et
        · exact opt_of hx q
        · exact opt_of hx q
      simp only [qNot, qB, gCall0, gaC, gaN, gIx, gV, lk, opt]
      refine ix _ ?_
      refine ix _ ?_
      exact ⟨ds[i], rfl, Nat.lt_of_le_of_lt (depDs_get (List.getElem?_eq_getElem hi)) hd, fitDs_get hf (List.getElem?_eq_getElem hi), q⟩
  cases d <;> cases et
  · exact main
  · exact main
theorem same_imp {n : Nat} : ∀ h ms nx ex, ms.length = 2 → F_same (n + 1) h ms nx ex → R_law_same (F_same n) h ms nx ex := by
  rintro h ms nx ex - ⟨d, rfl, hd, hf, k⟩
  cases d with
  | none => exact k
  | bool b => exact (show nx h (.i (.bool (decide (b = b)))) by rw [decide_eq_true rfl]; exact k)
  | int i => exact (show nx h (.i (.bool (decide (i = i)))) by rw [decide_eq_true rfl]; exact k)
  | str s => exact (show nx h (.i (.bool (decide (s = s)))) by rw [decide_eq_true rfl]; exact k)
  | list ds => exact seq_same (d := .list ds) rfl (Nat.lt_of_succ_lt_succ hd) (Bool.and_eq_true_iff.mp hf).2 (of_decide_eq_true (Bool.and_eq_true_iff.mp hf).1) k
  | tuple ds => exact seq_same (d := .tuple ds) rfl (Nat.lt_of_succ_lt_succ hd) (Bool.and_eq_true_iff.mp hf).2 (of_decide_eq_true (Bool.and_eq_true_iff.mp hf).1) k
  | dict _ => cases hf
def F_law_same (_ : Ad) : GF := F_same 11
section
variable {P : Program} {w : World} {K : PySem.W.Frag} {mg : Str → Option Value} {base : Heap} {ad : Ad}
theorem ok_same0 (T : Txt K mg ad) (U : Funs K ad) : ∀ n : Nat, Fc P w K mg base CX0 (n + 1) ad.law_same ["actual", "expected"] (spG K 2 (F_same n))
  | 0 => Fc.ok U.F_law_same sc_law_same (fun vs H Q E ⟨Y, h, ms, nx, ex, _, _, _, ⟨_, _, z, _⟩, _⟩ => absurd z (Nat.not_lt_zero _)) fun cdv A outer s f H vs Q E hr ⟨Y, h, ms, nx, ex, _, _, _, ⟨_, _, z, _⟩, _⟩ => absurd z (Nat.not_lt_zero _)
  | n + 1 => (okR_law_same T U (ok_same0 T U n)).impG same_imp
theorem ok_law_same (T : Txt K mg ad) (U : Funs K ad) : Fc P w K mg base CX0 12 ad.law_same ["actual", "expected"] (spG K 2 (F_law_same ad)) := ok_same0 T U 11
end
end My

set_option Elab.async false
set_option linter.all false
set_option maxRecDepth 100000
set_option maxHeartbeats 4000000
namespace My
open PySem L2
section
variable {P : Program} {w : World} {K : PySem.W.Frag} {mg : Str → Option Value} {base : Heap} {ad : Ad}
-- _law_snippet slots: 0 draws, 1 cells, 2 locks, 3 deep, 4 kind, 5 one, 6 two, 7 number, 8 work, 9 mask, 10 lock, 11 rare; level 3
theorem sc_law_snippet : FnScope ["draws", "cells", "locks", "deep", "kind", "one", "two", "number", "work", "mask", "lock", "rare"] ["draws", "cells", "locks", "deep"] (defScope s_law_snippet) := ⟨rfl, rfl, rfl, by decide +kernel, rfl, by decide +kernel, by decide +kernel⟩
def B_law_snippet (ad : Ad) : GS :=
      (gsC (gsSet 4 (gCall0 (F_law_draw ad) (gaC (gV 0) (gaC (gC (.int 17)) gaN))))
      (gsC (gsPar 5 6 (gaC (gCall0 (F_law_draw ad) (gaC (gV 0) (gaC (gV 1) gaN))) (gaC (gCall0 (F_law_draw ad) (gaC (gV 0) (gaC (gV 1) gaN))) gaN)))
      (gsC (gsSet 7 (gCall0 (F_law_pick ad) (gaC (gV 0) (gaC (gLst (gaC (gC (.int 1)) (gaC (gC (.int 2)) (gaC (gC (.int 3)) (gaC (gUn fNeg (gC (.int 1))) (gaC (gC (.int 5)) (gaC (gC (.int 2147483647)) gaN))))))) gaN))))
      (gsC (gsSet 8 (gCall0 (F_law_pick ad) (gaC (gV 0) (gaC (gLst (gaC (gC (.str "add")) (gaC (gC (.str "sub")) (gaC (gC (.str "mul")) (gaC (gC (.str "xor")) (gaC (gC (.str "and")) (gaC (gC (.str "or")) gaN))))))) gaN))))
      (gsC (gsSet 9 (gIx (gLst (gaC (gC (.int 0)) (gaC (gC (.int 0)) (gaC (gC (.int 1)) (gaC (gC (.int 1)) (gaC (gC (.int 3)) (gaC (gC (.int 3)) (gaC (gC (.int 3)) (gaC (gC (.int 3)) (gaC (gC (.int 7)) gaN)))))))))) (gB fMin2 (gaC (gV 1) (gaC (gC (.int 8)) gaN)))))
      (gsC (gsIf (qB (gOp fLt (gV 4) (gC (.int 3)))) (gsRet (gLst (gaC (gTup (gaC (gC (.str "get")) (gaC (gV 5) gaN))) (gaC (gTup (gaC (gC (.str "int")) (gaC (gV 7) gaN))) (gaC (gTup (gaC (gV 8) gaN)) (gaC (gTup (gaC (gC (.str "put")) (gaC (gV 5) gaN))) gaN)))))) gsN)
      (gsC (gsIf (qAnd (qB (gOp fLt (gV 4) (gC (.int 6)))) (qB (gOp fGt (gV 2) (gC (.int 0))))) (gsC (gsSet 10 (gCall0 (F_law_draw ad) (gaC (gV 0) (gaC (gV 2) gaN))))
      (gsRet (gLst (gaC (gTup (gaC (gC (.str "lock")) (gaC (gV 10) gaN))) (gaC (gTup (gaC (gC (.str "get")) (gaC (gV 5) gaN))) (gaC (gTup (gaC (gC (.str "load")) (gaC (gC (.int 0)) gaN))) (gaC (gTup (gaC (gV 8) gaN)) (gaC (gTup (gaC (gC (.str "put")) (gaC (gV 6) gaN))) (gaC (gTup (gaC (gC (.str "free")) (gaC (gV 10) gaN))) gaN))))))))) gsN)
      (gsC (gsIf (qB (gOp fEq (gV 4) (gC (.int 6)))) (gsRet (gLst (gaC (gTup (gaC (gC (.str "load")) (gaC (gC (.int 0)) gaN))) (gaC (gTup (gaC (gC (.str "tell")) gaN)) gaN)))) gsN)
      (gsC (gsIf (qB (gOp fEq (gV 4) (gC (.int 7)))) (gsRet (gLst (gaC (gTup (gaC (gC (.str "get")) (gaC (gV 5) gaN))) (gaC (gTup (gaC (gC (.str "tell")) gaN)) gaN)))) gsN)
      (gsC (gsIf (qB (gOp fEq (gV 4) (gC (.int 8)))) (gsRet (gLst (gaC (gTup (gaC (gC (.str "ask")) gaN)) (gaC (gTup (gaC (gC (.str "put")) (gaC (gV 5) gaN))) gaN)))) gsN)
      (gsC (gsIf (qB (gOp fEq (gV 4) (gC (.int 9)))) (gsRet (gLst (gaC (gTup (gaC (gC (.str "load")) (gaC (gC (.int 0)) gaN))) (gaC (gTup (gaC (gC (.str "trade")) (gaC (gV 5) gaN))) (gaC (gTup (gaC (gC (.str "store")) (gaC (gC (.int 0)) gaN))) gaN))))) gsN)
      (gsC (gsIf (qB (gOp fEq (gV 4) (gC (.int 10)))) (gsRet (gLst (gaC (gTup (gaC (gC (.str "load")) (gaC (gC (.int 0)) gaN))) (gaC (gTup (gaC (gC (.str "int")) (gaC (gV 9) gaN))) (gaC (gTup (gaC (gC (.str "and")) gaN)) (gaC (gTup (gaC (gC (.str "fetch")) gaN)) (gaC (gTup (gaC (gC (.str "put")) (gaC (gV 5) gaN))) gaN))))))) gsN)
      (gsC (gsIf (qB (gOp fEq (gV 4) (gC (.int 11)))) (gsRet (gLst (gaC (gTup (gaC (gC (.str "load")) (gaC (gC (.int 0)) gaN))) (gaC (gTup (gaC (gC (.str "int")) (gaC (gV 9) gaN))) (gaC (gTup (gaC (gC (.str "and")) gaN)) (gaC (gTup (gaC (gC (.str "get")) (gaC (gV 5) gaN))) (gaC (gTup (gaC (gC (.str "set")) gaN)) gaN))))))) gsN)
      (gsC (gsIf (qB (gOp fEq (gV 4) (gC (.int 12)))) (gsRet (gLst (gaC (gTup (gaC (gC (.str "get")) (gaC (gV 5) gaN))) (gaC (gTup (gaC (gC (.str "get")) (gaC (gV 6) gaN))) (gaC (gTup (gaC (gV 8) gaN)) (gaC (gTup (gaC (gC (.str "store")) (gaC (gC (.int 0)) gaN))) gaN)))))) gsN)
      (gsC (gsIf (qB (gOp fEq (gV 4) (gC (.int 13)))) (gsRet (gLst (gaC (gTup (gaC (gC (.str "load")) (gaC (gC (.int 0)) gaN))) (gaC (gTup (gaC (gC (.str "call")) (gaC (gC (.str "twice")) gaN))) (gaC (gTup (gaC (gC (.str "store")) (gaC (gC (.int 0)) gaN))) gaN))))) gsN)
      (gsC (gsIf (qAnd (qB (gOp fEq (gV 4) (gC (.int 14)))) (qB (gOp fGt (gV 3) (gC (.int 0))))) (gsC (gsSet 11 (gLst (gaC (gLst (gaC (gTup (gaC (gC (.str "int")) (gaC (gC (.int 7)) gaN))) (gaC (gTup (gaC (gC (.str "get")) (gaC (gV 5) gaN))) (gaC (gTup (gaC (gC (.str "div")) gaN)) (gaC (gTup (gaC (gC (.str "store")) (gaC (gC (.int 0)) gaN))) gaN))))) (gaC (gLst (gaC (gTup (gaC (gC (.str "load")) (gaC (gC (.int 0)) gaN))) (gaC (gTup (gaC (gC (.str "fetch")) gaN)) (gaC (gTup (gaC (gC (.str "drop")) gaN)) gaN)))) gaN))))
      (gsC (gsSet 11 (gOp fAdd (gV 11) (gIf (qAnd (qB (gOp fGt (gV 2) (gC (.int 0)))) (qB (gOp fEq (gCall0 (F_law_draw ad) (gaC (gV 0) (gaC (gC (.int 3)) gaN))) (gC (.int 0))))) (gLst (gaC (gLst (gaC (gTup (gaC (gC (.str "lock")) (gaC (gOp fSub (gV 2) (gC (.int 1))) gaN))) gaN)) (gaC (gLst (gaC (gTup (gaC (gC (.str "free")) (gaC (gC (.int 0)) gaN))) gaN)) gaN))) (gLst gaN))))
      (gsRet (gCall0 (F_law_pick ad) (gaC (gV 0) (gaC (gV 11) gaN)))))) gsN)
      (gsC (gsIf (qB (gOp fEq (gV 7) (gC (.int 3)))) (gsRet (gLst (gaC (gTup (gaC (gC (.str "load")) (gaC (gC (.int 0)) gaN))) (gaC (gTup (gaC (gC (.str "dup")) gaN)) (gaC (gTup (gaC (gV 8) gaN)) (gaC (gTup (gaC (gC (.str "store")) (gaC (gC (.int 0)) gaN))) gaN)))))) gsN)
      (gsRet (gLst (gaC (gTup (gaC (gC (.str "load")) (gaC (gC (.int 0)) gaN))) (gaC (gTup (gaC (gC (.str "int")) (gaC (gV 7) gaN))) (gaC (gTup (gaC (gC (.str "add")) gaN)) (gaC (gTup (gaC (gC (.str "store")) (gaC (gC (.int 0)) gaN))) gaN)))))))))))))))))))))))
def R_law_snippet (ad : Ad) : GF := defG0 ["draws", "cells", "locks", "deep", "kind", "one", "two", "number", "work", "mask", "lock", "rare"] (B_law_snippet ad)
theorem okR_law_snippet (T : Txt K mg ad) (U : Funs K ad) : Fc P w K mg base CX0 3 ad.law_snippet ["draws", "cells", "locks", "deep"] (spG K 4 (R_law_snippet ad)) := by
  have G_law_pick := ok_law_pick (P := P) (w := w) (base := base) T U
  have G_law_draw := ok_law_draw (P := P) (w := w) (base := base) T U
  exact Fc.okG U.F_law_snippet sc_law_snippet fun cdv A outer s f H E hr =>
      (sd_cons (sd_set (i := 4) sc_law_snippet.nd rfl (Or.inl rfl) (pd_call0 G_law_draw (hr.mono (by decide)) rfl T.g_law_draw T.k_law_draw (pd_cons (pd_v 0) (pd_cons pd_int pd_nil))))
      (sd_cons (sd_par (i := 5) (j := 6) (by rfl) sc_law_snippet.nd rfl rfl (by decide) rfl rfl (pd_cons (pd_call0 G_law_draw (hr.mono (by decide)) rfl T.g_law_draw T.k_law_draw (pd_cons (pd_v 0) (pd_cons (pd_v 1) pd_nil))) (pd_cons (pd_call0 G_law_draw (hr.mono (by decide)) rfl T.g_law_draw T.k_law_draw (pd_cons (pd_v 0) (pd_cons (pd_v 1) pd_nil))) pd_nil)) (by rfl))
      (sd_cons (sd_set (i := 7) sc_law_snippet.nd rfl (Or.inl rfl) (pd_call0 G_law_pick (hr.mono (by decide)) rfl T.g_law_pick T.k_law_pick (pd_cons (pd_v 0) (pd_cons (pd_lst (pd_cons pd_int (pd_cons pd_int (pd_cons pd_int (pd_cons (pd_neg pd_int) (pd_cons pd_int (pd_cons pd_int pd_nil))))))) pd_nil))))
      (sd_cons (sd_set (i := 8) sc_law_snippet.nd rfl (Or.inl rfl) (pd_call0 G_law_pick (hr.mono (by decide)) rfl T.g_law_pick T.k_law_pick (pd_cons (pd_v 0) (pd_cons (pd_lst (pd_cons pd_str (pd_cons pd_str (pd_cons pd_str (pd_cons pd_str (pd_cons pd_str (pd_cons pd_str pd_nil))))))) pd_nil))))
      (sd_cons (sd_set (i := 9) sc_law_snippet.nd rfl (Or.inl rfl) (pd_ix (pd_lst (pd_cons pd_int (pd_cons pd_int (pd_cons pd_int (pd_cons pd_int (pd_cons pd_int (pd_cons pd_int (pd_cons pd_int (pd_cons pd_int (pd_cons pd_int pd_nil)))))))))) (pd_b (call_min2 rfl) dat_min2 (by rfl) T.b_min (by decide +kernel) (pd_cons (pd_v 1) (pd_cons pd_int pd_nil)))))
      (sd_cons (sd_if (qd_cmp op_ltD dat_lt (pd_v 4) pd_int (nomark _)) (sd_one (sd_ret (pd_lst (pd_cons (pd_tup (pd_cons pd_str (pd_cons (pd_v 5) pd_nil))) (pd_cons (pd_tup (pd_cons pd_str (pd_cons (pd_v 7) pd_nil))) (pd_cons (pd_tup (pd_cons (pd_v 8) pd_nil)) (pd_cons (pd_tup (pd_cons pd_str (pd_cons (pd_v 5) pd_nil))) pd_nil))))))) sd_nil)
      (sd_cons (sd_if (PW.pt (qd_and (qd_cmp op_ltD dat_lt (pd_v 4) pd_int (nomark _)) (qd_and1 (qd_cmp op_gtD dat_gt (pd_v 2) pd_int (nomark _))))) (sd_cons (sd_set (i := 10) sc_law_snippet.nd rfl (Or.inl rfl) (pd_call0 G_law_draw (hr.mono (by decide)) rfl T.g_law_draw T.k_law_draw (pd_cons (pd_v 0) (pd_cons (pd_v 2) pd_nil))))
      (sd_one (sd_ret (pd_lst (pd_cons (pd_tup (pd_cons pd_str (pd_cons (pd_v 10) pd_nil))) (pd_cons (pd_tup (pd_cons pd_str (pd_cons (pd_v 5) pd_nil))) (pd_cons (pd_tup (pd_cons pd_str (pd_cons pd_int pd_nil))) (pd_cons (pd_tup (pd_cons (pd_v 8) pd_nil)) (pd_cons (pd_tup (pd_cons pd_str (pd_cons (pd_v 6) pd_nil))) (pd_cons (pd_tup (pd_cons pd_str (pd_cons (pd_v 10) pd_nil))) pd_nil)))))))))) sd_nil)
      (sd_cons (sd_if (qd_cmp (op_eqA hr.units) dat_eq (pd_v 4) pd_int (nomark _)) (sd_one (sd_ret (pd_lst (pd_cons (pd_tup (pd_cons pd_str (pd_cons pd_int pd_nil))) (pd_cons (pd_tup (pd_cons pd_str pd_nil)) pd_nil))))) sd_nil)
      (sd_cons (sd_if (qd_cmp (op_eqA hr.units) dat_eq (pd_v 4) pd_int (nomark _)) (sd_one (sd_ret (pd_lst (pd_cons (pd_tup (pd_cons pd_str (pd_cons (pd_v 5) pd_nil))) (pd_cons (pd_tup (pd_cons pd_str pd_nil)) pd_nil))))) sd_nil)
      (sd_cons (sd_if (qd_cmp (op_eqA hr.units) dat_eq (pd_v 4) pd_int (nomark _)) (sd_one (sd_ret (pd_lst (pd_cons (pd_tup (pd_cons pd_str pd_nil)) (pd_cons (pd_tup (pd_cons pd_str (pd_cons (pd_v 5) pd_nil))) pd_nil))))) sd_nil)
      (sd_cons (sd_if (qd_cmp (op_eqA hr.units) dat_eq (pd_v 4) pd_int (nomark _)) (sd_one (sd_ret (pd_lst (pd_cons (pd_tup (pd_cons pd_str (pd_cons pd_int pd_nil))) (pd_cons (pd_tup (pd_cons pd_str (pd_cons (pd_v 5) pd_nil))) (pd_cons (pd_tup (pd_cons pd_str (pd_cons pd_int pd_nil))) pd_nil)))))) sd_nil)
      (sd_cons (sd_if (qd_cmp (op_eqA hr.units) dat_eq (pd_v 4) pd_int (nomark _)) (sd_one (sd_ret (pd_lst (pd_cons (pd_tup (pd_cons pd_str (pd_cons pd_int pd_nil))) (pd_cons (pd_tup (pd_cons pd_str (pd_cons (pd_v 9) pd_nil))) (pd_cons (pd_tup (pd_cons pd_str pd_nil)) (pd_cons (pd_tup (pd_cons pd_str pd_nil)) (pd_cons (pd_tup (pd_cons pd_str (pd_cons (pd_v 5) pd_nil))) pd_nil)))))))) sd_nil)
      (sd_cons (sd_if (qd_cmp (op_eqA hr.units) dat_eq (pd_v 4) pd_int (nomark _)) (sd_one (sd_ret (pd_lst (pd_cons (pd_tup (pd_cons pd_str (pd_cons pd_int pd_nil))) (pd_cons (pd_tup (pd_cons pd_str (pd_cons (pd_v 9) pd_nil))) (pd_cons (pd_tup (pd_cons pd_str pd_nil)) (pd_cons (pd_tup (pd_cons pd_str (pd_cons (pd_v 5) pd_nil))) (pd_cons (pd_tup (pd_cons pd_str pd_nil)) pd_nil)))))))) sd_nil)
      (sd_cons (sd_if (qd_cmp (op_eqA hr.units) dat_eq (pd_v 4) pd_int (nomark _)) (sd_one (sd_ret (pd_lst (pd_cons (pd_tup (pd_cons pd_str (pd_cons (pd_v 5) pd_nil))) (pd_cons (pd_tup (pd_cons pd_str (pd_cons (pd_v 6) pd_nil))) (pd_cons (pd_tup (pd_cons (pd_v 8) pd_nil)) (pd_cons (pd_tup (pd_cons pd_str (pd_cons pd_int pd_nil))) pd_nil))))))) sd_nil)
      (sd_cons (sd_if (qd_cmp (op_eqA hr.units) dat_eq (pd_v 4) pd_int (nomark _)) (sd_one (sd_ret (pd_lst (pd_cons (pd_tup (pd_cons pd_str (pd_cons pd_int pd_nil))) (pd_cons (pd_tup (pd_cons pd_str (pd_cons pd_str pd_nil))) (pd_cons (pd_tup (pd_cons pd_str (pd_cons pd_int pd_nil))) pd_nil)))))) sd_nil)
      (sd_cons (sd_if (PW.pt (qd_and (qd_cmp (op_eqA hr.units) dat_eq (pd_v 4) pd_int (nomark _)) (qd_and1 (qd_cmp op_gtD dat_gt (pd_v 3) pd_int (nomark _))))) (sd_cons (sd_set (i := 11) sc_law_snippet.nd rfl (Or.inl rfl) (pd_lst (pd_cons (pd_lst (pd_cons (pd_tup (pd_cons pd_str (pd_cons pd_int pd_nil))) (pd_cons (pd_tup (pd_cons pd_str (pd_cons (pd_v 5) pd_nil))) (pd_cons (pd_tup (pd_cons pd_str pd_nil)) (pd_cons (pd_tup (pd_cons pd_str (pd_cons pd_int pd_nil))) pd_nil))))) (pd_cons (pd_lst (pd_cons (pd_tup (pd_cons pd_str (pd_cons pd_int pd_nil))) (pd_cons (pd_tup (pd_cons pd_str pd_nil)) (pd_cons (pd_tup (pd_cons pd_str pd_nil)) pd_nil)))) pd_nil))))
      (sd_cons (sd_set (i := 11) sc_law_snippet.nd rfl (Or.inl rfl) (pd_op op_addD dat_add (pd_v 11) (pd_if (PW.pt (qd_and (qd_cmp op_gtD dat_gt (pd_v 2) pd_int (nomark _)) (qd_and1 (qd_cmp (op_eqA hr.units) dat_eq (pd_call0 G_law_draw (hr.mono (by decide)) rfl T.g_law_draw T.k_law_draw (pd_cons (pd_v 0) (pd_cons pd_int pd_nil))) pd_int (nomark _))))) (pd_lst (pd_cons (pd_lst (pd_cons (pd_tup (pd_cons pd_str (pd_cons (pd_op op_sub dat_sub (pd_v 2) pd_int) pd_nil))) pd_nil)) (pd_cons (pd_lst (pd_cons (pd_tup (pd_cons pd_str (pd_cons pd_int pd_nil))) pd_nil)) pd_nil))) (pd_lst pd_nil))))
      (sd_one (sd_ret (pd_call0 G_law_pick (hr.mono (by decide)) rfl T.g_law_pick T.k_law_pick (pd_cons (pd_v 0) (pd_cons (pd_v 11) pd_nil))))))) sd_nil)
      (sd_cons (sd_if (qd_cmp (op_eqA hr.units) dat_eq (pd_v 7) pd_int (nomark _)) (sd_one (sd_ret (pd_lst (pd_cons (pd_tup (pd_cons pd_str (pd_cons pd_int pd_nil))) (pd_cons (pd_tup (pd_cons pd_str pd_nil)) (pd_cons (pd_tup (pd_cons (pd_v 8) pd_nil)) (pd_cons (pd_tup (pd_cons pd_str (pd_cons pd_int pd_nil))) pd_nil))))))) sd_nil)
      (sd_one (sd_ret (pd_lst (pd_cons (pd_tup (pd_cons pd_str (pd_cons pd_int pd_nil))) (pd_cons (pd_tup (pd_cons pd_str (pd_cons (pd_v 7) pd_nil))) (pd_cons (pd_tup (pd_cons pd_str pd_nil)) (pd_cons (pd_tup (pd_cons pd_str (pd_cons pd_int pd_nil))) pd_nil))))))))))))))))))))))))

end
/-! ### what the snippets are -/
structure BOk (c l : Int) (B : Bnd) : Prop where
  (cells : (B.cells : Int) = c) (locks : B.locks = l) (own : 1 ≤ B.own) (tw : memD B.names (.str "twice") = true)
structure OpB (Pb : Bnd → Prop) (d : PyData) : Prop where
  (sh : Sh d) (fit : fitD d = true) (dep : depD d ≤ 1) (hd : ∃ w r, d = .tuple (.str w :: r)) (ok : ∀ B, Pb B → instrD B d = true)
theorem OpB.mono {P Q : Bnd → Prop} {d : PyData} (a : OpB P d) (h : ∀ B, Q B → P B) : OpB Q d := ⟨a.sh, a.fit, a.dep, a.hd, fun B q => a.ok B (h B q)⟩
def Ops (Pb : Bnd → Prop) : List PyData → Prop
  | [] => True
  | d :: r => OpB Pb d ∧ Ops Pb r
theorem Ops.app {Pb : Bnd → Prop} : ∀ {a b : List PyData}, Ops Pb a → Ops Pb b → Ops Pb (a ++ b)
  | [], _, _, h => h
  | _ :: _, _, h, k => ⟨h.1, Ops.app h.2 k⟩
theorem Ops.mono {P Q : Bnd → Prop} (h : ∀ B, Q B → P B) : ∀ {a : List PyData}, Ops P a → Ops Q a
  | [], _ => trivial
  | _ :: _, x => ⟨x.1.mono h, Ops.mono h x.2⟩
theorem Ops.get {Pb : Bnd → Prop} : ∀ {a : List PyData}, Ops Pb a → ∀ d ∈ a, OpB Pb d
  | [], _, _, h => absurd h (List.not_mem_nil)
  | _ :: _, x, d, h => by
    rcases List.mem_cons.mp h with rfl | h
    · exact x.1
    · exact Ops.get x.2 d h
section
variable {Pb : Bnd → Prop} {w : Str} {n : Int}
theorem op_alone (h : inV (.str w) aloneV = true) (hl : w.length ≤ 100000) : OpB Pb (.tuple [.str w]) := ⟨⟨hl, trivial⟩, rfl, Nat.le_refl _, ⟨w, [], rfl⟩, fun B _ => by
  show (if inV (.str w) aloneV = true then _ else _) = true
  rw [if_pos h]; rfl⟩
theorem op_arg (x : PyData) (h : inV (.str w) aloneV = false) (hi : ¬ w = "if") (hl : w.length ≤ 100000) (hs : Sh x) (hf : fitD x = true) (hd : depD x = 0) (ha : ∀ B, Pb B → argD B w x = true) : OpB Pb (.tuple [.str w, x]) :=
  ⟨⟨hl, hs, trivial⟩, by show (decide (2 ≤ 1000000) && (fitD (.str w) && (fitD x && true))) = true; rw [hf]; rfl, by show max 0 (max (depD x) 0) + 1 ≤ 1; rw [hd]; decide, ⟨w, [x], rfl⟩, fun B hB => by
  show (if inV (.str w) aloneV = true then _ else _) = true
  rw [if_neg (by rw [h]; exact Bool.noConfusion), if_neg hi]
  exact ha B hB⟩
theorem op_int (h : -2147483648 ≤ n ∧ n < 2147483648) : OpB Pb (.tuple [.str "int", .int n]) := op_arg (.int n) rfl (by decide) (by decide) trivial rfl rfl fun B _ => by
  show (decide (-2147483648 ≤ n) && decide (n < 2147483648)) = true
  rw [decide_eq_true h.1, decide_eq_true h.2]; rfl
theorem in_ok' {lo hi n : Int} (a : lo ≤ n) (b : n < hi) : inD lo hi (.int n) = true := by
  show (decide (lo ≤ n) && decide (n < hi)) = true
  rw [decide_eq_true a, decide_eq_true b]; rfl
theorem op_cell (hw : w = "get" ∨ w = "put" ∨ w = "trade") {c l : Int} (h0 : 0 ≤ n) (h1 : n < c) : OpB (BOk c l) (.tuple [.str w, .int n]) := by
  rcases hw with rfl | rfl | rfl <;> exact op_arg (.int n) rfl (by decide) (by decide) trivial rfl rfl fun B hB => (show inD 0 B.cells (.int n) = true from in_ok' h0 (by rw [hB.cells]; exact h1))
theorem op_lock (hw : w = "lock" ∨ w = "free") {c l : Int} (h0 : 0 ≤ n) (h1 : n < l) : OpB (BOk c l) (.tuple [.str w, .int n]) := by
  rcases hw with rfl | rfl <;> exact op_arg (.int n) rfl (by decide) (by decide) trivial rfl rfl fun B hB => (show inD 0 B.locks (.int n) = true from in_ok' h0 (by rw [hB.locks]; exact h1))
theorem op_own (hw : w = "load" ∨ w = "store") (h0 : 0 ≤ n) (h1 : ∀ B, Pb B → n < B.own) : OpB Pb (.tuple [.str w, .int n]) := by
  rcases hw with rfl | rfl <;> exact op_arg (.int n) rfl (by decide) (by decide) trivial rfl rfl fun B hB => (show inD 0 B.own (.int n) = true from in_ok' h0 (h1 B hB))
theorem op_own0 (hw : w = "load" ∨ w = "store") {c l : Int} : OpB (BOk c l) (.tuple [.str w, .int 0]) := op_own hw (Int.le_refl _) fun B hB => by have := hB.own; omega
theorem op_twice {c l : Int} : OpB (BOk c l) (.tuple [.str "call", .str "twice"]) := op_arg (.str "twice") rfl (by decide) (by decide) (show (5 : Nat) ≤ 100000 by decide) rfl rfl fun B hB => (show (true && (nameD (.str "twice") && memD B.names (.str "twice"))) = true by rw [hB.tw]; decide +kernel)
end
theorem itdd {c d : Prop} [Decidable c] [Decidable d] {A B : Prop} (h1 : c → d → A) (h2 : B) : if decide c = true then (if decide d = true then A else B) else (if false = true then A else B) := by
  by_cases hc : c
  · rw [if_pos (decide_eq_true hc)]
    by_cases hd : d
    · rw [if_pos (decide_eq_true hd)]; exact h1 hc hd
    · rw [if_neg (by rw [decide_eq_false hd]; decide)]; exact h2
  · rw [if_neg (by rw [decide_eq_false hc]; decide)]; exact iteF h2
def SnipOk (c l : Int) (ds : List PyData) : Prop := ds.length ≤ 6 ∧ Ops (BOk c l) ds
def F_law_snippet (_ : Ad) : GF := fun h ms nx _ => ∃ (p : Addr) (c l deep : Int), ms = [.p p, .i (.int c), .i (.int l), .i (.int deep)] ∧ DrG h p ∧ (1 ≤ c ∧ c ≤ 16) ∧ (0 ≤ l ∧ l ≤ 6) ∧ ∀ ds h', SnipOk c l ds → DrG h' p → DrS p h h' → nx h' (.i (.list ds))
theorem snip_imp {ad : Ad} : ∀ h ms nx ex, ms.length = 4 → F_law_snippet ad h ms nx ex → R_law_snippet ad h ms nx ex := by
  rintro h ms nx ex - ⟨p, c, l, deep, rfl, hD, ⟨c1, c16⟩, ⟨l0, l6⟩, k⟩
  refine ⟨p, 17, rfl, hD, ⟨by decide, by decide⟩, fun kind h1 k0 k1 D1 S1 => ?_⟩
  refine ⟨p, c, rfl, D1, ⟨by omega, by omega⟩, fun one h2 o0 o1 D2 S2 => ?_⟩
  refine ⟨p, c, rfl, D2, ⟨by omega, by omega⟩, fun two h3 t0 t1 D3 S3 => ?_⟩
  refine ⟨p, _, _, rfl, rfl, D3, ⟨by decide, by decide⟩, fun number h4 hn D4 S4 => ?_⟩
  obtain ⟨nb, rfl, nw⟩ : ∃ nb : Int, number = .int nb ∧ (-2147483648 ≤ nb ∧ nb < 2147483648) := by
    simp at hn
    rcases hn with rfl | rfl | rfl | rfl | rfl | rfl <;> exact ⟨_, rfl, by decide, by decide⟩
  refine ⟨p, _, _, rfl, rfl, D4, ⟨by decide, by decide⟩, fun work h5 hw D5 S5 => ?_⟩
  obtain ⟨wk, rfl, wa, wl⟩ : ∃ wk : Str, work = .str wk ∧ inV (.str wk) aloneV = true ∧ wk.length ≤ 100000 := by
    simp at hw
    rcases hw with rfl | rfl | rfl | rfl | rfl | rfl <;> exact ⟨_, rfl, rfl, by decide⟩
  have S : DrS p h h5 := (((S1.trans S2).trans S3).trans S4).trans S5
  obtain ⟨mask, em, mw⟩ : ∃ mk : Int, atI [PyData.int 0, .int 0, .int 1, .int 1, .int 3, .int 3, .int 3, .int 3, .int 7] (if 8 < c then 8 else c) = some (.int mk) ∧ (-2147483648 ≤ mk ∧ mk < 2147483648) := by
    have : c = 1 ∨ c = 2 ∨ c = 3 ∨ c = 4 ∨ c = 5 ∨ c = 6 ∨ c = 7 ∨ c = 8 ∨ 8 < c := by omega
    rcases this with rfl | rfl | rfl | rfl | rfl | rfl | rfl | rfl | z
    case _ => exact ⟨_, rfl, by decide, by decide⟩
    case _ => exact ⟨_, rfl, by decide, by decide⟩
    case _ => exact ⟨_, rfl, by decide, by decide⟩
    case _ => exact ⟨_, rfl, by decide, by decide⟩
    case _ => exact ⟨_, rfl, by decide, by decide⟩
    case _ => exact ⟨_, rfl, by decide, by decide⟩
    case _ => exact ⟨_, rfl, by decide, by decide⟩
    case _ => exact ⟨_, rfl, by decide, by decide⟩
    case _ => rw [if_pos z]; exact ⟨_, rfl, by decide, by decide⟩
  refine opt_of em ?_
  have fin : ∀ ds, SnipOk c l ds → nx h5 (.i (.list ds)) := fun ds q => k ds h5 q D5 S
  have ge1 : OpB (BOk c l) (.tuple [.str "get", .int one]) := op_cell (.inl rfl) o0 o1
  have pu1 : OpB (BOk c l) (.tuple [.str "put", .int one]) := op_cell (.inr (.inl rfl)) o0 o1
  have tr1 : OpB (BOk c l) (.tuple [.str "trade", .int one]) := op_cell (.inr (.inr rfl)) o0 o1
  have ge2 : OpB (BOk c l) (.tuple [.str "get", .int two]) := op_cell (.inl rfl) t0 t1
  have pu2 : OpB (BOk c l) (.tuple [.str "put", .int two]) := op_cell (.inr (.inl rfl)) t0 t1
  have ld : OpB (BOk c l) (.tuple [.str "load", .int 0]) := op_own0 (.inl rfl)
  have sto : OpB (BOk c l) (.tuple [.str "store", .int 0]) := op_own0 (.inr rfl)
  have wrk : OpB (BOk c l) (.tuple [.str wk]) := op_alone wa wl
  have num : OpB (BOk c l) (.tuple [.str "int", .int nb]) := op_int nw
  have msk : OpB (BOk c l) (.tuple [.str "int", .int mask]) := op_int mw
  have tell : OpB (BOk c l) (.tuple [.str "tell"]) := op_alone rfl (by decide)
  have ask : OpB (BOk c l) (.tuple [.str "ask"]) := op_alone rfl (by decide)
  have ande : OpB (BOk c l) (.tuple [.str "and"]) := op_alone rfl (by decide)
  have fet : OpB (BOk c l) (.tuple [.str "fetch"]) := op_alone rfl (by decide)
  have sett : OpB (BOk c l) (.tuple [.str "set"]) := op_alone rfl (by decide)
  have dupp : OpB (BOk c l) (.tuple [.str "dup"]) := op_alone rfl (by decide)
  have dro : OpB (BOk c l) (.tuple [.str "drop"]) := op_alone rfl (by decide)
  have divi : OpB (BOk c l) (.tuple [.str "div"]) := op_alone rfl (by decide)
  have addd : OpB (BOk c l) (.tuple [.str "add"]) := op_alone rfl (by decide)
  have L : ∀ {ds : List PyData}, Nat.ble ds.length 6 = true → Ops (BOk c l) ds → SnipOk c l ds := fun e o => ⟨Nat.le_of_ble_eq_true e, o⟩
  refine itd (fun _ => fin [_, _, _, _] (L rfl ⟨ge1, num, wrk, pu1, trivial⟩)) (fun _ => ?_)
  refine itdd (fun _ lp => ?_) ?_
  · refine ⟨p, l, rfl, D5, ⟨lp, by omega⟩, fun lock h6 lk0 lk1 D6 S6 => ?_⟩
    have lk : OpB (BOk c l) (.tuple [.str "lock", .int lock]) := op_lock (.inl rfl) lk0 lk1
    have fr : OpB (BOk c l) (.tuple [.str "free", .int lock]) := op_lock (.inr rfl) lk0 lk1
    exact k [_, _, _, _, _, _] h6 (L rfl ⟨lk, ge1, ld, wrk, pu2, fr, trivial⟩) D6 (S.trans S6)
  refine itd (fun _ => fin [_, _] (L rfl ⟨ld, tell, trivial⟩)) (fun _ => ?_)
  refine itd (fun _ => fin [_, _] (L rfl ⟨ge1, tell, trivial⟩)) (fun _ => ?_)
  refine itd (fun _ => fin [_, _] (L rfl ⟨ask, pu1, trivial⟩)) (fun _ => ?_)
  refine itd (fun _ => fin [_, _, _] (L rfl ⟨ld, tr1, sto, trivial⟩)) (fun _ => ?_)
  refine itd (fun _ => fin [_, _, _, _, _] (L rfl ⟨ld, msk, ande, fet, pu1, trivial⟩)) (fun _ => ?_)
  refine itd (fun _ => fin [_, _, _, _, _] (L rfl ⟨ld, msk, ande, ge1, sett, trivial⟩)) (fun _ => ?_)
  refine itd (fun _ => fin [_, _, _, _] (L rfl ⟨ge1, ge2, wrk, sto, trivial⟩)) (fun _ => ?_)
  refine itd (fun _ => fin [_, _, _] (L rfl ⟨ld, op_twice, sto, trivial⟩)) (fun _ => ?_)
  refine itdd (fun _ _ => ?_) ?_
  · have i7 : OpB (BOk c l) (.tuple [.str "int", .int 7]) := op_int ⟨by decide, by decide⟩
    have s1 : SnipOk c l [.tuple [.str "int", .int 7], .tuple [.str "get", .int one], .tuple [.str "div"], .tuple [.str "store", .int 0]] := L rfl ⟨i7, ge1, divi, sto, trivial⟩
    have s2 : SnipOk c l [.tuple [.str "load", .int 0], .tuple [.str "fetch"], .tuple [.str "drop"]] := L rfl ⟨ld, fet, dro, trivial⟩
    have two' : ∀ h6, DrG h6 p → DrS p h h6 → ∀ (nx' : MH → MV → Prop), (∀ d h7, (d = .list [.tuple [.str "int", .int 7], .tuple [.str "get", .int one], .tuple [.str "div"], .tuple [.str "store", .int 0]] ∨ d = .list [.tuple [.str "load", .int 0], .tuple [.str "fetch"], .tuple [.str "drop"]]) → DrG h7 p → DrS p h h7 → nx' h7 (.i d)) →
        F_law_pick ad h6 [.p p, .i (.list [.list [.tuple [.str "int", .int 7], .tuple [.str "get", .int one], .tuple [.str "div"], .tuple [.str "store", .int 0]], .list [.tuple [.str "load", .int 0], .tuple [.str "fetch"], .tuple [.str "drop"]]])] nx' XF := fun h6 D6 S6 nx' q =>
      ⟨p, _, _, rfl, rfl, D6, ⟨Nat.le_of_ble_eq_true rfl, Nat.le_of_ble_eq_true rfl⟩, fun d h7 hd D7 S7 => q d h7 (by simpa using hd) D7 (S6.trans S7)⟩
    have end2 : ∀ d h7, (d = .list [.tuple [.str "int", .int 7], .tuple [.str "get", .int one], .tuple [.str "div"], .tuple [.str "store", .int 0]] ∨ d = .list [.tuple [.str "load", .int 0], .tuple [.str "fetch"], .tuple [.str "drop"]]) → DrG h7 p → DrS p h h7 → nx h7 (.i d) := fun d h7 hd D7 S7 => by
      rcases hd with rfl | rfl
      · exact k _ h7 s1 D7 S7
      · exact k _ h7 s2 D7 S7
    refine itd (fun lp => ?_) (fun _ => ?_)
    · refine ⟨p, 3, rfl, D5, ⟨by decide, by decide⟩, fun n h6 _ _ D6 S6 => ?_⟩
      refine itd (fun _ => ?_) (fun _ => ?_)
      · simp
        refine ⟨p, _, _, rfl, rfl, D6, ⟨Nat.le_of_ble_eq_true rfl, Nat.le_of_ble_eq_true rfl⟩, fun d h7 hd D7 S7 => ?_⟩
        have hd : d = .list [.tuple [.str "int", .int 7], .tuple [.str "get", .int one], .tuple [.str "div"], .tuple [.str "store", .int 0]] ∨ d = .list [.tuple [.str "load", .int 0], .tuple [.str "fetch"], .tuple [.str "drop"]] ∨ d = .list [.tuple [.str "lock", .int (l - 1)]] ∨ d = .list [.tuple [.str "free", .int 0]] := by simpa using hd
        rcases hd with rfl | rfl | rfl | rfl
        · exact k _ h7 s1 D7 (S.trans (S6.trans S7))
        · exact k _ h7 s2 D7 (S.trans (S6.trans S7))
        · exact k _ h7 (L rfl ⟨op_lock (.inl rfl) (by omega) (by omega), trivial⟩) D7 (S.trans (S6.trans S7))
        · exact k _ h7 (L rfl ⟨op_lock (.inr rfl) (by omega) (by omega), trivial⟩) D7 (S.trans (S6.trans S7))
      · simp
        exact two' h6 D6 (S.trans S6) _ end2
    · simp
      exact two' h5 D5 S _ end2
  refine itd (fun _ => fin [_, _, _, _] (L rfl ⟨ld, dupp, wrk, sto, trivial⟩)) (fun _ => ?_)
  exact fin [_, _, _, _] (L rfl ⟨ld, num, addd, sto, trivial⟩)
section
variable {P : Program} {w : World} {K : PySem.W.Frag} {mg : Str → Option Value} {base : Heap} {ad : Ad}
theorem ok_law_snippet (T : Txt K mg ad) (U : Funs K ad) : Fc P w K mg base CX0 3 ad.law_snippet ["draws", "cells", "locks", "deep"] (spG K 4 (F_law_snippet ad)) := (okR_law_snippet T U).impG snip_imp
end
end My

set_option Elab.async false
set_option linter.all false
set_option maxRecDepth 100000
set_option maxHeartbeats 4000000
namespace My
open PySem L2
section
variable {P : Program} {w : World} {K : PySem.W.Frag} {mg : Str → Option Value} {base : Heap} {ad : Ad}
-- _law_goer slots: 0 draws, 1 cells, 2 locks, 3 rows, 4 k; level 4
theorem sc_law_goer : FnScope ["draws", "cells", "locks", "rows", "k"] ["draws", "cells", "locks"] (defScope s_law_goer) := ⟨rfl, rfl, rfl, by decide +kernel, rfl, by decide +kernel, by decide +kernel⟩
def B_law_goer (ad : Ad) : GS :=
      (gsC (gsSet 3 (gNew (gaC (gTup (gaC (gC (.str "int")) (gaC (gOp fAdd (gC (.int 1)) (gCall0 (F_law_draw ad) (gaC (gV 0) (gaC (gC (.int 3)) gaN)))) gaN))) (gaC (gTup (gaC (gC (.str "store")) (gaC (gC (.int 1)) gaN))) (gaC (gTup (gaC (gC (.str "load")) (gaC (gC (.int 1)) gaN))) (gaC (gTup (gaC (gC (.str "int")) (gaC (gC (.int 0)) gaN))) (gaC (gTup (gaC (gC (.str "if")) (gaC (gC (.str "le")) (gaC (gC (.int 0)) gaN)))) gaN)))))))
      (gsC (gsFor (giRg1 (gOp fAdd (gC (.int 1)) (gCall0 (F_law_draw ad) (gaC (gV 0) (gaC (gC (.int 3)) gaN))))) (bName 4)
      (gsSet 3 (gCatN (gV 3) (gCall0 (F_law_snippet ad) (gaC (gV 0) (gaC (gV 1) (gaC (gV 2) (gaC (gC (.int 1)) gaN))))))))
      (gsC (gsSet 3 (gCatN (gV 3) (gLst (gaC (gTup (gaC (gC (.str "load")) (gaC (gC (.int 1)) gaN))) (gaC (gTup (gaC (gC (.str "int")) (gaC (gC (.int 1)) gaN))) (gaC (gTup (gaC (gC (.str "sub")) gaN)) (gaC (gTup (gaC (gC (.str "store")) (gaC (gC (.int 1)) gaN))) (gaC (gTup (gaC (gC (.str "goto")) (gaC (gC (.int 2)) gaN))) gaN))))))))
      (gsC (gsPutL (gV 3) (gC (.int 4)) (gTup (gaC (gC (.str "if")) (gaC (gC (.str "le")) (gaC (gLen (gV 3)) gaN)))))
      (gsRet (gTup (gaC (gC (.str "work")) (gaC (gC (.int 1)) (gaC (gC (.int 1)) (gaC (gB fTuple (gaC (gOp fAdd (gV 3) (gLst (gaC (gTup (gaC (gC (.str "load")) (gaC (gC (.int 0)) gaN))) (gaC (gTup (gaC (gC (.str "give")) gaN)) gaN)))) gaN)) gaN))))))))))
def R_law_goer (ad : Ad) : GF := defG0 ["draws", "cells", "locks", "rows", "k"] (B_law_goer ad)
theorem okR_law_goer (T : Txt K mg ad) (U : Funs K ad) : Fc P w K mg base CX0 4 ad.law_goer ["draws", "cells", "locks"] (spG K 3 (R_law_goer ad)) := by
  have G_law_draw := ok_law_draw (P := P) (w := w) (base := base) T U
  have G_law_snippet := ok_law_snippet (P := P) (w := w) (base := base) T U
  exact Fc.okG U.F_law_goer sc_law_goer fun cdv A outer s f H E hr =>
      (sd_cons (sd_set (i := 3) sc_law_goer.nd rfl (Or.inl rfl) (pd_new (pd_cons (pd_tup (pd_cons pd_str (pd_cons (pd_op op_addD dat_add pd_int (pd_call0 G_law_draw (hr.mono (by decide)) rfl T.g_law_draw T.k_law_draw (pd_cons (pd_v 0) (pd_cons pd_int pd_nil)))) pd_nil))) (pd_cons (pd_tup (pd_cons pd_str (pd_cons pd_int pd_nil))) (pd_cons (pd_tup (pd_cons pd_str (pd_cons pd_int pd_nil))) (pd_cons (pd_tup (pd_cons pd_str (pd_cons pd_int pd_nil))) (pd_cons (pd_tup (pd_cons pd_str (pd_cons pd_str (pd_cons pd_int pd_nil)))) pd_nil)))))))
      (sd_cons (sd_for PassesOwn.never rfl (gi_rg1 rfl T.b_range (pd_op op_addD dat_add pd_int (pd_call0 G_law_draw (hr.mono (by decide)) rfl T.g_law_draw T.k_law_draw (pd_cons (pd_v 0) (pd_cons pd_int pd_nil))))) (pg_name (i := 4) sc_law_goer.nd rfl (Or.inl rfl)) (tg_name (vs := [4]))
      (sd_one (sd_set (i := 3) sc_law_goer.nd rfl (Or.inl rfl) (pd_catN (pd_v 3) (pd_call0 G_law_snippet (hr.mono (by decide)) rfl T.g_law_snippet T.k_law_snippet (pd_cons (pd_v 0) (pd_cons (pd_v 1) (pd_cons (pd_v 2) (pd_cons pd_int pd_nil)))))))))
      (sd_cons (sd_set (i := 3) sc_law_goer.nd rfl (Or.inl rfl) (pd_catN (pd_v 3) (pd_lst (pd_cons (pd_tup (pd_cons pd_str (pd_cons pd_int pd_nil))) (pd_cons (pd_tup (pd_cons pd_str (pd_cons pd_int pd_nil))) (pd_cons (pd_tup (pd_cons pd_str pd_nil)) (pd_cons (pd_tup (pd_cons pd_str (pd_cons pd_int pd_nil))) (pd_cons (pd_tup (pd_cons pd_str (pd_cons pd_int pd_nil))) pd_nil))))))))
      (sd_cons (sd_putL (pd_v 3) pd_int (pd_tup (pd_cons pd_str (pd_cons pd_str (pd_cons (pd_len (by rfl) T.b_len (by decide +kernel) (pd_v 3)) pd_nil)))))
      (sd_one (sd_ret (pd_tup (pd_cons pd_str (pd_cons pd_int (pd_cons pd_int (pd_cons (pd_ty call_tuple_of dat_tuple (by rfl) T.b_tuple (by decide +kernel) (pd_cons (pd_op op_addD dat_add (pd_v 3) (pd_lst (pd_cons (pd_tup (pd_cons pd_str (pd_cons pd_int pd_nil))) (pd_cons (pd_tup (pd_cons pd_str pd_nil)) pd_nil)))) pd_nil)) pd_nil)))))))))))

end
theorem frL_inv {b : GB} {body : GS} {kc : MH → Prop} {nx : MH → Gam → Prop} {rt : MH → MV → Prop} {ex : GX} (I : List Row → MH → Gam → Prop) (hk : ∀ its h Γ, I its h Γ → kc h) (fin : ∀ h Γ, I [] h Γ → nx h Γ)
    (step : ∀ r its h Γ (nx' : MH → Gam → Prop), I (r :: its) h Γ → (∀ h2 Γ2, I its h2 Γ2 → nx' h2 Γ2) → opt (b h Γ r) fun Γ1 => body h Γ1 nx' rt ex) : ∀ its h Γ, I its h Γ → frL b body kc nx rt ex its h Γ
  | [], h, Γ, i => ⟨hk _ _ _ i, fin _ _ i⟩
  | r :: its, h, Γ, i => ⟨hk _ _ _ i, step r its h Γ _ i fun h2 Γ2 i2 => frL_inv I hk fin step its h2 Γ2 i2⟩
theorem DrG.put {h : MH} {p a : Addr} {o : MO} (n : a ≠ p) (d : DrG h p) : DrG (mset h a o) p := by
  obtain ⟨ns, i, z, v, e, r⟩ := d
  exact ⟨ns, i, z, v, by rw [mset_ne n.symm]; exact e, r⟩
theorem DrG.ne {h : MH} {p a : Addr} (d : DrG h p) (e : h a = none) : a ≠ p := fun z => by
  obtain ⟨ns, i, z', v, e', _⟩ := d
  rw [z, e'] at e; cases e
theorem DrS.new {h : MH} {p a : Addr} {o : MO} (e : h a = none) : DrS p h (mset h a o) := fun b u _ q => by
  rw [mset_ne (fun z => by rw [z, e] at q; cases q)]; exact q
theorem allI_app {a : List PyData} {b : List MV} : allI (a.map MV.i ++ b) = (allI b).map (a ++ ·) := by
  induction a with
  | nil => show allI b = _; cases allI b <;> rfl
  | cons x a ih =>
    show (allI (a.map MV.i ++ b)).map (x :: ·) = _
    rw [ih]
    cases allI b <;> rfl
def GOk (c l : Int) (n : Nat) (B : Bnd) : Prop := BOk c l B ∧ B.own = 2 ∧ B.code = n
def F_law_goer (_ : Ad) : GF := fun h ms nx _ => ∃ (p : Addr) (c l : Int), ms = [.p p, .i (.int c), .i (.int l)] ∧ DrG h p ∧ (1 ≤ c ∧ c ≤ 16) ∧ (0 ≤ l ∧ l ≤ 6) ∧
  ∀ code h', (12 ≤ code.length ∧ code.length ≤ 40) → Ops (GOk c l code.length) code → DrG h' p → DrS p h h' → nx h' (.i (.tuple [.str "work", .int 1, .int 1, .tuple code]))
theorem goer_imp {ad : Ad} : ∀ h ms nx ex, ms.length = 3 → F_law_goer ad h ms nx ex → R_law_goer ad h ms nx ex := by
  rintro h ms nx ex - ⟨p, c, l, rfl, hD, ⟨c1, c16⟩, ⟨l0, l6⟩, k⟩
  refine ⟨p, 3, rfl, hD, ⟨by decide, by decide⟩, fun n1 h1 n0 n3 D1 S1 => ?_⟩
  intro a ha
  have nap : a ≠ p := D1.ne ha
  refine ⟨p, 3, rfl, D1.put nap, ⟨by decide, by decide⟩, fun m h2 m0 m3 D2 S2 => ?_⟩
  have e2 : h2 a = some (.lst (([.tuple [.str "int", .int (1 + n1)], .tuple [.str "store", .int 1], .tuple [.str "load", .int 1], .tuple [.str "int", .int 0], .tuple [.str "if", .str "le", .int 0]] : List PyData).map .i)) := S2 a _ nap mset_same
  have SS : DrS p h h2 := (S1.trans (DrS.new ha)).trans S2
  refine ⟨⟨by omega, by omega⟩, ?_⟩
  refine frL_inv (fun its h' Γ => ∃ a sn k, Γ = [some (.p p), some (.i (.int c)), some (.i (.int l)), some (.p a), k] ∧ a ≠ p ∧
    h' a = some (.lst ((([.tuple [.str "int", .int (1 + n1)], .tuple [.str "store", .int 1], .tuple [.str "load", .int 1], .tuple [.str "int", .int 0], .tuple [.str "if", .str "le", .int 0]] : List PyData) ++ sn).map .i)) ∧ DrG h' p ∧ DrS p h h' ∧ Ops (BOk c l) sn ∧ sn.length + 6 * its.length ≤ 18 ∧ ∀ r ∈ its, ∃ m, r = [m]) (fun _ _ _ _ => trivial) ?_ ?_ _ _ _ ?_
  · rintro h3 Γ ⟨a3, sn, k3, rfl, na, e3, D3, S3, os, hl, hr⟩
    have hl : sn.length ≤ 18 := by simpa using hl
    have ix : ixN (sn.length + 5 + 5) 4 = some 4 := by
      unfold ixN
      rw [if_pos (by decide), if_pos (by omega)]; rfl
    have hle : ∀ k, k ≤ 40 → sn.length + k ≤ 16777216 := fun k hk => by omega
    simp [e3, mset_same, allI_app, allI_map, ix, hle, Nat.add_assoc]
    intro a4 ha4
    have na4 := D3.ne ha4
    have ld1 : OpB (GOk c l (sn.length + 12)) (.tuple [.str "load", .int 1]) := op_own (.inl rfl) (by decide) fun B q => by rw [q.2.1]; decide
    have st1 : OpB (GOk c l (sn.length + 12)) (.tuple [.str "store", .int 1]) := op_own (.inr rfl) (by decide) fun B q => by rw [q.2.1]; decide
    have i1 : ∀ {n : Int}, (-2147483648 ≤ n ∧ n < 2147483648) → OpB (GOk c l (sn.length + 12)) (.tuple [.str "int", .int n]) := fun h => op_int h
    have su : OpB (GOk c l (sn.length + 12)) (.tuple [.str "sub"]) := op_alone rfl (by decide)
    have gi : OpB (GOk c l (sn.length + 12)) (.tuple [.str "give"]) := op_alone rfl (by decide)
    have gt : OpB (GOk c l (sn.length + 12)) (.tuple [.str "goto", .int 2]) := op_arg (.int 2) rfl (by decide) (by decide) trivial rfl rfl fun B q => (show inD 0 B.code (.int 2) = true from in_ok' (by decide) (by rw [q.2.2]; omega))
    have iff : OpB (GOk c l (sn.length + 12)) (.tuple [.str "if", .str "le", .int ((sn.length : Int) + 10)]) := ⟨⟨(by decide : (2 : Nat) ≤ 100000), (by decide : (2 : Nat) ≤ 100000), trivial, trivial⟩, rfl, Nat.le_refl _, ⟨_, _, rfl⟩, fun B q =>
      (show (true && (true && inD 0 B.code (.int ((sn.length : Int) + 10)))) = true by rw [in_ok' (by omega) (by rw [q.2.2]; omega)]; rfl)⟩
    have hlen : (([.tuple [.str "int", .int (1 + n1)], .tuple [.str "store", .int 1], .tuple [.str "load", .int 1], .tuple [.str "int", .int 0], .tuple [.str "if", .str "le", .int ((sn.length : Int) + 10)]] : List PyData) ++ (sn ++ ([.tuple [.str "load", .int 1], .tuple [.str "int", .int 1], .tuple [.str "sub"], .tuple [.str "store", .int 1], .tuple [.str "goto", .int 2], .tuple [.str "load", .int 0], .tuple [.str "give"]] : List PyData))).length = sn.length + 12 := by simp
    refine k (([.tuple [.str "int", .int (1 + n1)], .tuple [.str "store", .int 1], .tuple [.str "load", .int 1], .tuple [.str "int", .int 0], .tuple [.str "if", .str "le", .int ((sn.length : Int) + 10)]] : List PyData) ++ (sn ++ ([.tuple [.str "load", .int 1], .tuple [.str "int", .int 1], .tuple [.str "sub"], .tuple [.str "store", .int 1], .tuple [.str "goto", .int 2], .tuple [.str "load", .int 0], .tuple [.str "give"]] : List PyData))) _ ?_ ?_ ((D3.put na4).put na4) (by rw [mset_mset]; exact S3.trans (DrS.new ha4))
    · rw [hlen]; omega
    · rw [hlen]
      exact ⟨i1 ⟨by omega, by omega⟩, st1, ld1, i1 ⟨by decide, by decide⟩, iff, Ops.app (a := sn) (Ops.mono (P := BOk c l) (Q := GOk c l (sn.length + 12)) (fun B q => q.1) os) ⟨ld1, i1 ⟨by decide, by decide⟩, su, st1, gt, op_own (.inl rfl) (by decide) (fun B q => by rw [q.2.1]; decide), gi, trivial⟩⟩
  · rintro r its h3 Γ nx' ⟨a3, sn, k3, rfl, na, e3, D3, S3, os, hl, hr⟩ hn
    obtain ⟨m, rfl⟩ := hr r List.mem_cons_self
    have hl : sn.length + 6 * (its.length + 1) ≤ 18 := hl
    refine ⟨p, c, l, 1, rfl, D3, ⟨c1, c16⟩, ⟨l0, l6⟩, fun sd h4 ok D4 S4 => ?_⟩
    have e4 := S4 _ _ na e3
    have ol := ok.1
    have hle : sn.length + 1 + 1 + 1 + 1 + 1 + sd.length ≤ SL := by show _ ≤ 16777216; omega
    simp [e4]
    refine ⟨hle, fun a5 ha5 => hn _ _ ⟨a5, sn ++ sd, some m, rfl, D4.ne ha5, ?_, D4.put (D4.ne ha5), (S3.trans S4).trans (DrS.new ha5), Ops.app os ok.2, ?_, fun r hr' => hr r (List.mem_cons_of_mem _ hr')⟩⟩
    · rw [mset_same, List.map_append, List.map_append]; rfl
    · rw [List.length_append]; omega
  · refine ⟨a, [], none, rfl, nap, by rw [List.append_nil]; exact e2, D2, SS, trivial, ?_⟩
    rw [intsM_len]
    refine ⟨by show 0 + 6 * (1 + m).toNat ≤ 18; omega, fun r hr => ?_⟩
    obtain ⟨i, _, rfl⟩ := intsM_mem hr
    exact ⟨_, rfl⟩
section
variable {P : Program} {w : World} {K : PySem.W.Frag} {mg : Str → Option Value} {base : Heap} {ad : Ad}
theorem ok_law_goer (T : Txt K mg ad) (U : Funs K ad) : Fc P w K mg base CX0 4 ad.law_goer ["draws", "cells", "locks"] (spG K 3 (F_law_goer ad)) := (okR_law_goer T U).impG goer_imp
end
end My

set_option Elab.async false
set_option linter.all false
set_option maxRecDepth 100000
set_option maxHeartbeats 4000000
namespace My
open PySem L2
section
variable {P : Program} {w : World} {K : PySem.W.Frag} {mg : Str → Option Value} {base : Heap} {ad : Ad}
-- _law_program slots: 0 draws, 1 cells, 2 locks, 3 many, 4 rows, 5 k, 6 start, 7 twice, 8 first; level 5
theorem sc_law_program : FnScope ["draws", "cells", "locks", "many", "rows", "k", "start", "twice", "first"] ["draws"] (defScope s_law_program) := ⟨rfl, rfl, rfl, by decide +kernel, rfl, by decide +kernel, by decide +kernel⟩
def B_law_program_0 (ad : Ad) : GS :=
      (gsPar 1 2 (gaC (gOp fAdd (gC (.int 1)) (gCall0 (F_law_draw ad) (gaC (gV 0) (gaC (gC (.int 4)) gaN)))) (gaC (gCall0 (F_law_draw ad) (gaC (gV 0) (gaC (gC (.int 3)) gaN))) gaN)))
def B_law_program_1 (ad : Ad) : GS :=
      (gsSet 3 (gOp fAdd (gC (.int 1)) (gCall0 (F_law_draw ad) (gaC (gV 0) (gaC (gC (.int 3)) gaN)))))
def B_law_program_2 (ad : Ad) : GS :=
      (gsSet 4 (gLst gaN))
def B_law_program_3 (ad : Ad) : GS :=
      (gsFor (giRg1 (gV 3)) (bName 5)
      (gsC (gsSet 4 (gOp fAdd (gV 4) (gLst (gaC (gTup (gaC (gC (.str "int")) (gaC (gOp fSub (gCall0 (F_law_draw ad) (gaC (gV 0) (gaC (gC (.int 6)) gaN))) (gC (.int 1))) gaN))) (gaC (gTup (gaC (gC (.str "spawn")) (gaC (gC (.str "work")) gaN))) (gaC (gTup (gaC (gC (.str "store")) (gaC (gOp fAdd (gC (.int 1)) (gV 5)) gaN))) gaN))))))
      (gsIf (qB (gOp fEq (gCall0 (F_law_draw ad) (gaC (gV 0) (gaC (gC (.int 2)) gaN))) (gC (.int 0)))) (gsSet 4 (gOp fAdd (gV 4) (gCall0 (F_law_snippet ad) (gaC (gV 0) (gaC (gV 1) (gaC (gV 2) (gaC (gC (.int 0)) gaN))))))) gsN)))
def B_law_program_4 (ad : Ad) : GS :=
      (gsFor (giRg1 (gCall0 (F_law_draw ad) (gaC (gV 0) (gaC (gC (.int 3)) gaN)))) (bName 5)
      (gsSet 4 (gOp fAdd (gV 4) (gCall0 (F_law_snippet ad) (gaC (gV 0) (gaC (gV 1) (gaC (gV 2) (gaC (gC (.int 1)) gaN))))))))
def B_law_program_5 (ad : Ad) : GS :=
      (gsFor (giRg1 (gV 3)) (bName 5)
      (gsIf (qB (gOp fGt (gCall0 (F_law_draw ad) (gaC (gV 0) (gaC (gC (.int 4)) gaN))) (gC (.int 0)))) (gsSet 4 (gOp fAdd (gV 4) (gLst (gaC (gTup (gaC (gC (.str "load")) (gaC (gOp fAdd (gC (.int 1)) (gV 5)) gaN))) (gaC (gTup (gaC (gC (.str "join")) gaN)) (gaC (gTup (gaC (gC (.str "store")) (gaC (gC (.int 0)) gaN))) gaN)))))) gsN))
def B_law_program_6 (ad : Ad) : GS :=
      (gsSet 4 (gOp fAdd (gV 4) (gLst (gaC (gTup (gaC (gC (.str "get")) (gaC (gC (.int 0)) gaN))) (gaC (gTup (gaC (gC (.str "tell")) gaN)) (gaC (gTup (gaC (gC (.str "load")) (gaC (gC (.int 0)) gaN))) (gaC (gTup (gaC (gC (.str "give")) gaN)) gaN)))))))
def B_law_program_7 (ad : Ad) : GS :=
      (gsSet 6 (gTup (gaC (gC (.str "start")) (gaC (gC (.int 0)) (gaC (gOp fAdd (gC (.int 1)) (gV 3)) (gaC (gB fTuple (gaC (gV 4) gaN)) gaN))))))
def B_law_program_8 (ad : Ad) : GS :=
      (gsSet 7 (gTup (gaC (gC (.str "twice")) (gaC (gC (.int 1)) (gaC (gC (.int 0)) (gaC (gTup (gaC (gTup (gaC (gC (.str "load")) (gaC (gC (.int 0)) gaN))) (gaC (gTup (gaC (gC (.str "int")) (gaC (gC (.int 2)) gaN))) (gaC (gTup (gaC (gC (.str "mul")) gaN)) (gaC (gTup (gaC (gC (.str "give")) gaN)) gaN))))) gaN))))))
def B_law_program_9 (ad : Ad) : GS :=
      (gsSet 8 (gB fTuple (gaC (gLC (giRg1 (gV 1)) [5] (bName 5) qYes (gOp fSub (gCall0 (F_law_draw ad) (gaC (gV 0) (gaC (gC (.int 7)) gaN))) (gC (.int 2)))) gaN)))
def B_law_program_10 (ad : Ad) : GS :=
      (gsRet (gTup (gaC (gV 8) (gaC (gV 2) (gaC (gTup (gaC (gV 6) (gaC (gCall0 (F_law_goer ad) (gaC (gV 0) (gaC (gV 1) (gaC (gV 2) gaN)))) (gaC (gV 7) gaN)))) (gaC (gC (.str "start")) gaN))))))
def B_law_program (ad : Ad) : GS :=
      (gsC (B_law_program_0 ad) (gsC (B_law_program_1 ad) (gsC (B_law_program_2 ad) (gsC (B_law_program_3 ad) (gsC (B_law_program_4 ad) (gsC (B_law_program_5 ad) (gsC (B_law_program_6 ad) (gsC (B_law_program_7 ad) (gsC (B_law_program_8 ad) (gsC (B_law_program_9 ad) (B_law_program_10 ad)))))))))))
def R_law_program (ad : Ad) : GF := defG0 ["draws", "cells", "locks", "many", "rows", "k", "start", "twice", "first"] (B_law_program ad)
theorem okR_law_program (T : Txt K mg ad) (U : Funs K ad) : Fc P w K mg base CX0 5 ad.law_program ["draws"] (spG K 1 (R_law_program ad)) := by
  have G_law_goer := ok_law_goer (P := P) (w := w) (base := base) T U
  have G_law_draw := ok_law_draw (P := P) (w := w) (base := base) T U
  have G_law_snippet := ok_law_snippet (P := P) (w := w) (base := base) T U
  exact Fc.okG U.F_law_program sc_law_program fun cdv A outer s f H E hr =>
      (sd_cons (sd_par (i := 1) (j := 2) (by rfl) sc_law_program.nd rfl rfl (by decide) rfl rfl (pd_cons (pd_op op_addD dat_add pd_int (pd_call0 G_law_draw (hr.mono (by decide)) rfl T.g_law_draw T.k_law_draw (pd_cons (pd_v 0) (pd_cons pd_int pd_nil)))) (pd_cons (pd_call0 G_law_draw (hr.mono (by decide)) rfl T.g_law_draw T.k_law_draw (pd_cons (pd_v 0) (pd_cons pd_int pd_nil))) pd_nil)) (by rfl))
      (sd_cons (sd_set (i := 3) sc_law_program.nd rfl (Or.inl rfl) (pd_op op_addD dat_add pd_int (pd_call0 G_law_draw (hr.mono (by decide)) rfl T.g_law_draw T.k_law_draw (pd_cons (pd_v 0) (pd_cons pd_int pd_nil)))))
      (sd_cons (sd_set (i := 4) sc_law_program.nd rfl (Or.inl rfl) (pd_lst pd_nil))
      (sd_cons (sd_for PassesOwn.never rfl (gi_rg1 rfl T.b_range (pd_v 3)) (pg_name (i := 5) sc_law_program.nd rfl (Or.inl rfl)) (tg_name (vs := [5]))
      (sd_cons (sd_set (i := 4) sc_law_program.nd rfl (Or.inl rfl) (pd_op op_addD dat_add (pd_v 4) (pd_lst (pd_cons (pd_tup (pd_cons pd_str (pd_cons (pd_op op_sub dat_sub (pd_call0 G_law_draw (hr.mono (by decide)) rfl T.g_law_draw T.k_law_draw (pd_cons (pd_v 0) (pd_cons pd_int pd_nil))) pd_int) pd_nil))) (pd_cons (pd_tup (pd_cons pd_str (pd_cons pd_str pd_nil))) (pd_cons (pd_tup (pd_cons pd_str (pd_cons (pd_op op_addD dat_add pd_int (pd_v 5)) pd_nil))) pd_nil))))))
      (sd_one (sd_if (qd_cmp (op_eqA hr.units) dat_eq (pd_call0 G_law_draw (hr.mono (by decide)) rfl T.g_law_draw T.k_law_draw (pd_cons (pd_v 0) (pd_cons pd_int pd_nil))) pd_int (nomark _)) (sd_one (sd_set (i := 4) sc_law_program.nd rfl (Or.inl rfl) (pd_op op_addD dat_add (pd_v 4) (pd_call0 G_law_snippet (hr.mono (by decide)) rfl T.g_law_snippet T.k_law_snippet (pd_cons (pd_v 0) (pd_cons (pd_v 1) (pd_cons (pd_v 2) (pd_cons pd_int pd_nil)))))))) sd_nil))))
      (sd_cons (sd_for PassesOwn.never rfl (gi_rg1 rfl T.b_range (pd_call0 G_law_draw (hr.mono (by decide)) rfl T.g_law_draw T.k_law_draw (pd_cons (pd_v 0) (pd_cons pd_int pd_nil)))) (pg_name (i := 5) sc_law_program.nd rfl (Or.inl rfl)) (tg_name (vs := [5]))
      (sd_one (sd_set (i := 4) sc_law_program.nd rfl (Or.inl rfl) (pd_op op_addD dat_add (pd_v 4) (pd_call0 G_law_snippet (hr.mono (by decide)) rfl T.g_law_snippet T.k_law_snippet (pd_cons (pd_v 0) (pd_cons (pd_v 1) (pd_cons (pd_v 2) (pd_cons pd_int pd_nil)))))))))
      (sd_cons (sd_for PassesOwn.never rfl (gi_rg1 rfl T.b_range (pd_v 3)) (pg_name (i := 5) sc_law_program.nd rfl (Or.inl rfl)) (tg_name (vs := [5]))
      (sd_one (sd_if (qd_cmp op_gtD dat_gt (pd_call0 G_law_draw (hr.mono (by decide)) rfl T.g_law_draw T.k_law_draw (pd_cons (pd_v 0) (pd_cons pd_int pd_nil))) pd_int (nomark _)) (sd_one (sd_set (i := 4) sc_law_program.nd rfl (Or.inl rfl) (pd_op op_addD dat_add (pd_v 4) (pd_lst (pd_cons (pd_tup (pd_cons pd_str (pd_cons (pd_op op_addD dat_add pd_int (pd_v 5)) pd_nil))) (pd_cons (pd_tup (pd_cons pd_str pd_nil)) (pd_cons (pd_tup (pd_cons pd_str (pd_cons pd_int pd_nil))) pd_nil))))))) sd_nil)))
      (sd_cons (sd_set (i := 4) sc_law_program.nd rfl (Or.inl rfl) (pd_op op_addD dat_add (pd_v 4) (pd_lst (pd_cons (pd_tup (pd_cons pd_str (pd_cons pd_int pd_nil))) (pd_cons (pd_tup (pd_cons pd_str pd_nil)) (pd_cons (pd_tup (pd_cons pd_str (pd_cons pd_int pd_nil))) (pd_cons (pd_tup (pd_cons pd_str pd_nil)) pd_nil)))))))
      (sd_cons (sd_set (i := 6) sc_law_program.nd rfl (Or.inl rfl) (pd_tup (pd_cons pd_str (pd_cons pd_int (pd_cons (pd_op op_addD dat_add pd_int (pd_v 3)) (pd_cons (pd_ty call_tuple_of dat_tuple (by rfl) T.b_tuple (by decide +kernel) (pd_cons (pd_v 4) pd_nil)) pd_nil))))))
      (sd_cons (sd_set (i := 7) sc_law_program.nd rfl (Or.inl rfl) (pd_tup (pd_cons pd_str (pd_cons pd_int (pd_cons pd_int (pd_cons (pd_tup (pd_cons (pd_tup (pd_cons pd_str (pd_cons pd_int pd_nil))) (pd_cons (pd_tup (pd_cons pd_str (pd_cons pd_int pd_nil))) (pd_cons (pd_tup (pd_cons pd_str pd_nil)) (pd_cons (pd_tup (pd_cons pd_str pd_nil)) pd_nil))))) pd_nil))))))
      (sd_cons (sd_set (i := 8) sc_law_program.nd rfl (Or.inl rfl) (pd_ty call_tuple_of dat_tuple (by rfl) T.b_tuple (by decide +kernel) (pd_cons (pd_lc (own := [("k", 5)]) rfl sc_law_program.nd (gi_rg1 rfl T.b_range (pd_v 1)) (blkOk_by (own := [("k", 5)]) (N := ["draws", "cells", "locks", "many", "rows", "k", "start", "twice", "first"]) (sc := defScope s_law_program) (by decide +kernel)) (fun _ _ _ _ _ => (pg_name (i := 5) sc_law_program.nd rfl (Or.inl rfl))) tg_name (fun _ _ _ _ _ => ptd_nil) (fun _ _ _ _ _ => (pd_op op_sub dat_sub (pd_call0 G_law_draw (hr.mono (by decide)) rfl T.g_law_draw T.k_law_draw (pd_cons (pd_v 0) (pd_cons pd_int pd_nil))) pd_int))) pd_nil)))
      (sd_one (sd_ret (pd_tup (pd_cons (pd_v 8) (pd_cons (pd_v 2) (pd_cons (pd_tup (pd_cons (pd_v 6) (pd_cons (pd_call0 G_law_goer (hr.mono (by decide)) rfl T.g_law_goer T.k_law_goer (pd_cons (pd_v 0) (pd_cons (pd_v 1) (pd_cons (pd_v 2) pd_nil)))) (pd_cons (pd_v 7) pd_nil)))) (pd_cons pd_str pd_nil)))))))))))))))))

end
theorem lcL_inv {b : GB} {g : GE} {Γ : Gam} {kc : MH → Prop} {k : MH → List MV → Prop} (I : List Row → List MV → MH → Prop) (hk : ∀ its acc h, I its acc h → kc h) (fin : ∀ acc h, I [] acc h → k h acc)
    (step : ∀ r its acc h (nx' : MH → List MV → Prop), I (r :: its) acc h → (∀ h2 acc2, I its acc2 h2 → nx' h2 acc2) → opt (b h Γ r) fun Γ1 => g h Γ1 (fun h2 y => nx' h2 (acc ++ [y])) XF) : ∀ its acc h, I its acc h → lcL b qYes g Γ kc k its acc h
  | [], acc, h, i => ⟨hk _ _ _ i, fin _ _ i⟩
  | r :: its, acc, h, i => by
    refine ⟨hk _ _ _ i, ?_⟩
    have := step r its acc h (fun h2 acc2 => lcL b qYes g Γ kc k its acc2 h2) i fun h2 acc2 i2 => lcL_inv I hk fin step its acc2 h2 i2
    obtain ⟨Γ1, e, q⟩ := opt_ex this
    refine opt_of e ?_
    exact iteT (B := lcL b qYes g Γ kc k its acc h) q
def twiceD : PyData := .tuple [.str "twice", .int 1, .int 0, .tuple [.tuple [.str "load", .int 0], .tuple [.str "int", .int 2], .tuple [.str "mul"], .tuple [.str "give"]]]
def toldD (first : List Int) (l many : Int) (sc wc : List PyData) : PyData := .tuple [.tuple (first.map .int), .int l, .tuple [.tuple [.str "start", .int 0, .int (1 + many), .tuple sc], .tuple [.str "work", .int 1, .int 1, .tuple wc], twiceD], .str "start"]
def SOk (c l many : Int) (B : Bnd) : Prop := BOk c l B ∧ B.own = 1 + many ∧ memD B.names (.str "work") = true
structure ProgOk (first : List Int) (l many : Int) (sc wc : List PyData) : Prop where
  (f1 : 1 ≤ first.length) (f4 : first.length ≤ 4) (fw : ∀ n ∈ first, -2 ≤ n ∧ n ≤ 4) (l0 : 0 ≤ l) (l2 : l ≤ 2) (m1 : 1 ≤ many) (m3 : many ≤ 3) (s4 : 4 ≤ sc.length) (s60 : sc.length ≤ 60) (w12 : 12 ≤ wc.length) (w40 : wc.length ≤ 40)
  (so : Ops (SOk first.length l many) sc) (wo : Ops (GOk first.length l wc.length) wc)
def F_law_program (_ : Ad) : GF := fun h ms nx _ => ∃ (p : Addr), ms = [.p p] ∧ DrG h p ∧ ∀ first l many sc wc h', ProgOk first l many sc wc → DrG h' p → DrS p h h' → nx h' (.i (toldD first l many sc wc))
section
variable {ad : Ad} {p : Addr} {c l many : Int} {h0 : MH}
/-- the slots while the rows are made -/
def PG (p : Addr) (c l many : Int) (ds : List PyData) (k : Option MV) : Gam := [some (.p p), some (.i (.int c)), some (.i (.int l)), some (.i (.int many)), some (.i (.list ds)), k, none, none, none]
structure PCt (c l many : Int) : Prop where
  (c1 : 1 ≤ c) (c4 : c ≤ 4) (l0 : 0 ≤ l) (l2 : l ≤ 2) (m1 : 1 ≤ many) (m3 : many ≤ 3)
theorem so_own (w : Str) (hw : w = "load" ∨ w = "store") {j : Int} (h0 : 0 ≤ j) (h1 : j ≤ many) : OpB (SOk c l many) (.tuple [.str w, .int j]) := op_own hw h0 fun B q => by rw [q.2.1]; omega
theorem so_spawn : OpB (SOk c l many) (.tuple [.str "spawn", .str "work"]) := op_arg (.str "work") rfl (by decide) (by decide) (show (4 : Nat) ≤ 100000 by decide) rfl rfl fun B q => (show (true && (nameD (.str "work") && memD B.names (.str "work"))) = true by rw [q.2.2]; decide +kernel)
theorem so_snip {ds : List PyData} (o : Ops (BOk c l) ds) : Ops (SOk c l many) ds := Ops.mono (P := BOk c l) (Q := SOk c l many) (fun B q => q.1) o
/-- rows and a snippet more -/
theorem prog_3 (C : PCt c l many) {h : MH} {nx : MH → Gam → Prop} {rt : MH → MV → Prop} (D : DrG h p) (S : DrS p h0 h) (k : ∀ h' ds k, DrG h' p → DrS p h0 h' → Ops (SOk c l many) ds → ds.length ≤ 27 → nx h' (PG p c l many ds k)) :
    B_law_program_3 ad h (PG p c l many [] none) nx rt XF := by
  obtain ⟨c1, c4, l0, l2, m1, m3⟩ := C
  refine ⟨⟨by omega, by omega⟩, ?_⟩
  refine frL_inv (fun its h' Γ => ∃ ds k, Γ = PG p c l many ds k ∧ DrG h' p ∧ DrS p h0 h' ∧ Ops (SOk c l many) ds ∧ ds.length + 9 * its.length ≤ 27 ∧ ∀ r ∈ its, ∃ j : Int, r = [.i (.int j)] ∧ 0 ≤ j ∧ j < many) (fun _ _ _ _ => trivial) ?_ ?_ _ _ _ ?_
  · rintro h4 Γ ⟨ds, k4, rfl, D4, S4, os, hl, hr⟩
    exact k h4 ds k4 D4 S4 os hl
  · rintro r its h4 Γ nx' ⟨ds, k4, rfl, D4, S4, os, hl, hr⟩ hn
    obtain ⟨j, rfl, j0, j1⟩ := hr r List.mem_cons_self
    have hl : ds.length + 9 * (its.length + 1) ≤ 27 := hl
    refine ⟨p, 6, rfl, D4, ⟨by decide, by decide⟩, fun n5 h5 n0 n3 D5 S5 => ?_⟩
    have hle : ds.length + 3 ≤ 16777216 := by omega
    simp [hle, PG]
    refine ⟨p, 2, rfl, D5, ⟨by decide, by decide⟩, fun n6 h6 n60 n62 D6 S6 => ?_⟩
    have o3 : Ops (SOk c l many) (ds ++ [.tuple [.str "int", .int (n5 - 1)], .tuple [.str "spawn", .str "work"], .tuple [.str "store", .int (1 + j)]]) := os.app ⟨op_int ⟨by omega, by omega⟩, so_spawn, so_own _ (.inr rfl) (by omega) (by omega), trivial⟩
    by_cases hz : n6 = 0
    · subst hz
      simp [PG]
      refine ⟨p, c, l, 0, rfl, D6, ⟨by omega, by omega⟩, ⟨by omega, by omega⟩, fun sd h7 ok D7 S7 => ?_⟩
      have ol := ok.1
      have hle2 : ds.length + (sd.length + 1 + 1 + 1) ≤ 16777216 := by omega
      have hle : ds.length + 1 + 1 + 1 + sd.length ≤ 16777216 := by omega
      simp [hle, hle2, PG]
      refine hn _ _ ⟨(ds ++ [.tuple [.str "int", .int (n5 - 1)], .tuple [.str "spawn", .str "work"], .tuple [.str "store", .int (1 + j)]]) ++ sd, some (.i (.int j)), ?_, D7, ((S4.trans S5).trans S6).trans S7, o3.app (so_snip ok.2), ?_, fun r h => hr r (List.mem_cons_of_mem _ h)⟩
      · rw [List.append_assoc]; rfl
      · rw [List.length_append, List.length_append]; show ds.length + 3 + _ + _ ≤ _; omega
    · simp [hz, PG]
      exact hn _ _ ⟨_, _, rfl, D6, (S4.trans S5).trans S6, o3, by rw [List.length_append]; show ds.length + 3 + _ ≤ _; omega, fun r h => hr r (List.mem_cons_of_mem _ h)⟩
  · refine ⟨[], none, rfl, D, S, trivial, ?_, fun r hr => ?_⟩
    · rw [intsM_len]; show 0 + _ ≤ _; omega
    · obtain ⟨i, hi, rfl⟩ := intsM_mem hr
      exact ⟨_, rfl, by omega, by omega⟩
theorem prog_4 (C : PCt c l many) {h : MH} {ds : List PyData} {k0 : Option MV} {nx : MH → Gam → Prop} {rt : MH → MV → Prop} (D : DrG h p) (S : DrS p h0 h) (os : Ops (SOk c l many) ds) (hl : ds.length ≤ 27) (k : ∀ h' ds k, DrG h' p → DrS p h0 h' → Ops (SOk c l many) ds → ds.length ≤ 39 → nx h' (PG p c l many ds k)) :
    B_law_program_4 ad h (PG p c l many ds k0) nx rt XF := by
  obtain ⟨c1, c4, l0, l2, m1, m3⟩ := C
  refine ⟨p, 3, rfl, D, ⟨by decide, by decide⟩, fun n5 h5 n0 n3 D5 S5 => ?_⟩
  refine ⟨⟨by omega, by omega⟩, ?_⟩
  refine frL_inv (fun its h' Γ => ∃ ds k, Γ = PG p c l many ds k ∧ DrG h' p ∧ DrS p h0 h' ∧ Ops (SOk c l many) ds ∧ ds.length + 6 * its.length ≤ 39 ∧ ∀ r ∈ its, ∃ j, r = [j]) (fun _ _ _ _ => trivial) ?_ ?_ _ _ _ ?_
  · rintro h6 Γ ⟨ds, k6, rfl, D6, S6, os, hl, hr⟩
    exact k h6 ds k6 D6 S6 os hl
  · rintro r its h6 Γ nx' ⟨ds, k6, rfl, D6, S6, os, hl, hr⟩ hn
    obtain ⟨j, rfl⟩ := hr r List.mem_cons_self
    have hl : ds.length + 6 * (its.length + 1) ≤ 39 := hl
    refine ⟨p, c, l, 1, rfl, D6, ⟨by omega, by omega⟩, ⟨by omega, by omega⟩, fun sd h7 ok D7 S7 => ?_⟩
    have ol := ok.1
    have hle : ds.length + sd.length ≤ 16777216 := by omega
    simp [hle, PG]
    exact hn _ _ ⟨ds ++ sd, _, rfl, D7, S6.trans S7, os.app (so_snip ok.2), by rw [List.length_append]; omega, fun r h => hr r (List.mem_cons_of_mem _ h)⟩
  · refine ⟨ds, k0, rfl, D5, S.trans S5, os, ?_, fun r hr => ?_⟩
    · rw [intsM_len]; omega
    · obtain ⟨i, hi, rfl⟩ := intsM_mem hr
      exact ⟨_, rfl⟩
theorem prog_5 (C : PCt c l many) {h : MH} {ds : List PyData} {k0 : Option MV} {nx : MH → Gam → Prop} {rt : MH → MV → Prop} (D : DrG h p) (S : DrS p h0 h) (os : Ops (SOk c l many) ds) (hl : ds.length ≤ 39) (k : ∀ h' ds k, DrG h' p → DrS p h0 h' → Ops (SOk c l many) ds → ds.length ≤ 48 → nx h' (PG p c l many ds k)) :
    B_law_program_5 ad h (PG p c l many ds k0) nx rt XF := by
  obtain ⟨c1, c4, l0, l2, m1, m3⟩ := C
  refine ⟨⟨by omega, by omega⟩, ?_⟩
  refine frL_inv (fun its h' Γ => ∃ ds k, Γ = PG p c l many ds k ∧ DrG h' p ∧ DrS p h0 h' ∧ Ops (SOk c l many) ds ∧ ds.length + 3 * its.length ≤ 48 ∧ ∀ r ∈ its, ∃ j : Int, r = [.i (.int j)] ∧ 0 ≤ j ∧ j < many) (fun _ _ _ _ => trivial) ?_ ?_ _ _ _ ?_
  · rintro h6 Γ ⟨ds, k6, rfl, D6, S6, os, hl, hr⟩
    exact k h6 ds k6 D6 S6 os hl
  · rintro r its h7 Γ nx' ⟨ds, k7, rfl, D7, S7, os, hl, hr⟩ hn
    obtain ⟨j, rfl, j0, j1⟩ := hr r List.mem_cons_self
    have hl : ds.length + 3 * (its.length + 1) ≤ 48 := hl
    refine ⟨p, 4, rfl, D7, ⟨by decide, by decide⟩, fun n8 h8 n80 n83 D8 S8 => ?_⟩
    refine itd (fun _ => ?_) (fun _ => ?_)
    · have hle : ds.length + 3 ≤ 16777216 := by omega
      simp [hle, PG]
      exact hn _ _ ⟨ds ++ [.tuple [.str "load", .int (1 + j)], .tuple [.str "join"], .tuple [.str "store", .int 0]], some (.i (.int j)), rfl, D8, S7.trans S8, os.app ⟨so_own _ (.inl rfl) (by omega) (by omega), op_alone rfl (by decide), so_own _ (.inr rfl) (by omega) (by omega), trivial⟩, by rw [List.length_append]; show ds.length + 3 + _ ≤ _; omega, fun r h => hr r (List.mem_cons_of_mem _ h)⟩
    · exact hn _ _ ⟨ds, some (.i (.int j)), rfl, D8, S7.trans S8, os, by omega, fun r h => hr r (List.mem_cons_of_mem _ h)⟩
  · refine ⟨ds, k0, rfl, D, S, os, ?_, fun r hr => ?_⟩
    · rw [intsM_len]; omega
    · obtain ⟨i, hi, rfl⟩ := intsM_mem hr
      exact ⟨_, rfl, by omega, by omega⟩
/-- first = tuple([..]) -/
theorem prog_9 (C : PCt c l many) {h : MH} {a4 a5 a6 a7 : Option MV} {nx : MH → Gam → Prop} {rt : MH → MV → Prop} (D : DrG h p) (S : DrS p h0 h)
    (k : ∀ h' (first : List Int), DrG h' p → DrS p h0 h' → (first.length : Int) = c → (∀ n ∈ first, -2 ≤ n ∧ n ≤ 4) → nx h' [some (.p p), some (.i (.int c)), some (.i (.int l)), some (.i (.int many)), a4, a5, a6, a7, some (.i (.tuple (first.map .int)))]) :
    B_law_program_9 ad h [some (.p p), some (.i (.int c)), some (.i (.int l)), some (.i (.int many)), a4, a5, a6, a7, none] nx rt XF := by
  obtain ⟨c1, c4, l0, l2, m1, m3⟩ := C
  refine ⟨⟨by omega, by omega⟩, ?_⟩
  refine ⟨by rw [intsM_len]; show _ ≤ 16777216; omega, ?_⟩
  refine lcL_inv (fun its acc h' => ∃ first : List Int, acc = first.map (fun n => MV.i (.int n)) ∧ DrG h' p ∧ DrS p h0 h' ∧ ((first.length + its.length : Nat) : Int) = c ∧ (∀ n ∈ first, -2 ≤ n ∧ n ≤ 4) ∧ ∀ r ∈ its, ∃ j, r = [j]) (fun _ _ _ _ => trivial) ?_ ?_ _ _ _ ?_
  · rintro acc h6 ⟨first, rfl, D6, S6, hl, hf, _⟩
    have e : allI (first.map (fun n => MV.i (.int n))) = some (first.map PyData.int) := by
      have := allI_map (first.map PyData.int)
      rw [List.map_map] at this
      exact this
    refine opt_of e ?_
    exact k h6 first D6 S6 hl hf
  · rintro r its acc h6 nx' ⟨first, rfl, D6, S6, hl, hf, hr⟩ hn
    obtain ⟨j, rfl⟩ := hr r List.mem_cons_self
    refine ⟨p, 7, rfl, D6, ⟨by decide, by decide⟩, fun n h7 n0 n7 D7 S7 => ?_⟩
    refine hn h7 _ ⟨first ++ [n - 2], ?_, D7, S6.trans S7, ?_, fun x hx => ?_, fun r h => hr r (List.mem_cons_of_mem _ h)⟩
    · rw [List.map_append]; rfl
    · rw [← hl, List.length_append, List.length_cons]
      show ((first.length + 1 + its.length : Nat) : Int) = ((first.length + (its.length + 1) : Nat) : Int)
      omega
    · rcases List.mem_append.mp hx with hx | hx
      · exact hf x hx
      · rw [List.mem_singleton.mp hx]; omega
  · refine ⟨[], rfl, D, S, ?_, fun n hn => absurd hn List.not_mem_nil, fun r hr => ?_⟩
    · rw [intsM_len]; show ((0 + c.toNat : Nat) : Int) = c; omega
    · obtain ⟨i, _, rfl⟩ := intsM_mem hr
      exact ⟨_, rfl⟩
end
theorem gsC_intro {a b : GS} {h : MH} {Γ : Gam} {nx : MH → Gam → Prop} {rt : MH → MV → Prop} {ex : GX} (q : a h Γ (fun h1 Γ1 => b h1 Γ1 nx rt ex) rt ex) : gsC a b h Γ nx rt ex := q
section
variable {ad : Ad} {p : Addr} {c l many : Int} {h h0 : MH} {nx : MH → Gam → Prop} {rt : MH → MV → Prop}
theorem prog_0 (D : DrG h p) (S : DrS p h0 h) (k : ∀ h' c l, DrG h' p → DrS p h0 h' → (1 ≤ c ∧ c ≤ 4) → (0 ≤ l ∧ l ≤ 2) → nx h' [some (.p p), some (.i (.int c)), some (.i (.int l)), none, none, none, none, none, none]) :
    B_law_program_0 ad h [some (.p p), none, none, none, none, none, none, none, none] nx rt XF := by
  refine ⟨p, 4, rfl, D, ⟨by decide, by decide⟩, fun c0 h1 c00 c03 D1 S1 => ?_⟩
  refine ⟨p, 3, rfl, D1, ⟨by decide, by decide⟩, fun l h2 l0 l2 D2 S2 => ?_⟩
  exact k h2 (1 + c0) l D2 ((S.trans S1).trans S2) ⟨by omega, by omega⟩ ⟨l0, by omega⟩
theorem prog_1 (D : DrG h p) (S : DrS p h0 h) (k : ∀ h' m, DrG h' p → DrS p h0 h' → (1 ≤ m ∧ m ≤ 3) → nx h' [some (.p p), some (.i (.int c)), some (.i (.int l)), some (.i (.int m)), none, none, none, none, none]) :
    B_law_program_1 ad h [some (.p p), some (.i (.int c)), some (.i (.int l)), none, none, none, none, none, none] nx rt XF := by
  refine ⟨p, 3, rfl, D, ⟨by decide, by decide⟩, fun m0 h1 c00 c03 D1 S1 => ?_⟩
  exact k h1 (1 + m0) D1 (S.trans S1) ⟨by omega, by omega⟩
theorem prog_2 (k : nx h (PG p c l many [] none)) : B_law_program_2 ad h [some (.p p), some (.i (.int c)), some (.i (.int l)), some (.i (.int many)), none, none, none, none, none] nx rt XF := k
theorem prog_6 {ds : List PyData} {k0 : Option MV} (hl : ds.length ≤ 48) (k : nx h (PG p c l many (ds ++ [.tuple [.str "get", .int 0], .tuple [.str "tell"], .tuple [.str "load", .int 0], .tuple [.str "give"]]) k0)) : B_law_program_6 ad h (PG p c l many ds k0) nx rt XF := by
  have hle : ds.length + 4 ≤ 16777216 := by omega
  simp [B_law_program_6, hle, PG]
  exact k
theorem prog_7 {ds : List PyData} {k0 : Option MV} (k : nx h [some (.p p), some (.i (.int c)), some (.i (.int l)), some (.i (.int many)), some (.i (.list ds)), k0, some (.i (.tuple [.str "start", .int 0, .int (1 + many), .tuple ds])), none, none]) : B_law_program_7 ad h (PG p c l many ds k0) nx rt XF := by
  simp [B_law_program_7, PG]
  exact k
theorem prog_8 {a4 a5 a6 : Option MV} (k : nx h [some (.p p), some (.i (.int c)), some (.i (.int l)), some (.i (.int many)), a4, a5, a6, some (.i twiceD), none]) : B_law_program_8 ad h [some (.p p), some (.i (.int c)), some (.i (.int l)), some (.i (.int many)), a4, a5, a6, none, none] nx rt XF := by
  simp [B_law_program_8]
  exact k
theorem prog_10 {a4 a5 : Option MV} {sd fd : PyData} (D : DrG h p) (hc : 1 ≤ c ∧ c ≤ 16) (hl : 0 ≤ l ∧ l ≤ 6) (k : ∀ wc h', (12 ≤ wc.length ∧ wc.length ≤ 40) → Ops (GOk c l wc.length) wc → DrG h' p → DrS p h h' → rt h' (.i (.tuple [fd, .int l, .tuple [sd, .tuple [.str "work", .int 1, .int 1, .tuple wc], twiceD], .str "start"]))) :
    B_law_program_10 ad h [some (.p p), some (.i (.int c)), some (.i (.int l)), some (.i (.int many)), a4, a5, some (.i sd), some (.i twiceD), some (.i fd)] nx rt XF := by
  refine ⟨p, c, l, rfl, D, hc, hl, fun wc h8 wl wo D8 S8 => ?_⟩
  exact k wc h8 wl wo D8 S8
end
theorem program_imp {ad : Ad} : ∀ h ms nx ex, ms.length = 1 → F_law_program ad h ms nx ex → R_law_program ad h ms nx ex := by
  rintro h ms nx ex - ⟨p, rfl, hD, k⟩
  show B_law_program ad h [some (.p p), none, none, none, none, none, none, none, none] _ nx XF
  unfold B_law_program
  refine gsC_intro (prog_0 hD (DrS.refl p h) fun h2 c l D2 S2 hc hl => ?_)
  refine gsC_intro (prog_1 D2 S2 fun h3 many D3 S3 hm => ?_)
  have C : PCt c l many := ⟨hc.1, hc.2, hl.1, hl.2, hm.1, hm.2⟩
  refine gsC_intro (prog_2 ?_)
  refine gsC_intro (prog_3 C D3 S3 fun h4 ds k4 D4 S4 os4 hl4 => ?_)
  refine gsC_intro (prog_4 C D4 S4 os4 hl4 fun h5 ds k5 D5 S5 os5 hl5 => ?_)
  refine gsC_intro (prog_5 C D5 S5 os5 hl5 fun h6 ds k6 D6 S6 os6 hl6 => ?_)
  have o7 : Ops (SOk c l many) (ds ++ [.tuple [.str "get", .int 0], .tuple [.str "tell"], .tuple [.str "load", .int 0], .tuple [.str "give"]]) := os6.app ⟨(op_cell (.inl rfl) (by decide) (by omega) : OpB (BOk c l) _).mono fun B q => q.1, op_alone rfl (by decide), so_own _ (.inl rfl) (by decide) (by omega), op_alone rfl (by decide), trivial⟩
  refine gsC_intro (prog_6 hl6 ?_)
  refine gsC_intro (prog_7 ?_)
  refine gsC_intro (prog_8 ?_)
  refine gsC_intro (prog_9 C D6 S6 fun h7 first D7 S7 hf fw => ?_)
  refine prog_10 D7 ⟨hc.1, by omega⟩ ⟨hl.1, by omega⟩ fun wc h8 wl wo D8 S8 => ?_
  have P : ProgOk first l many (ds ++ [.tuple [.str "get", .int 0], .tuple [.str "tell"], .tuple [.str "load", .int 0], .tuple [.str "give"]]) wc := by
    refine ⟨by omega, by omega, fw, hl.1, hl.2, hm.1, hm.2, ?_, ?_, wl.1, wl.2, by rw [hf]; exact o7, by rw [hf]; exact wo⟩
    · rw [List.length_append]; show 4 ≤ ds.length + 4; omega
    · rw [List.length_append]; show ds.length + 4 ≤ 60; omega
  exact k first l many _ wc h8 P D8 (S7.trans S8)
section
variable {P : Program} {w : World} {K : PySem.W.Frag} {mg : Str → Option Value} {base : Heap} {ad : Ad}
theorem ok_law_program (T : Txt K mg ad) (U : Funs K ad) : Fc P w K mg base CX0 5 ad.law_program ["draws"] (spG K 1 (F_law_program ad)) := (okR_law_program T U).impG program_imp
end
end My

set_option Elab.async false
set_option linter.all false
set_option maxRecDepth 100000
set_option maxHeartbeats 4000000
namespace My
open PySem L2
section
variable {P : Program} {w : World} {K : PySem.W.Frag} {mg : Str → Option Value} {base : Heap} {ad : Ad}
-- _law_takes slots: 0 told, 1 op; level 2
theorem sc_law_takes : FnScope ["told", "op"] ["told", "op"] (defScope s_law_takes) := ⟨rfl, rfl, rfl, by decide +kernel, rfl, by decide +kernel, by decide +kernel⟩
def B_law_takes (ad : Ad) : GS :=
      (gsC (gsIf (qB (gOp fIn (gIx (gV 1) (gC (.int 0))) (gTup (gaC (gC (.str "call")) (gaC (gC (.str "spawn")) gaN))))) (gsRet (gIx (gCall0 (F_law_proc ad) (gaC (gV 0) (gaC (gIx (gV 1) (gC (.int 1))) gaN))) (gC (.int 1)))) gsN)
      (gsC (gsIf (qB (gOp fIn (gIx (gV 1) (gC (.int 0))) (gTup (gaC (gC (.str "add")) (gaC (gC (.str "sub")) (gaC (gC (.str "mul")) (gaC (gC (.str "div")) (gaC (gC (.str "rem")) (gaC (gC (.str "and")) (gaC (gC (.str "or")) (gaC (gC (.str "xor")) (gaC (gC (.str "if")) (gaC (gC (.str "set")) gaN))))))))))))) (gsRet (gC (.int 2))) gsN)
      (gsRet (gIf (qB (gOp fIn (gIx (gV 1) (gC (.int 0))) (gTup (gaC (gC (.str "store")) (gaC (gC (.str "dup")) (gaC (gC (.str "drop")) (gaC (gC (.str "neg")) (gaC (gC (.str "give")) (gaC (gC (.str "put")) (gaC (gC (.str "fetch")) (gaC (gC (.str "trade")) (gaC (gC (.str "tell")) (gaC (gC (.str "join")) gaN))))))))))))) (gC (.int 1)) (gC (.int 0))))))
def R_law_takes (ad : Ad) : GF := defG0 ["told", "op"] (B_law_takes ad)
theorem okR_law_takes (T : Txt K mg ad) (U : Funs K ad) : Fc P w K mg base CX0 2 ad.law_takes ["told", "op"] (spG K 2 (R_law_takes ad)) := by
  have G_law_proc := ok_law_proc (P := P) (w := w) (base := base) T U
  exact Fc.okG U.F_law_takes sc_law_takes fun cdv A outer s f H E hr =>
      (sd_cons (sd_if (qd_cmp op_in_seq dat_in (pd_ix (pd_v 1) pd_int) (pd_tup (pd_cons pd_str (pd_cons pd_str pd_nil))) (by rfl)) (sd_one (sd_ret (pd_ix (pd_call0 G_law_proc (hr.mono (by decide)) rfl T.g_law_proc T.k_law_proc (pd_cons (pd_v 0) (pd_cons (pd_ix (pd_v 1) pd_int) pd_nil))) pd_int))) sd_nil)
      (sd_cons (sd_if (qd_cmp op_in_seq dat_in (pd_ix (pd_v 1) pd_int) (pd_tup (pd_cons pd_str (pd_cons pd_str (pd_cons pd_str (pd_cons pd_str (pd_cons pd_str (pd_cons pd_str (pd_cons pd_str (pd_cons pd_str (pd_cons pd_str (pd_cons pd_str pd_nil))))))))))) (by rfl)) (sd_one (sd_ret pd_int)) sd_nil)
      (sd_one (sd_ret (pd_if (qd_cmp op_in_seq dat_in (pd_ix (pd_v 1) pd_int) (pd_tup (pd_cons pd_str (pd_cons pd_str (pd_cons pd_str (pd_cons pd_str (pd_cons pd_str (pd_cons pd_str (pd_cons pd_str (pd_cons pd_str (pd_cons pd_str (pd_cons pd_str pd_nil))))))))))) (by rfl)) pd_int pd_int)))))

end
def callV : List V := [.str "call", .str "spawn"]
def twoV : List V := [.str "add", .str "sub", .str "mul", .str "div", .str "rem", .str "and", .str "or", .str "xor", .str "if", .str "set"]
def oneV : List V := [.str "store", .str "dup", .str "drop", .str "neg", .str "give", .str "put", .str "fetch", .str "trade", .str "tell", .str "join"]
def parD (procs : List PyData) (rest : List PyData) : Int :=
  match rest with
  | [.str q] => ((procs.find? fun d => decide (procName d = q)).map procPar).getD 0
  | _ => 0
def tkD (procs : List PyData) (w : Str) (rest : List PyData) : Int := if inV (.str w) callV = true then parD procs rest else if inV (.str w) twoV = true then 2 else if inV (.str w) oneV = true then 1 else 0
def ProcsOk (procs : List PyData) : Prop := (∀ p ∈ procs, ∃ n i t, p = .tuple (.str n :: .int i :: t)) ∧ procs.length ≤ SL
def CallOk (procs : List PyData) (w : Str) (rest : List PyData) : Prop := inV (.str w) callV = true → ∃ q row, rest = [.str q] ∧ procs.find? (fun d => decide (procName d = q)) = some row
def F_law_takes (_ : Ad) : GF := fun h ms nx _ => ∃ x y procs r w rest, ms = [.i (.tuple (x :: y :: .tuple procs :: r)), .i (.tuple (.str w :: rest))] ∧ ProcsOk procs ∧ CallOk procs w rest ∧ nx h (.i (.int (tkD procs w rest)))
theorem takes_imp {ad : Ad} : ∀ h ms nx ex, ms.length = 2 → F_law_takes ad h ms nx ex → R_law_takes ad h ms nx ex := by
  rintro h ms nx ex - ⟨x, y, procs, r, w, rest, rfl, ⟨hp, hl⟩, hc, k⟩
  have e1 : inDs (.str w) [.str "call", .str "spawn"] = some (inV (.str w) callV) := rfl
  have e2 : inDs (.str w) [.str "add", .str "sub", .str "mul", .str "div", .str "rem", .str "and", .str "or", .str "xor", .str "if", .str "set"] = some (inV (.str w) twoV) := rfl
  have e3 : inDs (.str w) [.str "store", .str "dup", .str "drop", .str "neg", .str "give", .str "put", .str "fetch", .str "trade", .str "tell", .str "join"] = some (inV (.str w) oneV) := rfl
  unfold tkD at k
  by_cases z : inV (.str w) callV = true
  · rw [if_pos z] at k
    obtain ⟨q, row, rfl, hf⟩ := hc z
    obtain ⟨n, i, t, rfl⟩ := hp row (List.mem_of_find?_eq_some hf)
    simp [R_law_takes, B_law_takes, e1, z]
    refine ⟨x, y, procs, r, q, _, rfl, fun p hp' => by obtain ⟨n, i, t, rfl⟩ := hp p hp'; exact ⟨n, _, rfl⟩, hl, hf, ?_⟩
    simp
    have : parD procs [.str q] = i := by
      show ((procs.find? fun d => decide (procName d = q)).map procPar).getD 0 = i
      rw [hf]; rfl
    rw [this] at k
    exact k
  · have z' : inV (.str w) callV = false := by cases h : inV (.str w) callV <;> first | rfl | exact absurd h z
    rw [if_neg z] at k
    by_cases z2 : inV (.str w) twoV = true
    · rw [if_pos z2] at k
      simp [R_law_takes, B_law_takes, e1, e2, z', z2]
      exact k
    · have z2' : inV (.str w) twoV = false := by cases h : inV (.str w) twoV <;> first | rfl | exact absurd h z2
      rw [if_neg z2] at k
      by_cases z3 : inV (.str w) oneV = true
      · rw [if_pos z3] at k
        simp [R_law_takes, B_law_takes, e1, e2, e3, z', z2', z3]
        exact k
      · have z3' : inV (.str w) oneV = false := by cases h : inV (.str w) oneV <;> first | rfl | exact absurd h z3
        rw [if_neg z3] at k
        simp [R_law_takes, B_law_takes, e1, e2, e3, z', z2', z3']
        exact k
theorem inV_mem {w : Str} : ∀ {ws : List Str}, inV (.str w) (ws.map V.str) = true → w ∈ ws
  | [], h => by cases h
  | a :: ws, h => by
    have h : (eqV (.str a) (.str w) || inV (.str w) (ws.map V.str)) = true := h
    rcases Bool.or_eq_true_iff.mp h with h | h
    · have : a = w := by simpa [eqV] using h
      rw [this]; exact List.mem_cons_self
    · exact List.mem_cons_of_mem _ (inV_mem h)
/-- the program's object in the small world -/
def PgG (C : Addr) (h : MH) (a : Addr) (c l p s : PyData) (procs : List PyData) : Prop := ∃ dx b kvs, h a = some (.ins C dx [("cells", .i c), ("locks", .i l), ("procs", .i p), ("start", .i s), ("by", .p b)]) ∧ h b = some (.dct kvs) ∧ a ≠ b ∧
  (∀ q row, procs.find? (fun d => decide (procName d = q)) = some row → valM kvs (Sum.inr q) = some (.i row))
def F_needs (ad : Ad) : GF := fun h ms nx _ => ∃ a c l p s procs w rest, ms = [.p a, .i (.tuple (.str w :: rest))] ∧ PgG ad.C_Program h a c l p s procs ∧ ProcsOk procs ∧ CallOk procs w rest ∧ nx h (.i (.int (tkD procs w rest)))
theorem needs_imp {ad : Ad} : ∀ h ms nx ex, ms.length = 2 → F_needs ad h ms nx ex → R_needs ad h ms nx ex := by
  rintro h ms nx ex - ⟨a, c, l, p, s, procs, w, rest, rfl, ⟨dx, b, kvs, ea, eb, nab, hv⟩, ⟨hp, hl⟩, hc, k⟩
  have e0 : inDs (.str w) [.str "add", .str "sub", .str "mul", .str "div", .str "rem", .str "and", .str "or", .str "xor"] = some (inV (.str w) worksV) := rfl
  have e1 : inDs (.str w) [.str "call", .str "spawn"] = some (inV (.str w) callV) := rfl
  have e2 : inDs (.str w) [.str "if", .str "set"] = some (inV (.str w) [.str "if", .str "set"]) := rfl
  have e3 : inDs (.str w) [.str "store", .str "dup", .str "drop", .str "neg", .str "give", .str "put", .str "fetch", .str "trade", .str "tell", .str "join"] = some (inV (.str w) oneV) := rfl
  unfold tkD at k
  have two : inV (.str w) twoV = (inV (.str w) worksV || inV (.str w) [.str "if", .str "set"]) := by
    simp [twoV, worksV, inV, Bool.or_assoc]
  by_cases z : inV (.str w) callV = true
  · rw [if_pos z] at k
    obtain ⟨q, row, rfl, hf⟩ := hc z
    obtain ⟨n, i, t, rfl⟩ := hp row (List.mem_of_find?_eq_some hf)
    have f0 : inV (.str w) worksV = false ∧ inV (.str w) [.str "if", .str "set"] = false ∧ inV (.str w) oneV = false := by
      have hm := inV_mem (ws := ["call", "spawn"]) z
      rcases List.mem_cons.mp hm with rfl | hm
      · exact ⟨rfl, rfl, rfl⟩
      · rw [List.mem_singleton.mp hm]; exact ⟨rfl, rfl, rfl⟩
    have hv := hv q _ hf
    have : parD procs [.str q] = i := by
      show ((procs.find? fun d => decide (procName d = q)).map procPar).getD 0 = i
      rw [hf]; rfl
    rw [this] at k
    have ef : List.lookup ("by" : Str) [(("cells" : Str), MV.i c), ("locks", .i l), ("procs", .i p), ("start", .i s), ("by", .p b)] = some (.p b) := rfl
    simp [R_needs, B_needs, e0, e1, e2, e3, f0, z, ea, eb, hv, ef]
    exact k
  · have z' : inV (.str w) callV = false := by cases h : inV (.str w) callV <;> first | rfl | exact absurd h z
    rw [if_neg z, two] at k
    by_cases z2 : inV (.str w) worksV = true
    · rw [z2] at k
      simp [R_needs, B_needs, e0, e1, e2, e3, z2]
      exact k
    · have z2' : inV (.str w) worksV = false := by cases h : inV (.str w) worksV <;> first | rfl | exact absurd h z2
      rw [z2'] at k
      by_cases z3 : inV (.str w) [.str "if", .str "set"] = true
      · rw [z3] at k
        simp [R_needs, B_needs, e0, e1, e2, e3, z2', z3]
        exact k
      · have z3' : inV (.str w) [.str "if", .str "set"] = false := by cases h : inV (.str w) [.str "if", .str "set"] <;> first | rfl | exact absurd h z3
        rw [z3'] at k
        by_cases z4 : inV (.str w) oneV = true
        · rw [z4] at k
          simp [R_needs, B_needs, e0, e1, e2, e3, z2', z3', z4]
          exact k
        · have z4' : inV (.str w) oneV = false := by cases h : inV (.str w) oneV <;> first | rfl | exact absurd h z4
          rw [z4'] at k
          simp [R_needs, B_needs, e0, e1, e2, e3, z2', z3', z4', z']
          exact k
section
variable {P : Program} {w : World} {K : PySem.W.Frag} {mg : Str → Option Value} {base : Heap} {ad : Ad}
theorem ok_law_takes (T : Txt K mg ad) (U : Funs K ad) : Fc P w K mg base CX0 2 ad.law_takes ["told", "op"] (spG K 2 (F_law_takes ad)) := (okR_law_takes T U).impG takes_imp
theorem ok_needs (T : Txt K mg ad) (U : Funs K ad) : Fc P w K mg base CX0 1 ad.needs ["program", "op"] (spG K 2 (F_needs ad)) := (okR_needs T U).impG needs_imp
end
end My

set_option Elab.async false
set_option linter.all false
set_option maxRecDepth 100000
set_option maxHeartbeats 4000000
namespace My
open PySem L2
/-! ## Program(..) in the small world -/
mutual
/-- no list within -/
def NoL : PyData → Prop
  | .list _ => False
  | .dict _ => False
  | .tuple ds => NoLs ds
  | _ => True
def NoLs : List PyData → Prop
  | [] => True
  | d :: ds => NoL d ∧ NoLs ds
end
theorem NoLs.of : ∀ {ds : List PyData}, (∀ d ∈ ds, NoL d) → NoLs ds
  | [], _ => trivial
  | d :: ds, h => ⟨h d List.mem_cons_self, NoLs.of fun e he => h e (List.mem_cons_of_mem _ he)⟩
section
variable {K : PySem.W.Frag} {Y : Addr → Prop} {H : Hp} {h : MH}
theorem WR.tupNo (w : WR K Y H h) {a : Addr} {xs : List V} (e : H a = some (.tup xs)) : ¬ Ft h Y a := by
  refine Ft.mk ?_ fun y => ?_
  · cases q : h a with
    | none => rfl
    | some o =>
      obtain ⟨u, x, r⟩ := w.ob a o q
      rw [e] at x; cases x
      cases o <;> exact r.elim
  · obtain ⟨_, ys, x⟩ := w.ya a y
    rw [e] at x; cases x
mutual
theorem nolN {N : Addr → Prop} (hN : ∀ a xs, H a = some (.tup xs) → ¬ N a) : ∀ {v : V} {d : PyData}, DA K H No v d → NoL d → DA K H N v d
  | _, _, .non, _ => .non
  | _, _, .bl b, _ => .bl b
  | _, _, .int i, _ => .int i
  | _, _, .str x, _ => .str x
  | _, _, .lst _ _ _, n => n.elim
  | _, _, .tup e _ s, n => .tup e (hN _ _ e) (nolNs hN s n)
  | _, _, .kt e s, n => .kt e (nolNs hN s n)
theorem nolNs {N : Addr → Prop} (hN : ∀ a xs, H a = some (.tup xs) → ¬ N a) : ∀ {vs : List V} {ds : List PyData}, DAs K H No vs ds → NoLs ds → DAs K H N vs ds
  | _, _, .nil, _ => .nil
  | _, _, .cons a s, n => .cons (nolN hN a n.1) (nolNs hN s n.2)
end
theorem WR.nol (w : WR K Y H h) {v : V} {d : PyData} (a : DA K H No v d) (n : NoL d) : DA K H (Ft h Y) v d := nolN (fun _ _ e => w.tupNo e) a n
end
theorem isS_nol {x : PyData} (h : isS x = true) : NoL x := by cases x <;> first | exact True.intro | cases h
theorem inD_nol {lo hi : Int} {x : PyData} (h : inD lo hi x = true) : NoL x := by cases x <;> first | exact True.intro | cases h
theorem arg_nol {B : Bnd} {w : Str} {x : PyData} (h : argD B w x = true) : NoL x := by
  unfold argD at h
  have iw : ∀ x, wordD x = true → NoL x := fun x h => by cases x <;> first | trivial | cases h
  have ii : ∀ lo hi x, inD lo hi x = true → NoL x := fun lo hi x h => by cases x <;> first | trivial | cases h
  have inm : ∀ x, nameD x = true → NoL x := fun x h => by cases x <;> first | trivial | cases h
  split at h
  · exact iw _ h
  split at h
  · exact ii _ _ _ h
  split at h
  · exact ii _ _ _ h
  split at h
  · exact ii _ _ _ h
  split at h
  · exact ii _ _ _ h
  · exact inm _ (Bool.and_eq_true_iff.mp (Bool.and_eq_true_iff.mp h).2).1
theorem instr_nol {B : Bnd} {d : PyData} (h : instrD B d = true) : NoL d := by
  cases d with
  | tuple ds =>
    have h : tupD B ds = true := h
    cases ds with
    | nil => cases h
    | cons x rest =>
      have h : headD B x rest = true := h
      cases x with
      | str w =>
        have h : opD B w rest = true := h
        refine (show NoL (.str w) ∧ NoLs rest from ⟨trivial, ?_⟩)
        unfold opD at h
        split at h
        · have : rest = [] := List.length_eq_zero_iff.mp (of_decide_eq_true h)
          subst this; trivial
        split at h
        · unfold ifD at h
          split at h
          · rename_i c p
            obtain ⟨h1, h2⟩ := Bool.and_eq_true_iff.mp h
            obtain ⟨_, h3⟩ := Bool.and_eq_true_iff.mp h2
            exact ⟨isS_nol h1, inD_nol h3, True.intro⟩
          · cases h
        · unfold restD at h
          split at h
          · exact ⟨arg_nol h, trivial⟩
          · cases h
      | _ => cases h
  | _ => cases h
theorem code_nol {B : Bnd} {n : Str} : ∀ {k : Nat} {code : List PyData}, codeBad B n k code = none → NoLs code
  | _, [], _ => trivial
  | k, op :: r, h => by
    have h : (if instrD B op = true then codeBad B n (k + 1) r else some (PyData.tuple [.str n, .int (k : Nat)], ("instruction" : Str))) = none := h
    split at h
    · rename_i hi
      exact ⟨instr_nol hi, code_nol h⟩
    · cases h
theorem codes_nol {cells : Nat} {L : Int} {names : List Str} : ∀ {ds : List PyData}, codeAll cells L names ds = none → ∀ d ∈ ds, NoLs (procCode d)
  | [], _, _, hd => absurd hd List.not_mem_nil
  | e :: ds, h, d, hd => by
    have h : (match codeBad (bndOf cells L names e) (procName e) 0 (procCode e) with | some e => some e | none => codeAll cells L names ds) = none := h
    cases hl : codeBad (bndOf cells L names e) (procName e) 0 (procCode e) with
    | some q => rw [hl] at h; cases h
    | none =>
      rw [hl] at h
      rcases List.mem_cons.mp hd with rfl | hd
      · exact code_nol hl
      · exact codes_nol h d hd
theorem looks_get : ∀ {ds : List PyData} {names : List Str}, lookAll names ds = none → ∀ d ∈ ds, ∃ nn, lookD nn d = none
  | [], _, _, _, hd => absurd hd List.not_mem_nil
  | e :: ds, names, h, d, hd => by
    obtain ⟨i, hi, rfl⟩ := List.mem_iff_getElem.mp hd
    exact lookAll_get h (List.getElem?_eq_getElem hi)
/-- what a valid program is -/
theorem prog_ok {c l p s : PyData} (h : progD c l p s = none) : ∃ cs L ds, c = .tuple cs ∧ l = .int L ∧ p = .tuple ds ∧ (∀ d ∈ ds, NoL d ∧ ∃ n i j code, d = .tuple [.str n, .int i, .int j, .tuple code]) ∧ ds.length ≤ 12 := by
  unfold progD at h
  split at h
  · cases h
  rename_i okc
  split at h
  · cases h
  rename_i okl
  split at h
  · cases h
  rename_i okp
  obtain ⟨cs, rfl⟩ : ∃ cs, c = .tuple cs := by cases c <;> first | exact ⟨_, rfl⟩ | exact absurd rfl okc
  obtain ⟨L, rfl⟩ : ∃ L, l = .int L := by cases l <;> first | exact ⟨_, rfl⟩ | exact absurd rfl okl
  obtain ⟨ds, rfl⟩ : ∃ ds, p = .tuple ds := by cases p <;> first | exact ⟨_, rfl⟩ | exact absurd rfl okp
  have h : procsD cs.length L ds s = none := h
  unfold procsD at h
  cases hl : lookAll [] ds with
  | some e => rw [hl] at h; cases h
  | none =>
    rw [hl] at h
    cases hc : codeAll cs.length L (ds.map procName) ds with
    | some e => rw [hc] at h; cases h
    | none =>
      refine ⟨cs, L, ds, rfl, rfl, rfl, fun d hd => ?_, lenD_le (by cases z : lenD (.tuple ds) <;> first | rfl | exact absurd z okp)⟩
      obtain ⟨nn, hn⟩ := looks_get hl d hd
      obtain ⟨n, i, j, code, rfl, _⟩ := look_none hn
      exact ⟨⟨trivial, trivial, trivial, codes_nol hc _ hd, trivial⟩, n, i, j, code, rfl⟩
def byM (ds : List PyData) : List (Key × MV) := ds.map fun d => (Sum.inr (procName d), .i d)
def F_Program_init (ad : Ad) : GF := fun h ms nx ex => ∃ a dx c l p t, ms = [.p a, .i c, .i l, .i p, .i t] ∧ h a = some (.ins ad.C_Program dx []) ∧ Sh c ∧ Sh p ∧ Sh t ∧
  (progD c l p t = none → ∀ b dx', h b = none → b ≠ a → nx (mset (mset h b (.dct (byM (itemsD p)))) a (.ins ad.C_Program dx' [("cells", .i c), ("locks", .i l), ("procs", .i p), ("start", .i t), ("by", .p b)])) (.i .none)) ∧
  (∀ pl wd, progD c l p t = some (pl, wd) → ex (mdel h a) ⟨.ref ad.C_BadProgram, [("word", .str wd), ("place", pl)]⟩)
section
variable {K : PySem.W.Frag} {ad : Ad}
theorem prog_sp : ∀ vs H Q E, spG K 5 (F_Program_init ad) vs H Q E → spProg K ad vs H Q E := by
  rintro vs H Q E ⟨Y, h, ms, nx, ex, -, w, r, ⟨a, dx, c, l, p, t, rfl, ea, shc, shp, sht, kn, ke⟩, hn, hx⟩
  cases r with
  | cons ra r => cases r with
    | cons rc r => cases r with
      | cons rl r => cases r with
        | cons rp r => cases r with
          | cons rt r =>
  cases r
  cases (show _ = V.ref a from ra)
  obtain ⟨u, eH, ro⟩ := w.ob a _ ea
  cases u <;> first | exact ro.elim | skip
  rename_i C' dx' fs
  obtain ⟨rfl, rfl, ro1, _⟩ := ro
  have hfs : fs = [] := by cases fs with
    | nil => rfl
    | cons _ _ => cases ro1
  subst hfs
  refine ⟨a, dx', _, _, _, _, c, l, p, t, rfl, eH, DA.t rc, DA.t rl, DA.t rp, DA.t rt, shc, shp, sht, fun z b H' names k pg nm hb => ?_, fun pl wd z => ?_⟩
  · obtain ⟨⟨dx2, o1⟩, o2, _, _⟩ := pg
    obtain ⟨cs, L, ds, rfl, rfl, rfl, hds, _⟩ := prog_ok z
    have hbn : h b = none := w.noneH hb
    have hba : b ≠ a := fun q => by rw [q, ea] at hbn; cases hbn
    have e2 : Ext h H (mset (mset h b (.dct (byM ds))) a (.ins ad.C_Program dx2 [("cells", .i (.tuple cs)), ("locks", .i (.int L)), ("procs", .i (.tuple ds)), ("start", .i t), ("by", .p b)])) H' := fun x u x1 x2 => by
      have xa : x ≠ a := fun q => by rw [q, ea] at x2; cases x2
      have xb : x ≠ b := fun q => by rw [q, hb] at x1; cases x1
      exact ⟨k x u x1 xa, by rw [mset_ne xa, mset_ne xb]; exact x2⟩
    have yab : ∀ x, Y x → x ≠ a ∧ x ≠ b := fun x y => ⟨fun q => (by have := (w.ya x y).1; rw [q, ea] at this; cases this), fun q => (by obtain ⟨_, xs, x2⟩ := w.ya x y; rw [q, hb] at x2; cases x2)⟩
    have w0 : ∀ x, Ft (mset (mset h b (.dct (byM ds))) a (.ins ad.C_Program dx2 [("cells", .i (.tuple cs)), ("locks", .i (.int L)), ("procs", .i (.tuple ds)), ("start", .i t), ("by", .p b)])) Y x → ∀ xs, H' x ≠ some (.tup xs) := fun x f xs e => by
      by_cases xa : x = a
      · rw [xa, o1] at e; cases e
      by_cases xb : x = b
      · rw [xb, o2] at e; cases e
      rcases f with f | f
      · rw [mset_ne xa, mset_ne xb] at f
        cases q : h x with
        | none => exact f q
        | some o =>
          obtain ⟨u, z1, z2⟩ := w.ob x o q
          rw [k x u z1 xa] at e
          cases e
          cases o <;> exact z2.elim
      · obtain ⟨_, ys, z1⟩ := w.ya x f
        rw [k x _ z1 xa] at e
        cases e
    have hN : ∀ x xs, H' x = some (.tup xs) → ¬ Ft (mset (mset h b (.dct (byM ds))) a (.ins ad.C_Program dx2 [("cells", .i (.tuple cs)), ("locks", .i (.int L)), ("procs", .i (.tuple ds)), ("start", .i t), ("by", .p b)])) Y x := fun x xs e f => w0 x f xs e
    have w2 : WR K Y H' (mset (mset h b (.dct (byM ds))) a (.ins ad.C_Program dx2 [("cells", .i (.tuple cs)), ("locks", .i (.int L)), ("procs", .i (.tuple ds)), ("start", .i t), ("by", .p b)])) := by
      refine ⟨fun x o q => ?_, fun x y => ?_⟩
      · by_cases xa : x = a
        · subst xa
          rw [mset_same] at q
          cases q
          exact ⟨_, o1, rfl, rfl, rfl, .cons (rc.ext e2) (.cons (rl.ext e2) (.cons (rp.ext e2) (.cons (rt.ext e2) (.cons (show VR _ _ _ _ (.p b) from rfl) .nil))))⟩
        · rw [mset_ne xa] at q
          by_cases xb : x = b
          · subst xb
            rw [mset_same] at q
            cases q
            refine ⟨_, o2, ?_, ?_⟩
            · rw [List.map_map]
              show names.map (fun x => (Sum.inr x.1 : Key)) = (ds.map fun d => ((Sum.inr (procName d) : Key), MV.i d)).map Prod.fst
              rw [List.map_map]
              have := congrArg (List.map (fun n => (Sum.inr n : Key))) nm.fst
              rw [List.map_map, List.map_map] at this
              exact this
            · have := (nolNs hN nm.snd (NoLs.of fun d hd => (hds d hd).1)).vrs
              have e4 : (names.map fun x => ((Sum.inr x.1 : Key), x.2)).map Prod.snd = names.map (·.2) := by rw [List.map_map]; rfl
              have e5 : (byM ds).map Prod.snd = ds.map MV.i := by unfold byM; rw [List.map_map]; rfl
              rw [e4, e5]
              exact this
          · rw [mset_ne xb] at q
            obtain ⟨u, z1, z2⟩ := w.ob x o q
            exact ⟨u, k x u z1 xa, z2.ext e2⟩
      · obtain ⟨xa, xb⟩ := yab x y
        obtain ⟨z1, xs, z2⟩ := w.ya x y
        exact ⟨by rw [mset_ne xa, mset_ne xb]; exact z1, xs, k x _ z2 xa⟩
    exact hn _ _ _ H' (kn z b dx2 hbn hba) e2 w2 DA.non
  · intro d H' v k ed D
    have ha : mdel h a a = none := if_pos rfl
    have hd : ∀ x, h x = none → mdel h a x = none := fun x z => by unfold mdel; split <;> first | rfl | exact z
    have e2 : Ext h H (mdel h a) H' := fun x u x1 x2 => by
      have xa : x ≠ a := fun q => by rw [q, ea] at x2; cases x2
      exact ⟨k x u x1 xa, hd x x2⟩
    have w2 : WR K Y H' (mdel h a) := by
      refine ⟨fun x o q => ?_, fun x y => ?_⟩
      · have xa : x ≠ a := fun z => by rw [z, ha] at q; cases q
        have q : h x = some o := by rw [← q]; exact (if_neg xa).symm
        obtain ⟨u, z1, z2⟩ := w.ob x o q
        exact ⟨u, k x u z1 xa, z2.ext e2⟩
      · have xa : x ≠ a := fun q => by have := (w.ya x y).1; rw [q, ea] at this; cases this
        obtain ⟨z1, xs, z2⟩ := w.ya x y
        exact ⟨hd x z1, xs, k x _ z2 xa⟩
    exact hx _ ⟨.ref ad.C_BadProgram, [("word", .str wd), ("place", pl)]⟩ _ _ H' (ke pl wd z) e2 w2 ⟨rfl, .inr ⟨d, _, rfl, ed, rfl, .cons (.str _) (.cons D .nil)⟩⟩
end
section
variable {P : Program} {w : World} {K : PySem.W.Frag} {mg : Str → Option Value} {base : Heap} {ad : Ad}
theorem okG_Program_init (T : Txt K mg ad) (U : Funs K ad) : Fc P w K mg base (L2.CX P w) 7 ad.Program_init ["self", "cells", "locks", "procs", "start"] (spG K 5 (F_Program_init ad)) := (ok_Program_init T U).imp prog_sp
end
end My

set_option Elab.async false
set_option linter.all false
set_option maxRecDepth 100000
set_option maxHeartbeats 4000000
/-! ## try .. except X, the suite reading no slot -/
namespace My
open PySem L2
theorem EnvR.nones {K : PySem.W.Frag} {H : Hp} {N : Addr → Prop} : ∀ σ : St, EnvR K H N σ (σ.map fun _ => none)
  | [] => .nil
  | _ :: σ => .skip (EnvR.nones σ)
@[simp] def gsTry (cm : Value → Bool → Prop) (gb gu : GS) : GS := fun h Γ nx rt ex => gb h Γ nx rt fun h' x => ∃ b, cm x.cls b ∧ (b = true → ∀ Γ', gu h' Γ' (fun _ _ => False) rt XF) ∧ (b = false → ex h' x)
/-- the class that is caught -/
def cm1 (a : Addr) : Value → Bool → Prop := fun cls b => cls = .ref a ∧ b = true
section
variable {X : Cx} {W : WX} {x : Str} {c : Value} {body suite : List Stmt} {b₀ : Stmt} {np pos pos' : Pos} {gb gu : GS} {cm : Value → Bool → Prop}
theorem sd_try_only (hs : X.stack = X.env :: X.outer) (hf : X.env.frame = some X.env.locals) (hc : L2.Names X x c) (tk : Takes X W) (hcm : ∀ cls b, cm cls b → PySem.W.exmOne X.K cls c = some b)
    (hb : ∀ (W' : WX) (pn : List (Addr × Obj)) (xe : Value → Shared → Prop), Takes (X.tr pn xe) W' → PassesOwn (model X.prog X.w) X.A X.env xe → PSs (X.tr pn xe) body (tGS X.K W' gb))
    (hsu : ∀ (a : Addr) (oe : Obj) (cls : Value) (d : Option Addr) (pn : List (Addr × Obj)), Zc cls d oe → (∃ vs, oe.data = .fields vs) → PSs (X.suite a ((a, oe) :: pn)) (b₀ :: suite) (tGS X.K W0 gu)) :
    PS X (.Try body [.ExceptHandler (some (.Name x np)) none (b₀ :: suite) pos'] [] [] pos) (tGS X.K W (gsTry cm gb gu)) :=
  (ps_try_only (tb := fun W' => tGS X.K W' gb) (ts := fun _ _ _ => tGS X.K W0 gu) hs hf hc tk hb hsu).imp fun D σ H ⟨Y, h, Γ, nx, rt, ex, w, en, hg, hn, hr, hx⟩ =>
    ⟨Y, h, Γ, nx, rt, _, w, en, hg, hn, hr, fun σ' h' x cls d H' ⟨b, q1, q2, q3⟩ e w' xr => by
      obtain ⟨ec, xr2⟩ := id xr
      refine ⟨b, hcm cls b (by rw [ec]; exact q1), fun hb a ha => ?_, fun hb => hx σ' h' x cls d H' (q3 hb) e w' xr⟩
      exact ⟨Y, h', _, _, rt, XF, w', EnvR.nones σ', q2 hb _, fun _ _ _ _ z => z.elim, fun h2 m v H2 q e2 w2 r2 => hr h2 m v H2 q (e.trans e2) w2 r2, fun _ _ _ _ _ _ z => z.elim⟩⟩
end
end My

set_option Elab.async false
set_option linter.all false
set_option maxRecDepth 100000
set_option maxHeartbeats 4000000
/-! ## slots told by facts -/
namespace My
open PySem L2
theorem st_len {v : Option MV} : ∀ {Γ : Gam} {n : Nat}, (st Γ n v).length = Γ.length
  | [], _ => rfl
  | _ :: r, 0 => rfl
  | x :: r, n + 1 => by show (st r n v).length + 1 = r.length + 1; rw [st_len]
theorem lk_same {v : Option MV} : ∀ {Γ : Gam} {n : Nat}, n < Γ.length → lk (st Γ n v) n = v
  | [], _, h => absurd h (Nat.not_lt_zero _)
  | _ :: r, 0, _ => rfl
  | x :: r, n + 1, h => lk_same (Γ := r) (Nat.lt_of_succ_lt_succ h)
theorem lk_ne {v : Option MV} : ∀ {Γ : Gam} {n j : Nat}, j ≠ n → lk (st Γ n v) j = lk Γ j
  | [], _, _, _ => rfl
  | m :: r, 0, 0, h => absurd rfl h
  | m :: r, 0, j + 1, _ => rfl
  | m :: r, n + 1, 0, _ => rfl
  | m :: r, n + 1, j + 1, h => lk_ne (Γ := r) (fun e => h (by rw [e]))
theorem frL_nil {b : GB} {body : GS} {kc : MH → Prop} {nx : MH → Gam → Prop} {rt : MH → MV → Prop} {ex : GX} {h : MH} {Γ : Gam} (a : kc h) (q : nx h Γ) : frL b body kc nx rt ex [] h Γ := ⟨a, q⟩
/-- a list is taken apart -/
@[simp] def bLst (is : List Nat) : GB := fun h Γ r => match r with
  | [.i (.list ds)] => setAll Γ is (ds.map .i)
  | [.p a] => (match h a with
    | some (.lst ms) => setAll Γ is ms
    | _ => none)
  | _ => none
theorem tg_lst {K : PySem.W.Frag} {vs is : List Nat} {n : Nat} (hn : is.length = n := by rfl) (hv : ∀ i ∈ is, i ∈ vs := by decide) : TgOk K vs (L2.gLst K n (gNames is)) (bLst is) := fun Y h H σ Γ v r Γ' Q e w en rr k => by
  unfold bLst at e
  split at e
  · obtain ⟨a, xs, rfl, s1, _, s2⟩ := DA.lstV rr
    exact ⟨a, xs, rfl, SqL.of s1, by rw [← hn, ← setAll_len e, List.length_map]; exact s2.length, names_ok hv e en s2.vrs k⟩
  · rename_i a
    split at e
    · rename_i ms ea
      obtain ⟨xs, s1, s2⟩ := w.lstAt ea
      exact ⟨a, xs, rr, SqL.of s1, by rw [← hn, ← setAll_len e]; exact s2.length, names_ok hv e en s2 k⟩
    · cases e
  · cases e
end My

set_option Elab.async false
set_option linter.all false
set_option maxRecDepth 100000
set_option maxHeartbeats 4000000
/-! ## a law's first statement: draws = _law_draws(script), and from there the small world -/
namespace My
open PySem L2
def spDraws (K : PySem.W.Frag) : Sp := fun vs H Q _ => ∃ (a : Addr) (ns : List Int), vs = [.ref a] ∧ SqL K H a (ns.map V.int) ∧
  ∀ (p q : Addr) (H' : Hp), H' p = some (.lst [.ref q, .int 0, .int 0, .int 1]) → H' q = some (.lst (ns.map V.int)) → q ≠ p → Q (.ref p) H'
def spLaw (K : PySem.W.Frag) : Sp := fun vs H Q _ => ∃ (a : Addr) (ns : List Int), vs = [.ref a] ∧ SqL K H a (ns.map V.int) ∧ ns.length ≤ 63 ∧ ∀ H', Q (.bl true) H'
def h0 (p : Addr) (ns : List Int) : MH := mset (fun _ => none) p (.lst [.i (.list (ns.map .int)), .i (.int 0), .i (.int 0), .i (.int 1)])
theorem h0_dr {p : Addr} {ns : List Int} : DrG (h0 p ns) p := ⟨ns, 0, 0, 1, mset_same, by decide, by omega, by decide, by decide⟩
section
variable {P : Program} {w : World} {K : PySem.W.Frag} {mg : Str → Option Value} {base : Heap} {ad : Ad}
theorem okS_law_draws (T : Txt K mg ad) (U : Funs K ad) : Fc P w K mg base CX0 1 ad.law_draws ["script"] (spDraws K) := by
  refine Fc.ok U.F_law_draws sc_law_draws (fun vs H Q E h => ?_) (fun cdv A outer s f H vs Q E hr h => ?_)
  · obtain ⟨a, ns, rfl, _⟩ := h
    rfl
  · obtain ⟨a, ns, rfl, hS, k⟩ := h
    refine ⟨_, (pss_one (ps_ret (pe_lst (pa_cons (pe_callTy call_list_of (by rfl) T.b_list (by decide +kernel) (pa_cons (pv 0) pa_nil)) (pa_cons pe_int (pa_cons pe_int (pa_cons pe_int pa_nil))))))), ?_⟩
    refine ⟨_, rfl, a, _, rfl, .inl hS, fun q hq => ⟨(by show 4 ≤ sizeLine; decide), fun p hp => ?_⟩⟩
    have hne : q ≠ p := ne_of_none upd_same hp
    exact k p q _ upd_same (by rw [upd_ne hne]; exact upd_same) hne
theorem h0_wr {H : Hp} {p q : Addr} {ns : List Int} (e1 : H p = some (.lst [.ref q, .int 0, .int 0, .int 1])) (e2 : H q = some (.lst (ns.map V.int))) (hn : q ≠ p) : WR K (fun _ => False) H (h0 p ns) := by
  refine ⟨fun a o e => ?_, fun _ z => z.elim⟩
  by_cases ha : a = p
  · subst ha
    unfold h0 at e
    rw [mset_same] at e
    cases e
    have hf : ¬ Ft (h0 a ns) (fun _ => False) q := Ft.mk (mset_ne hn) (fun z => z)
    exact ⟨_, e1, (.cons (m := .i _) (DA.lst e2 hf (DAs.ints ns)) (.cons (m := .i _) (DA.int 0) (.cons (m := .i _) (DA.int 0) (.cons (m := .i _) (DA.int 1) .nil))) : VRs K H _ _ _)⟩
  · unfold h0 at e
    rw [mset_ne ha] at e; cases e
/-- into the small world, behind the first statement -/
theorem law_enter {gs : GS} {H : Hp} {p q : Addr} {ns : List Int} {σ : St} {Q : VK} (e1 : H p = some (.lst [.ref q, .int 0, .int 0, .int 1])) (e2 : H q = some (.lst (ns.map V.int))) (hn : q ≠ p) (k : ∀ H', Q (.bl true) H')
    (hlaw : gs (h0 p ns) (st (σ.map fun _ => none) 1 (some (.p p))) (fun _ _ => False) (fun _ m => m = .i (.bool true)) XF) : tGS K W0 gs { nx := fun _ H' => Q .non H', rt := Q } (σ.set 1 (some (.ref p))) H :=
  ⟨fun _ => False, h0 p ns, _, fun _ _ => False, fun _ m => m = .i (.bool true), XF, h0_wr e1 e2 hn, EnvR.set (m := .p p) rfl (EnvR.nones _), hlaw, fun _ _ _ _ z => z.elim, fun h' m v H' e _ _ r => by subst e; rw [DA.boolV r]; exact k H', fun _ _ _ _ _ _ z => z.elim⟩
end
end My

set_option Elab.async false
set_option linter.all false
set_option maxRecDepth 100000
set_option maxHeartbeats 4000000
namespace My
open PySem L2
section
variable {P : Program} {w : World} {K : PySem.W.Frag} {mg : Str → Option Value} {base : Heap} {ad : Ad}
-- is_program slots: 0 value; level 9
theorem sc_is_program : FnScope ["value"] ["value"] (defScope s_is_program) := ⟨rfl, rfl, rfl, by decide +kernel, rfl, by decide +kernel, by decide +kernel⟩
def B_is_program (ad : Ad) : GS :=
      (gsC (gsIf (qOr (qNot (qB (gIsi isT (gV 0)))) (qB (gOp fNe (gLen (gV 0)) (gC (.int 4))))) (gsRet (gC (.bool false))) gsN)
      (gsC (gsTry (cm1 ad.C_BadProgram) (gsExpr (gMake ad.C_Program (F_Program_init ad) (gaC (gIx (gV 0) (gC (.int 0))) (gaC (gIx (gV 0) (gC (.int 1))) (gaC (gIx (gV 0) (gC (.int 2))) (gaC (gIx (gV 0) (gC (.int 3))) gaN)))))) (gsRet (gC (.bool false))))
      (gsRet (gC (.bool true)))))
def R_is_program (ad : Ad) : GF := defG0 ["value"] (B_is_program ad)
theorem okR_is_program (T : Txt K mg ad) (U : Funs K ad) : Fc P w K mg base CX0 9 ad.is_program ["value"] (spG K 1 (R_is_program ad)) := by
  have G_Program_init := okG_Program_init (P := P) (w := w) (base := base) T U
  exact Fc.okG U.F_is_program sc_is_program fun cdv A outer s f H E hr =>
      (sd_cons (sd_if (PW.pt (qd_or (qd_not (qd_val (pd_isi k_tup (by rfl) T.b_isinstance (by decide +kernel) (pd_v 0) (pe_bltn (v := .ty "tuple") (by rfl) T.b_tuple (by decide +kernel) rfl)))) (qd_or1 (qd_cmp (op_neA hr.units) dat_ne (pd_len (by rfl) T.b_len (by decide +kernel) (pd_v 0)) pd_int (nomark _))))) (sd_one (sd_ret pd_bl)) sd_nil)
      (sd_cons (sd_try_only rfl rfl ⟨rfl, by decide, Or.inl T.g_BadProgram⟩ takes0 (fun cls b z => by rw [z.1, z.2]; exact T.ex_BadProgram_BadProgram) (fun W pn xe tk po => (sd_one (sd_expr (pd_make T.mk_Program G_Program_init tk (hr.mono (by decide)) rfl T.g_Program (pd_cons (pd_ix (pd_v 0) pd_int) (pd_cons (pd_ix (pd_v 0) pd_int) (pd_cons (pd_ix (pd_v 0) pd_int) (pd_cons (pd_ix (pd_v 0) pd_int) pd_nil)))))))) (fun a oe cls d pn hz hf => (sd_one (sd_ret pd_bl))))
      (sd_one (sd_ret pd_bl))))

end
def progB (d : PyData) : Bool :=
  match d with
  | .tuple [c, l, p, s] => (progD c l p s).isNone
  | _ => false
def F_is_program (_ : Ad) : GF := fun h ms nx _ => ∃ d, ms = [.i d] ∧ Sh d ∧ fitD d = true ∧ ∀ h', (∀ b o, h b = some o → h' b = some o) → nx h' (.i (.bool (progB d)))
theorem isp_imp {ad : Ad} : ∀ h ms nx ex, ms.length = 1 → F_is_program ad h ms nx ex → R_is_program ad h ms nx ex := by
  rintro h ms nx ex - ⟨d, rfl, sh, fit, k⟩
  have same : ∀ b o, h b = some o → h b = some o := fun _ _ e => e
  cases d with
  | none => exact k h same
  | bool _ => exact k h same
  | int _ => exact k h same
  | str _ => exact k h same
  | list _ => exact k h same
  | dict _ => cases fit
  | tuple ds =>
    by_cases h4 : ds.length = 4
    · obtain ⟨c, l, p, s, rfl⟩ := four h4
      intro x dx hx hdx ne
      refine ⟨x, dx, c, l, p, s, rfl, mset_same, sh.1, sh.2.2.1, sh.2.2.2.1, fun z b dx' hb hba => ⟨trivial, ?_⟩, fun pl wd z => ⟨true, ⟨rfl, rfl⟩, fun _ Γ' => ?_, fun z => Bool.noConfusion z⟩⟩
      · have e : progB (.tuple [c, l, p, s]) = true := by show (progD c l p s).isNone = true; rw [z]; rfl
        have hb' : h b = none := by rw [mset_ne hba] at hb; exact hb
        have := k (mset (mset (mset h x (.ins ad.C_Program dx [])) b (.dct (byM (itemsD p)))) x (.ins ad.C_Program dx' [("cells", .i c), ("locks", .i l), ("procs", .i p), ("start", .i s), ("by", .p b)])) fun y o q => by
          have y1 : y ≠ x := fun z => by rw [z, hx] at q; cases q
          have y2 : y ≠ b := fun z => by rw [z, hb'] at q; cases q
          rw [mset_ne y1, mset_ne y2, mset_ne y1]; exact q
        rw [e] at this
        exact this
      · have e : progB (.tuple [c, l, p, s]) = false := by show (progD c l p s).isNone = false; rw [z]; rfl
        have := k (mdel (mset h x (.ins ad.C_Program dx [])) x) fun y o q => by
          have y1 : y ≠ x := fun z => by rw [z, hx] at q; cases q
          unfold mdel
          rw [if_neg y1, mset_ne y1]; exact q
        rw [e] at this
        exact this
    · have e : progB (.tuple ds) = false := by
        match ds, h4 with
        | [], _ => rfl
        | [_], _ => rfl
        | [_, _], _ => rfl
        | [_, _, _], _ => rfl
        | [_, _, _, _], h4 => exact absurd rfl h4
        | _ :: _ :: _ :: _ :: _ :: _, _ => rfl
      have := k h same
      rw [e] at this
      refine (show (if (!decide ((ds.length : Int) = (4 : Int))) = true then _ else _) from ?_)
      rw [if_pos (by rw [decide_eq_false (by omega)]; rfl)]
      exact this
section
variable {P : Program} {w : World} {K : PySem.W.Frag} {mg : Str → Option Value} {base : Heap} {ad : Ad}
theorem ok_is_program (T : Txt K mg ad) (U : Funs K ad) : Fc P w K mg base CX0 9 ad.is_program ["value"] (spG K 1 (F_is_program ad)) := (okR_is_program T U).impG isp_imp
end
end My

set_option Elab.async false
set_option linter.all false
set_option maxRecDepth 100000
set_option maxHeartbeats 4000000
namespace My
open PySem PySem.Spec PySem.Calls PyProof.Rows PySem.W
section
variable {prog : Program} {w : World} {A : Around} {E : Value → Shared → Prop} {s : Shared} {K : Frag} {x D : Addr} {ox : Obj} {od : Option Obj}
/-- a data descriptor of the class is found ahead of the own dict -/
theorem fo_dat {C : Addr} {name : Str} {a g : Value} (hc : (clsIn K C).isSome = true) (ha : findIn K (.ref C) name = some (some a)) (hg : specialIn K a "__get__" = some (some g)) (ht : takesIn K a = some true) : findObj K C od name = some (.bind g a) := by
  obtain ⟨cd, hc'⟩ := Option.isSome_iff_exists.mp hc
  unfold findObj
  rw [hc', Option.bind_some, ha, Option.bind_some]; simp [hg, ht]
theorem cls_of_exc {Q : Option Value → Shared → Prop} (C : L2.ExcC K D) (X : K.In s.heap) (I : InstAt s.heap x ox D od) (h : Q (some (.ref D)) { s with toks := s.toks + 1 }) : wpAny (model prog w) A (getAttr? (.ref x) "__class__") Q E s := by
  obtain ⟨hga, hgt, hsub, hdct, ha, hn, htk, hm⟩ := C
  have fnd : findObj K D od "__class__" = some (.bind (.builtin "getset_descriptor.__get__") (.builtin "object.__class__")) := fo_dat (by obtain ⟨cd, hc, _⟩ := any_some hdct; rw [hc]; rfl) ha hn htk
  obtain ⟨hp, g, d, t, os⟩ := s
  have M0 := I.type (M := model prog w); have M1 := looks_findIn (M := model prog w) X hga
  have M2 := looks_findIn (M := model prog w) X hgt; have M3 := looks_find (M := model prog w) X I fnd
  have isB : Looks (model prog w) hp (isInstance (.ref x) (.type "BaseException")) true := M0.andThen (looks_subIn X hsub)
  have n0 : (false && onTheHeap (Value.builtin "BaseException.__getattribute__")) = false := rfl
  have n2 : (Value.builtin "BaseException.__getattribute__" == Value.builtin "object.__getattribute__") = false := by decide +kernel
  have n1 : (onTheHeap (Value.ref D) && Value.builtin "BaseException.__getattribute__" == Value.builtin "object.__getattribute__") = false := by rw [n2]; rfl
  unfold getAttr? getAttrBy? getAttrBy
  refine wpAny_bind (wpAny_mkText (wpAny_bind (wpAny_attempt (wpAny_holding (wpAny_bind (M0.at (wpAny_bind (M1.at ?_))))))))
  show wpAny _ _ (if (onTheHeap (Value.ref D) && Value.builtin "BaseException.__getattribute__" == Value.builtin "object.__getattribute__") = true then _ else _) _ _ _
  rw [n1, if_neg Bool.false_ne_true]; unfold getAttrByItsOwn hookBefore
  refine wpAny_bind ?_; rw [if_pos (show onTheHeap (Value.ref D) = true from rfl)]
  refine M2.at ?_; refine wpAny_bind (wpAny_attempt (wpAny_holding ?_)); unfold callGetattribute
  rw [n0, if_neg Bool.false_ne_true]; unfold boundAndCalled
  rw [PySem.F.excAttr_ValueError.ga.bind (.ref x)]; refine wpAny_bind (wpAny_pure ?_)
  show wpAny _ _ (call (.builtin "BaseException.__getattribute__") [.ref x, .str "__class__" t]) _ _ _
  refine wpAny_call (codeAny_call_builtin PySem.F.excAttr_ValueError.ga.plain PySem.F.entry_bexc_ga ?_)
  refine @check_slot (model prog w) _ _ ⟨hp, g, d, t + 1, os⟩ "BaseException.__getattribute__" "BaseException" "__getattribute__" (.ref x) [.str "__class__" t] [] _ (by decide +kernel) (by decide +kernel) isB (PySem.F.args_bexc_ga (.ref x) (.str "__class__" t)) ?_
  unfold Builtin.«object.__getattribute__»; refine wpAny_bind (wpAny_of_eq (a := ((Value.ref x : Value), [Value.str "__class__" t])) (by first | rfl | (simp only [slotArgs]; rfl)) ?_)
  refine wpAny_bind (wpAny_pure (wpAny_bind (M0.at (wpAny_bind (M3.at ?_)))))
  show wpAny _ _ (holding [Value.builtin "object.__class__"] (call (.builtin "getset_descriptor.__get__") [.builtin "object.__class__", .ref x, .ref D]) >>= ret) _ _ _
  refine wpAny_bind (wpAny_holding (wpAny_call (class_get (s := ⟨hp, g, d, t + 1, os⟩) (ox := ox) (od := od) X I hm ?_)))
  refine wpAny_pure ?_; show wpAny _ _ (handedOut (.ref D)) _ _ _
  rw [handedOut_of (v := .ref D) rfl]
  first
    | exact wpAny_pure (wpAny_pure h)
    | exact wpAny_pure h
    | exact wpAny_pure (wpAny_bind (wpAny_pure (wpAny_pure h)))
theorem kitx_excD (C : L2.ExcC K D) : KitX K (.ref x) (.ref D) (fun h => InstAt h x ox D od) where
  ty := fun _ _ _ I => I.type
  it := fun _ _ X _ => by
    obtain ⟨cdD, hcD, _⟩ := any_some C.hd
    unfold clsIn at hcD; split at hcD
    · rename_i c' d' cd' sl' ho
      intro A' Q' E' s' k q; unfold isType loadHead
      exact wpAny_bind (wpAny_loadPart (k _ _ (X _ _ ho)) (wpAny_pure q))
    · cases hcD
  ne := (PySem.W.handS_kitx_exc (x := x) (ox := ox) C.hg C.hk C.hs C.hd C.ha C.hn C.ht C.hm).ne
  ca := fun X I k => cls_of_exc C X I k
end
end My
namespace My
open PySem L2
/-- isinstance(e, c), e the caught error with an own dict, its class told at the reading -/
def rIsE3 (K : PySem.W.Frag) (cls : Value) (d : Option Addr) (a : Addr) : List V → Hp → VK → Prop := fun xs H Q => ∃ (D dd : Addr) (fs : List (Str × V)) (c : V) (cv : Value) (b : Bool), cls = .ref D ∧ ExcC K D ∧ d = some dd ∧ H dd = some (.xd fs) ∧
  xs = [.ref a, c] ∧ (∀ u, RelV c u → u = cv) ∧ PySem.W.kitOne K (.ref D) cv = some b ∧ Q (.bl b) H
theorem call_isE3 {X : Cx} {a : Addr} {oe : Obj} {cls : Value} {d : Option Addr} {pn : List (Addr × Obj)} (hz : Zc cls d oe) (hf : ∃ vs, oe.data = .fields vs) : CallR (X.suite a ((a, oe) :: pn)) (.builtin "isinstance") (rIsE3 X.K cls d a) := by
  intro pins s σ H xs us Q I r h
  obtain ⟨D, dd, fs, c, cv, b, rfl, C, rfl, ed, rfl, hcv, e, q⟩ := h
  cases r with
  | cons rx rr =>
    cases rr with
    | cons rt rr =>
      cases rr
      cases rx
      have ec := hcv _ rt
      subst ec
      have hget := (I.pin (a, oe) (List.mem_append_left _ List.mem_cons_self)).1
      obtain ⟨vs, hv⟩ := hf
      obtain ⟨mA, hns, hr⟩ : ObjOk X.prog X.w H s.heap dd (.xd fs) := I.hok dd _ ed
      obtain ⟨od, ho, hl⟩ := lookIn_ns hns
      have J : PySem.W.InstAt s.heap a oe D (some od) := ⟨hget, hz.1, (by unfold PySem.W.notCls; rw [hv] <;> rfl), (by rw [hz.2]; exact ho)⟩
      exact PySem.W.kia_one (kitx_excD C) I.kIn J e (fun z => nomatch z) fun tk => ⟨.bl b, H, I.kept (t' := tk) fun _ _ z => z, rfl, q⟩
end My

set_option Elab.async false
set_option linter.all false
set_option maxRecDepth 100000
set_option maxHeartbeats 4000000
/-! ## try .. except X as e: return EXPR -/
namespace My
open PySem L2
def XR2 (K : PySem.W.Frag) (H : Hp) (N : Addr → Prop) (x : Ex) (cls : Value) (d : Option Addr) : Prop :=
  cls = x.cls ∧ ∃ dd fs, d = some dd ∧ H dd = some (.xd fs) ∧ fs.map Prod.fst = x.fs.map Prod.fst ∧ DAs K H N (fs.map Prod.snd) (x.fs.map Prod.snd)
abbrev GX1 := Ex → (PyData → Prop) → Prop
def tXE (K : PySem.W.Frag) (a : Addr) (cls : Value) (d : Option Addr) (i : Nat) (g : GX1) : TE := fun σ H Q => ∃ (Y : Addr → Prop) (h : MH) (x : Ex) (nx : PyData → Prop), WR K Y H h ∧ XR2 K H (Ft h Y) x cls d ∧
  (∃ σ0 : St, σ = σ0.set i (some (.ref a))) ∧ g x nx ∧ ∀ dt v H', nx dt → Ext h H h H' → WR K Y H' h → DA K H' (Ft h Y) v dt → Q v H'
section
variable {X : Cx} {a : Addr} {cls : Value} {d : Option Addr} {i : Nat} {e : Expr} {g : GE}
theorem pxe_g (he : PE X e (tG X.K W0 g)) : PE X e (tXE X.K a cls d i (fun _ nx => ∀ h Γ, g h Γ (fun h' m => h' = h ∧ ∃ dt, m = .i dt ∧ nx dt) XF)) :=
  he.imp fun σ H Q ⟨Y, h, x, nx, w, xr, es, hg, hn⟩ => ⟨Y, h, σ.map fun _ => none, _, _, w, EnvR.nones σ, hg h _, fun h' m v H' q e w' r => by
    obtain ⟨rfl, dt, rfl, q⟩ := q
    exact hn dt v H' q e w' r, fun _ _ _ _ _ z => z.elim⟩
@[simp] def xC (dt : PyData) : GX1 := fun _ nx => nx dt
@[simp] def xFld (C : Value → Prop) (n : Str) : GX1 := fun x nx => C x.cls ∧ opt (x.fs.lookup n) nx
@[simp] def xIs (K : PySem.W.Frag) (c : Addr) : GX1 := fun x nx => ∃ D b, x.cls = .ref D ∧ ExcC K D ∧ PySem.W.kitOne K (.ref D) (.ref c) = some b ∧ nx (.bool b)
@[simp] def xIf (t f g : GX1) : GX1 := fun x nx => t x fun dt => (dt = .bool true → f x nx) ∧ (dt = .bool false → g x nx) ∧ (dt = .bool true ∨ dt = .bool false)
abbrev GXA := Ex → (List PyData → Prop) → Prop
@[simp] def xaN : GXA := fun _ nx => nx []
@[simp] def xaC (g : GX1) (ga : GXA) : GXA := fun x nx => g x fun dt => ga x fun ds => nx (dt :: ds)
@[simp] def xLst (ga : GXA) : GX1 := fun x nx => ga x fun ds => nx (.list ds)
@[simp] def xTup (ga : GXA) : GX1 := fun x nx => ga x fun ds => nx (.tuple ds)
def tXA (K : PySem.W.Frag) (a : Addr) (cls : Value) (d : Option Addr) (i n : Nat) (g : GXA) : TA := fun σ H Q => ∃ (Y : Addr → Prop) (h : MH) (x : Ex) (nx : List PyData → Prop), WR K Y H h ∧ XR2 K H (Ft h Y) x cls d ∧
  (∃ σ0 : St, σ = σ0.set i (some (.ref a))) ∧ g x nx ∧ ∀ ds vs H', nx ds → ds.length = n → Ext h H h H' → WR K Y H' h → DAs K H' (Ft h Y) vs ds → Q vs H'
def tXT (K : PySem.W.Frag) (a : Addr) (cls : Value) (d : Option Addr) (i : Nat) (g : GX1) : TT := fun σ H Q => ∃ (Y : Addr → Prop) (h : MH) (x : Ex) (nx : PyData → Prop), WR K Y H h ∧ XR2 K H (Ft h Y) x cls d ∧
  (∃ σ0 : St, σ = σ0.set i (some (.ref a))) ∧ g x nx ∧ ∀ b H', nx (.bool b) → Ext h H h H' → WR K Y H' h → Q b H'
theorem WR.xdN {K : PySem.W.Frag} {Y : Addr → Prop} {H : Hp} {h : MH} (w : WR K Y H h) {dd : Addr} {fs : List (Str × V)} (e : H dd = some (.xd fs)) : h dd = none := by
  cases q : h dd with
  | none => rfl
  | some o =>
    obtain ⟨u, z, r⟩ := w.ob dd o q
    rw [e] at z; cases z; cases o <;> exact r.elim
theorem VRs_dext {K : PySem.W.Frag} {Y : Addr → Prop} {H H' : Hp} {h h' : MH} (e : Ext h H h' H') : ∀ {vs : List V} {ds : List PyData}, DAs K H (Ft h Y) vs ds → DAs K H' (Ft h' Y) vs ds
  | _, _, .nil => .nil
  | _, _, .cons (d := dt) a s => .cons (VR.ext (m := .i dt) e a) (VRs_dext e s)
theorem XR2.ext {K : PySem.W.Frag} {Y : Addr → Prop} {H H' : Hp} {h h' : MH} {x : Ex} (w : WR K Y H h) (r : XR2 K H (Ft h Y) x cls d) (e : Ext h H h' H') : XR2 K H' (Ft h' Y) x cls d := by
  obtain ⟨a, dd, fs, b, c, k, v⟩ := r
  exact ⟨a, dd, fs, b, (e dd _ c (w.xdN c)).1, k, VRs_dext e v⟩
variable {oe : Obj} {pn : List (Addr × Obj)} {g1 g2 g3 : GX1} {e1 e2 : Expr} {es : List Expr} {n : Nat} {ga : GXA}
theorem pxe_of {dt : PyData} {v : V} (he : PE X e (tC v)) (hd : ∀ H N, DA X.K H N v dt) : PE X e (tXE X.K a cls d i (xC dt)) :=
  he.imp fun σ H Q ⟨Y, h, x, nx, w, xr, es, hg, hn⟩ => hn dt v H hg (.refl _ _) w (hd _ _)
theorem pxa_nil : PA X [] (tXA X.K a cls d i 0 xaN) := pa_nil.imp fun σ H Q ⟨Y, h, x, nx, w, xr, es, hg, hn⟩ => hn [] [] H hg rfl (.refl _ _) w .nil
theorem pxa_cons (he : PE X e (tXE X.K a cls d i g1)) (ha : PA X es (tXA X.K a cls d i n ga)) (hs : starEach (e :: es) X.env = (false, eval e X.env) :: starEach es X.env := by rfl) : PA X (e :: es) (tXA X.K a cls d i (n + 1) (xaC g1 ga)) :=
  (pa_cons he ha hs).imp fun σ H Q ⟨Y, h, x, nx, w, xr, es, hg, hn⟩ => ⟨Y, h, x, _, w, xr, es, hg, fun dt v H1 q e1 w1 r => ⟨Y, h, x, _, w1, xr.ext w e1, es, q, fun ds vs H2 q2 l e2 w2 r2 =>
    hn (dt :: ds) (v :: vs) H2 q2 (by rw [List.length_cons, l]) (e1.trans e2) w2 (.cons (VR.ext (m := .i dt) e2 r) r2)⟩⟩
end
end My

set_option Elab.async false
set_option linter.all false
set_option maxRecDepth 100000
set_option maxHeartbeats 4000000
namespace My
open PySem L2
def tSlot (i : Nat) : TE := fun σ H Q => ∃ (σ0 : St) (v : V), σ = σ0.set i (some v) ∧ Q v H
section
variable {X : Cx} {a : Addr} {cls : Value} {d : Option Addr} {i : Nat} {e : Expr} {g : GE} {oe : Obj} {pn : List (Addr × Obj)} {g1 g2 g3 : GX1} {e1 e2 : Expr} {es : List Expr} {n : Nat} {ga : GXA} {pos : Pos} {x : Str}
theorem pxe_lst (ha : PA X es (tXA X.K a cls d i n ga)) (hn : n ≤ 1000 := by decide) : PE X (.List es pos) (tXE X.K a cls d i (xLst ga)) := (pe_lst ha).imp fun σ H Q ⟨Y, h, x, nx, w, xr, es, hg, hn'⟩ =>
  ⟨Y, h, x, _, w, xr, es, hg, fun ds vs H1 q l e1 w1 r1 => ⟨small_le (by rw [DAs.length r1, l]; exact hn), fun p hp =>
    hn' (.list ds) _ _ q (e1.trans (.same (same_new hp))) (w1.same (same_new hp)) (DA.lst upd_same (w1.new hp) (DAs.same (same_new hp) r1))⟩⟩
theorem pxe_tup {kd} (ha : PA X es (tXA X.K a cls d i n ga)) (hn : n ≤ 1000 := by decide) : PE X (.Tuple es kd pos) (tXE X.K a cls d i (xTup ga)) := (pe_tup ha).imp fun σ H Q ⟨Y, h, x, nx, w, xr, es, hg, hn'⟩ =>
  ⟨Y, h, x, _, w, xr, es, hg, fun ds vs H1 q l e1 w1 r1 => ⟨small_le (by rw [DAs.length r1, l]; exact hn), fun p hp =>
    hn' (.tuple ds) _ _ q (e1.trans (.same (same_new hp))) (w1.same (same_new hp)) (DA.tup upd_same (w1.new hp) (DAs.same (same_new hp) r1))⟩⟩
/-- the name of the exception -/
theorem pxe_v (i : Nat) (hN : X.N[i]? = some x := by rfl) (hv : Vis X.env.scope x := by first | exact Or.inl rfl | exact Or.inr (Or.inl rfl) | exact Or.inr (Or.inr rfl)) (hd : (x == ("__debug__" : Str)) = false := by decide)
    (hcd : (x == ("__classdict__" : Str)) = false := by decide) : PE X (.Name x pos) (tSlot i) := by
  refine ⟨fun pins s σ H Q I h => (pe_var (X := X) (pos := pos) (i := i) hN hv hd hcd).run pins s σ H Q I ?_⟩
  obtain ⟨σ0, v, rfl, q⟩ := h
  have l := I.len
  rw [List.length_set] at l
  have l2 : i < X.N.length := (List.getElem?_eq_some_iff.mp hN).1
  exact ⟨v, List.getElem?_set_self (by omega), q⟩
theorem lk_fs : ∀ {fs : List (Str × V)} {xs : List (Str × PyData)} {K : PySem.W.Frag} {H : Hp} {N : Addr → Prop} {f : Str} {dt : PyData}, fs.map Prod.fst = xs.map Prod.fst → DAs K H N (fs.map Prod.snd) (xs.map Prod.snd) → xs.lookup f = some dt → ∃ v, fs.lookup f = some v ∧ DA K H N v dt
  | [], [], _, _, _, _, _, _, _, q => by cases q
  | (k, v) :: fs, (k', y) :: xs, K, H, N, f, dt, e, .cons r s, q => by
    have e1 : k = k' := (List.cons.inj e).1
    have e2 := (List.cons.inj e).2
    subst e1
    by_cases hk : (f == k) = true
    · rw [List.lookup_cons, hk] at q
      rw [List.lookup_cons, hk]
      cases q
      exact ⟨v, rfl, r⟩
    · have hk : (f == k) = false := by simpa using hk
      rw [List.lookup_cons, hk] at q
      rw [List.lookup_cons, hk]
      exact lk_fs e2 s q
def XCl (K : PySem.W.Frag) (f : Str) (cl : Value) : Prop := ∃ C, cl = .ref C ∧ XfC K C ∧ PySem.W.findIn K (.ref C) f = some none
theorem pxe_fld {f : Str} (i : Nat) (hz : Zc cls d oe) (hf : ∃ vs, oe.data = .fields vs) (he : PE (X.suite a ((a, oe) :: pn)) e (tSlot i)) (hb : attributeBase e f X.env (eval e X.env) = eval e X.env := by rfl) :
    PE (X.suite a ((a, oe) :: pn)) (.Attribute e f pos) (tXE X.K a cls d i (xFld (XCl X.K f) f)) := (pe_xf2 hz hf he hb).imp fun σ H Q ⟨Y, h, x, nx, w, xr, es, hg, hn⟩ => by
  obtain ⟨⟨C, ec, xc, hno⟩, q⟩ := hg
  obtain ⟨dt, e1, q⟩ := opt_ex q
  obtain ⟨rfl, dd, fs, rfl, ed, ek, r⟩ := xr
  obtain ⟨v, e2, r2⟩ := lk_fs ek r e1
  obtain ⟨σ0, es⟩ := es
  exact ⟨σ0, .ref a, es, C, dd, fs, v, rfl, ec, xc, hno, rfl, ed, e2, hn dt v H q (.refl _ _) w r2⟩
theorem pxe_is {c : Addr} {p p1 p2 : Pos} {y z : Str} (i : Nat) (hz : Zc cls d oe) (hf : ∃ vs, oe.data = .fields vs) (hg : Gl X x) (hm : X.mg x = none) (hv : bootBuiltins x = some (.builtin "isinstance")) (ha : PE (X.suite a ((a, oe) :: pn)) (.Name y p1) (tSlot i)) (hT : PE (X.suite a ((a, oe) :: pn)) (.Name z p2) (tC (.ref c)))
    (hn : x ≠ "__name__" := by decide) (hdb : (x == ("__debug__" : Str)) = false := by decide) :
    PE (X.suite a ((a, oe) :: pn)) (.Call (.Name x p) [.Name y p1, .Name z p2] [] pos) (tXE X.K a cls d i (xIs X.K c)) :=
  (pe_callB (call_isE3 hz hf) hg hm hv (pa_cons ha (pa_cons hT pa_nil)) hn hdb).imp fun σ H Q ⟨Y, h, x, nx, w, xr, es, hg, hn⟩ => by
    obtain ⟨D, b, ec, C, ki, q⟩ := hg
    obtain ⟨rfl, dd, fs, rfl, ed, ek, r⟩ := xr
    obtain ⟨σ0, es⟩ := es
    exact ⟨σ0, .ref a, es, D, dd, fs, .ref c, .ref c, b, ec, C, rfl, ed, rfl, fun u z => z, ki, hn (.bool b) (.bl b) H q (.refl _ _) w (DA.bl b)⟩
theorem pxt_val (he : PE X e (tXE X.K a cls d i g1)) (hs : ∀ whole, isTrue e X.env whole = (do let v ← whole; standAt e.pos; holding [v] (truthy v)) := by intro _; rfl) : PT X e (tXT X.K a cls d i (fun x nx => g1 x fun dt => ∃ b, dt = .bool b ∧ nx (.bool b))) :=
  (pt_val he hs).imp fun σ H Q ⟨Y, h, x, nx, w, xr, es, hg, hn⟩ => ⟨Y, h, x, _, w, xr, es, hg, fun dt v H1 q e1 w1 r => by
    obtain ⟨b, rfl, q⟩ := q
    exact ⟨b, DA.boolV r, hn b H1 q e1 w1⟩⟩
theorem pxe_if (hc : PT X e (tXT X.K a cls d i g1)) (ha : PE X e1 (tXE X.K a cls d i g2)) (hb : PE X e2 (tXE X.K a cls d i g3)) : PE X (.IfExp e e1 e2 pos) (tXE X.K a cls d i (xIf g1 g2 g3)) :=
  (pe_ifExp hc ha hb).imp fun σ H Q ⟨Y, h, x, nx, w, xr, es, hg, hn⟩ => ⟨Y, h, x, _, w, xr, es, hg, fun b H1 q e1 w1 => by
    cases b with
    | true => exact iteT ⟨Y, h, x, nx, w1, xr.ext w e1, es, q.1 rfl, fun dt v H2 q2 e2 w2 r2 => hn dt v H2 q2 (e1.trans e2) w2 r2⟩
    | false => exact iteF ⟨Y, h, x, nx, w1, xr.ext w e1, es, q.2.1 rfl, fun dt v H2 q2 e2 w2 r2 => hn dt v H2 q2 (e1.trans e2) w2 r2⟩⟩
end
end My

set_option Elab.async false
set_option linter.all false
set_option maxRecDepth 100000
set_option maxHeartbeats 4000000
namespace My
open PySem L2
@[simp] def gsTryAs (cm : Value → Bool → Prop) (g : GX1) (gb : GS) : GS := fun h Γ nx rt ex => gb h Γ nx rt fun h' x => ∃ b, cm x.cls b ∧ (b = true → x.fs ≠ [] ∧ NoLs (x.fs.map Prod.snd) ∧ g x fun dt => rt h' (.i dt)) ∧ (b = false → ex h' x)
section
variable {X : Cx} {W : WX} {x n : Str} {c : Value} {body : List Stmt} {b₀ : Stmt} {np pos pos' pos2 : Pos} {gb : GS} {cm : Value → Bool → Prop} {i : Nat} {g : GX1} {e : Expr}
theorem sd_try_as (hs : X.stack = X.env :: X.outer) (hf : X.env.frame = some X.env.locals) (hN : X.N.Nodup) (hi : X.N[i]? = some n) (hln : X.env.kindOf n = some .local) (hc : L2.Names X x c) (tk : Takes X W) (hcm : ∀ cls b, cm cls b → PySem.W.exmOne X.K cls c = some b)
    (hb : ∀ (W' : WX) (pn : List (Addr × Obj)) (xe : Value → Shared → Prop), Takes (X.tr pn xe) W' → PassesOwn (model X.prog X.w) X.A X.env xe → PSs (X.tr pn xe) body (tGS X.K W' gb))
    (hsu : ∀ (a : Addr) (oe : Obj) (cls : Value) (d : Option Addr) (pn : List (Addr × Obj)), Zc cls d oe → (∃ vs, oe.data = .fields vs) → PE (X.suite a ((a, oe) :: pn)) e (tXE X.K a cls d i g)) :
    PS X (.Try body [.ExceptHandler (some (.Name x np)) (some n) [.Return (some e) pos2] pos'] [] [] pos) (tGS X.K W (gsTryAs cm g gb)) :=
  (ps_try_as (tb := fun W' => tGS X.K W' gb) (ts := fun a cls d => fun D σ H => tXE X.K a cls d i g σ H fun v H' => D.rt v H') hs hf hN hi hln hc tk hb (fun a oe cls d pn hz hf => pss_one (ps_ret (hsu a oe cls d pn hz hf)))).imp fun D σ H ⟨Y, h, Γ, nx, rt, ex, w, en, hg, hn, hr, hx⟩ =>
    ⟨Y, h, Γ, nx, rt, _, w, en, hg, hn, hr, fun σ' h' x cls d H' ⟨b, q1, q2, q3⟩ e w' xr => by
      obtain ⟨ec, xr2⟩ := id xr
      refine ⟨b, hcm cls b (by rw [ec]; exact q1), fun hb a ha => ?_, fun hb => hx σ' h' x cls d H' (q3 hb) e w' xr⟩
      obtain ⟨n1, n2, q⟩ := q2 hb
      rcases xr2 with z | ⟨dd, fs, ed, e3, e4, r⟩
      · exact absurd z n1
      · exact ⟨Y, h', x, _, w', ⟨ec, dd, fs, ed, e3, e4, nolNs (fun _ _ e => w'.tupNo e) r n2⟩, ⟨σ', rfl⟩, q, fun dt v H2 q2 e2 w2 r2 => hr h' (.i dt) v H2 q2 (e.trans e2) w2 r2⟩⟩
end
end My

set_option Elab.async false
set_option linter.all false
set_option maxRecDepth 100000
set_option maxHeartbeats 4000000
namespace My
open PySem L2
section
variable {P : Program} {w : World} {K : PySem.W.Frag} {mg : Str → Option Value} {base : Heap} {ad : Ad}
theorem sc_law_asked : FnScope ["told", "e"] ["told"] (defScope s_law_asked) := ⟨rfl, rfl, rfl, by decide +kernel, rfl, by decide +kernel, by decide +kernel⟩
def X_law_asked (K : PySem.W.Frag) (ad : Ad) : GX1 := xIf (fun x nx => xIs K ad.C_BadProgram x fun dt => ∃ b, dt = .bool b ∧ nx (.bool b)) (xLst (xaC (xFld (XCl K "place") "place") (xaC (xFld (XCl K "word") "word") xaN))) (xC (.str "other"))
def B_law_asked (K : PySem.W.Frag) (ad : Ad) : GS := gsTryAs (fun cls b => cls = .ref ad.C_BadProgram ∧ b = true) (X_law_asked K ad) (gsRet (gMeth ad.C_Program "told" (F_Program_told ad) (gMake ad.C_Program (F_Program_init ad) (gaC (gIx (gV 0) (gC (.int 0))) (gaC (gIx (gV 0) (gC (.int 1))) (gaC (gIx (gV 0) (gC (.int 2))) (gaC (gIx (gV 0) (gC (.int 3))) gaN))))) gaN))
def R_law_asked (K : PySem.W.Frag) (ad : Ad) : GF := defG0 ["told", "e"] (B_law_asked K ad)
theorem okR_law_asked (T : Txt K mg ad) (U : Funs K ad) : Fc P w K mg base CX0 10 ad.law_asked ["told"] (spG K 1 (R_law_asked K ad)) := by
  have G_Program_told := ok_Program_told (P := P) (w := w) (base := base) T U
  have G_Program_init := okG_Program_init (P := P) (w := w) (base := base) T U
  exact Fc.okG U.F_law_asked sc_law_asked fun cdv A outer s f H E hr =>
      by
        refine sd_one ?_
        refine sd_try_as (i := 1) rfl rfl sc_law_asked.nd rfl rfl ⟨rfl, by decide, Or.inl T.g_BackError⟩ takes0 (fun cls b z => by rw [z.1, z.2]; exact T.ex_BadProgram_BackError) (fun W pn xe tk po => (sd_one (sd_ret (pd_methN0 T.cl_Program T.m_Program_told G_Program_told (hr.mono (by decide)) (pd_make T.mk_Program G_Program_init tk (hr.mono (by decide)) rfl T.g_Program (pd_cons (pd_ix (pd_v 0) pd_int) (pd_cons (pd_ix (pd_v 0) pd_int) (pd_cons (pd_ix (pd_v 0) pd_int) (pd_cons (pd_ix (pd_v 0) pd_int) pd_nil))))))))) (fun a oe cls d pn hz hf => pxe_if (pxt_val (pxe_is 1 hz hf (by rfl) T.b_isinstance (by decide +kernel) (pxe_v 1) (pe_globE (by rfl) ⟨_, T.g_BadProgram, rfl⟩))) (pxe_lst (pxa_cons (pxe_fld 1 hz hf (pxe_v 1)) (pxa_cons (pxe_fld 1 hz hf (pxe_v 1)) pxa_nil))) (pxe_of pe_str fun _ _ => .str _))
def F_law_asked (_ : Ad) : GF := fun h ms nx _ => ∃ c l p s, ms = [.i (.tuple [c, l, p, s])] ∧ Sh c ∧ Sh p ∧ Sh s ∧
  (progD c l p s = none → ∀ h', (∀ b o, h b = some o → h' b = some o) → nx h' (.i (.tuple [c, l, p, s]))) ∧
  (∀ pl wd, progD c l p s = some (pl, wd) → NoL pl ∧ ∀ h', (∀ b o, h b = some o → h' b = some o) → nx h' (.i (.list [pl, .str wd])))
theorem asked_imp (T : Txt K mg ad) : ∀ h ms nx ex, ms.length = 1 → F_law_asked ad h ms nx ex → R_law_asked K ad h ms nx ex := by
  rintro h ms nx ex - ⟨c, l, p, s, rfl, shc, shp, shs, kn, ke⟩
  intro x dx hx hdx ne
  refine ⟨x, dx, c, l, p, s, rfl, mset_same, shc, shp, shs, fun z b dx' hb hba => ⟨trivial, ?_⟩, fun pl wd z => ⟨true, ⟨rfl, rfl⟩, fun _ => ?_, fun z => Bool.noConfusion z⟩⟩
  · have hb' : h b = none := by rw [mset_ne hba] at hb; exact hb
    have := kn z (mset (mset (mset h x (.ins ad.C_Program dx [])) b (.dct (byM (itemsD p)))) x (.ins ad.C_Program dx' [("cells", .i c), ("locks", .i l), ("procs", .i p), ("start", .i s), ("by", .p b)])) fun y o q => by
      have y1 : y ≠ x := fun z => by rw [z, hx] at q; cases q
      have y2 : y ≠ b := fun z => by rw [z, hb'] at q; cases q
      rw [mset_ne y1, mset_ne y2, mset_ne y1]; exact q
    simp [F_Program_told, B_Program_told, mset_same]
    exact ⟨by decide +kernel, this⟩
  · obtain ⟨nl, q⟩ := ke pl wd z
    have := q (mdel (mset h x (.ins ad.C_Program dx [])) x) fun y o q => by
      have y1 : y ≠ x := fun z => by rw [z, hx] at q; cases q
      unfold mdel
      rw [if_neg y1, mset_ne y1]; exact q
    refine ⟨by simp, ⟨trivial, nl, trivial⟩, ad.C_BadProgram, true, rfl, T.ec_BadProgram, T.ki_BadProgram_BadProgram, ⟨true, rfl, fun _ => ?_, fun z => (by cases z), .inl rfl⟩⟩
    refine ⟨⟨_, rfl, T.xf_BadProgram, T.no_BadProgram_place⟩, ⟨_, rfl, T.xf_BadProgram, T.no_BadProgram_word⟩, this⟩
theorem ok_law_asked (T : Txt K mg ad) (U : Funs K ad) : Fc P w K mg base CX0 10 ad.law_asked ["told"] (spG K 1 (F_law_asked ad)) := (okR_law_asked T U).impG (asked_imp T)
end
end My

set_option Elab.async false
set_option linter.all false
set_option maxRecDepth 100000
set_option maxHeartbeats 4000000
namespace My
open PySem L2
section
variable {P : Program} {w : World} {K : PySem.W.Frag} {mg : Str → Option Value} {base : Heap} {ad : Ad}
-- law slots: 0 script, 1 draws, 2 turn, 3 told, 4 cells, 5 locks, 6 procs, 7 start, 8 program, 9 proc, 10 op, 11 at, 12 none, 13 cases, 14 wrong, 15 params, 16 more, 17 code, 18 word, 19 ops, 20 k, 21 changed, 22 due, 23 one; level 13
theorem sc_law : FnScope ["script", "draws", "turn", "told", "cells", "locks", "procs", "start", "program", "proc", "op", "at", "none", "cases", "wrong", "params", "more", "code", "word", "ops", "k", "changed", "due", "one"] ["script"] (defScope s_law) := ⟨rfl, rfl, rfl, by decide +kernel, rfl, by decide +kernel, by decide +kernel⟩
def B_law_0 (ad : Ad) : GS :=
      (gsSet 1 (gCall0 (F_law_draws ad) (gaC (gV 0) gaN)))
def B_law_1_0 (ad : Ad) : GS :=
      (gsSet 3 (gCall0 (F_law_program ad) (gaC (gV 1) gaN)))
def B_law_1_1 (ad : Ad) : GS :=
      (gsAsg (bTup [4, 5, 6, 7]) (gV 3))
def B_law_1_2 (ad : Ad) : GS :=
      (gsSet 8 (gMake ad.C_Program (F_Program_init ad) (gaC (gV 4) (gaC (gV 5) (gaC (gV 6) (gaC (gV 7) gaN))))))
def B_law_1_3 (ad : Ad) : GS :=
      (gsIf (qNot (qB (gCall0 (F_law_same ad) (gaC (gLst (gaC (gMeth ad.C_Program "told" (F_Program_told ad) (gV 8) gaN) (gaC (gFld ad.C_Program "cells" (gV 8)) (gaC (gFld ad.C_Program "locks" (gV 8)) (gaC (gFld ad.C_Program "procs" (gV 8)) (gaC (gFld ad.C_Program "start" (gV 8)) (gaC (gCall0 (F_is_program ad) (gaC (gV 3) gaN)) gaN))))))) (gaC (gLst (gaC (gV 3) (gaC (gV 4) (gaC (gV 5) (gaC (gV 6) (gaC (gV 7) (gaC (gC (.bool true)) gaN))))))) gaN))))) (gsRet (gC (.bool false))) gsN)
def B_law_1_4 (ad : Ad) : GS :=
      (gsFor (giSeq (gV 6)) (bName 9)
      (gsFor (giSeq (gIx (gV 9) (gC (.int 3)))) (bName 10)
      (gsIf (qNot (qB (gCall0 (F_law_same ad) (gaC (gCall0 (F_needs ad) (gaC (gV 8) (gaC (gV 10) gaN))) (gaC (gCall0 (F_law_takes ad) (gaC (gV 3) (gaC (gV 10) gaN))) gaN))))) (gsRet (gC (.bool false))) gsN)))
def B_law_1_5 (ad : Ad) : GS :=
      (gsSet 9 (gIx (gV 6) (gC (.int 1))))
def B_law_1_6 (ad : Ad) : GS :=
      (gsSet 11 (gCall0 (F_law_draw ad) (gaC (gV 1) (gaC (gLen (gIx (gV 9) (gC (.int 3)))) gaN))))
def B_law_1_7 (ad : Ad) : GS :=
      (gsSet 12 (gTup (gaC (gC .none) (gaC (gC .none) gaN))))
def B_law_1_8 (ad : Ad) : GS :=
      (gsSet 13 (gNew (gaC (gLst (gaC (gTup (gaC (gTup gaN) (gaC (gV 5) (gaC (gV 6) (gaC (gV 7) gaN))))) (gaC (gLst (gaC (gV 12) (gaC (gC (.str "cells")) gaN))) gaN))) (gaC (gLst (gaC (gTup (gaC (gOp fMul (gTup (gaC (gC (.int 0)) gaN)) (gC (.int 17))) (gaC (gV 5) (gaC (gV 6) (gaC (gV 7) gaN))))) (gaC (gLst (gaC (gV 12) (gaC (gC (.str "cells")) gaN))) gaN))) (gaC (gLst (gaC (gTup (gaC (gB fList (gaC (gV 4) gaN)) (gaC (gV 5) (gaC (gV 6) (gaC (gV 7) gaN))))) (gaC (gLst (gaC (gV 12) (gaC (gC (.str "cells")) gaN))) gaN))) gaN)))))
def B_law_1_9 (ad : Ad) : GS :=
      (gsSet 13 (gCatN (gV 13) (gLst (gaC (gLst (gaC (gTup (gaC (gOp fAdd (gV 4) (gTup (gaC (gC (.bool true)) gaN))) (gaC (gV 5) (gaC (gV 6) (gaC (gV 7) gaN))))) (gaC (gLst (gaC (gV 12) (gaC (gC (.str "cells")) gaN))) gaN))) (gaC (gLst (gaC (gTup (gaC (gV 4) (gaC (gC (.int 7)) (gaC (gV 6) (gaC (gV 7) gaN))))) (gaC (gLst (gaC (gV 12) (gaC (gC (.str "locks")) gaN))) gaN))) gaN)))))
def B_law_1_10 (ad : Ad) : GS :=
      (gsSet 13 (gCatN (gV 13) (gLst (gaC (gLst (gaC (gTup (gaC (gV 4) (gaC (gC (.bool true)) (gaC (gV 6) (gaC (gV 7) gaN))))) (gaC (gLst (gaC (gV 12) (gaC (gC (.str "locks")) gaN))) gaN))) (gaC (gLst (gaC (gTup (gaC (gV 4) (gaC (gUn fNeg (gC (.int 1))) (gaC (gV 6) (gaC (gV 7) gaN))))) (gaC (gLst (gaC (gV 12) (gaC (gC (.str "locks")) gaN))) gaN))) (gaC (gLst (gaC (gTup (gaC (gV 4) (gaC (gV 5) (gaC (gTup gaN) (gaC (gV 7) gaN))))) (gaC (gLst (gaC (gV 12) (gaC (gC (.str "procs")) gaN))) gaN))) gaN))))))
def B_law_1_11 (ad : Ad) : GS :=
      (gsSet 13 (gCatN (gV 13) (gLst (gaC (gLst (gaC (gTup (gaC (gV 4) (gaC (gV 5) (gaC (gB fList (gaC (gV 6) gaN)) (gaC (gV 7) gaN))))) (gaC (gLst (gaC (gV 12) (gaC (gC (.str "procs")) gaN))) gaN))) (gaC (gLst (gaC (gTup (gaC (gV 4) (gaC (gV 5) (gaC (gOp fAdd (gV 6) (gTup (gaC (gC .none) gaN))) (gaC (gV 7) gaN))))) (gaC (gLst (gaC (gV 12) (gaC (gC (.str "proc")) gaN))) gaN))) gaN)))))
def B_law_1_12 (ad : Ad) : GS :=
      (gsSet 13 (gCatN (gV 13) (gLst (gaC (gLst (gaC (gTup (gaC (gV 4) (gaC (gV 5) (gaC (gOp fAdd (gV 6) (gTup (gaC (gTup (gaC (gC (.str "a")) (gaC (gC (.int 0)) (gaC (gC (.int 0)) gaN)))) gaN))) (gaC (gV 7) gaN))))) (gaC (gLst (gaC (gV 12) (gaC (gC (.str "proc")) gaN))) gaN))) (gaC (gLst (gaC (gTup (gaC (gV 4) (gaC (gV 5) (gaC (gOp fAdd (gV 6) (gTup (gaC (gTup (gaC (gC (.str "A")) (gaC (gC (.int 0)) (gaC (gC (.int 0)) (gaC (gTup (gaC (gTup (gaC (gC (.str "give")) gaN)) gaN)) gaN))))) gaN))) (gaC (gV 7) gaN))))) (gaC (gLst (gaC (gV 12) (gaC (gC (.str "proc")) gaN))) gaN))) gaN)))))
def B_law_1_13 (ad : Ad) : GS :=
      (gsSet 13 (gCatN (gV 13) (gLst (gaC (gLst (gaC (gTup (gaC (gV 4) (gaC (gV 5) (gaC (gOp fAdd (gV 6) (gSl (gV 6) goN (goS (gC (.int 1))))) (gaC (gV 7) gaN))))) (gaC (gLst (gaC (gTup (gaC (gC (.str "start")) (gaC (gC .none) gaN))) (gaC (gC (.str "twice")) gaN))) gaN))) gaN))))
def B_law_1_14 (ad : Ad) : GS :=
      (gsSet 14 (gLst (gaC (gTup (gaC (gC (.int 5)) (gaC (gC (.int 0)) (gaC (gTup (gaC (gTup (gaC (gC (.str "give")) gaN)) gaN)) (gaC (gC (.str "params")) gaN))))) (gaC (gTup (gaC (gC (.bool true)) (gaC (gC (.int 0)) (gaC (gTup (gaC (gTup (gaC (gC (.str "give")) gaN)) gaN)) (gaC (gC (.str "params")) gaN))))) (gaC (gTup (gaC (gC (.int 4)) (gaC (gC (.int 5)) (gaC (gTup (gaC (gTup (gaC (gC (.str "give")) gaN)) gaN)) (gaC (gC (.str "locals")) gaN))))) (gaC (gTup (gaC (gC (.int 0)) (gaC (gC .none) (gaC (gTup (gaC (gTup (gaC (gC (.str "give")) gaN)) gaN)) (gaC (gC (.str "locals")) gaN))))) (gaC (gTup (gaC (gC (.int 0)) (gaC (gC (.int 0)) (gaC (gTup gaN) (gaC (gC (.str "code")) gaN))))) gaN)))))))
def B_law_1_15 (ad : Ad) : GS :=
      (gsSet 14 (gOp fAdd (gV 14) (gLst (gaC (gTup (gaC (gC (.int 0)) (gaC (gC (.int 0)) (gaC (gLst (gaC (gTup (gaC (gC (.str "give")) gaN)) gaN)) (gaC (gC (.str "code")) gaN))))) (gaC (gTup (gaC (gC (.int 0)) (gaC (gC (.int 0)) (gaC (gOp fMul (gTup (gaC (gTup (gaC (gC (.str "give")) gaN)) gaN)) (gC (.int 81))) (gaC (gC (.str "code")) gaN))))) gaN)))))
def B_law_1_16 (ad : Ad) : GS :=
      (gsFor (giSeq (gV 14)) (bTup [15, 16, 17, 18])
      (gsExpr (gApp (gV 13) (gLst (gaC (gTup (gaC (gV 4) (gaC (gV 5) (gaC (gOp fAdd (gV 6) (gTup (gaC (gTup (gaC (gC (.str "last")) (gaC (gV 15) (gaC (gV 16) (gaC (gV 17) gaN))))) gaN))) (gaC (gV 7) gaN))))) (gaC (gLst (gaC (gTup (gaC (gC (.str "last")) (gaC (gC .none) gaN))) (gaC (gV 18) gaN))) gaN))))))
def B_law_1_17 (ad : Ad) : GS :=
      (gsSet 19 (gLst (gaC (gC .none) (gaC (gTup gaN) (gaC (gTup (gaC (gC (.str "Add")) gaN)) (gaC (gTup (gaC (gC (.str "add")) (gaC (gC (.int 1)) gaN))) (gaC (gTup (gaC (gC (.str "int")) gaN)) (gaC (gTup (gaC (gC (.str "int")) (gaC (gC (.int 2147483648)) gaN))) (gaC (gTup (gaC (gC (.str "int")) (gaC (gC (.bool true)) gaN))) (gaC (gTup (gaC (gC (.str "load")) (gaC (gC (.int 2)) gaN))) (gaC (gTup (gaC (gC (.str "load")) (gaC (gUn fNeg (gC (.int 1))) gaN))) (gaC (gTup (gaC (gC (.str "store")) (gaC (gC (.bool true)) gaN))) (gaC (gTup (gaC (gC (.str "goto")) (gaC (gLen (gIx (gV 9) (gC (.int 3)))) gaN))) (gaC (gTup (gaC (gC (.str "goto")) (gaC (gUn fNeg (gC (.int 1))) gaN))) gaN))))))))))))))
def B_law_1_18 (ad : Ad) : GS :=
      (gsSet 19 (gOp fAdd (gV 19) (gLst (gaC (gTup (gaC (gC (.str "if")) (gaC (gC (.str "lt")) gaN))) (gaC (gTup (gaC (gC (.str "if")) (gaC (gC (.str "less")) (gaC (gC (.int 0)) gaN)))) (gaC (gTup (gaC (gC (.str "if")) (gaC (gC (.str "lt")) (gaC (gLen (gIx (gV 9) (gC (.int 3)))) gaN)))) (gaC (gTup (gaC (gC (.str "call")) (gaC (gC (.str "far")) gaN))) (gaC (gTup (gaC (gC (.str "call")) (gaC (gC (.int 5)) gaN))) gaN))))))))
def B_law_1_19 (ad : Ad) : GS :=
      (gsSet 19 (gOp fAdd (gV 19) (gLst (gaC (gTup (gaC (gC (.str "spawn")) (gaC (gC (.str "far")) gaN))) (gaC (gTup (gaC (gC (.str "get")) (gaC (gLen (gV 4)) gaN))) (gaC (gTup (gaC (gC (.str "put")) (gaC (gUn fNeg (gC (.int 1))) gaN))) (gaC (gTup (gaC (gC (.str "trade")) (gaC (gC (.bool true)) gaN))) (gaC (gTup (gaC (gC (.str "lock")) (gaC (gV 5) gaN))) (gaC (gTup (gaC (gC (.str "free")) (gaC (gV 5) gaN))) (gaC (gTup (gaC (gC (.str "free")) (gaC (gC .none) gaN))) (gaC (gLst (gaC (gC (.str "give")) gaN)) (gaC (gTup (gaC (gC (.str "give")) (gaC (gC (.int 0)) gaN))) (gaC (gTup (gaC (gC (.int 5)) gaN)) (gaC (gTup (gaC (gC (.str "end")) gaN)) gaN))))))))))))))
def B_law_1_20 (ad : Ad) : GS :=
      (gsFor (giSeq (gLC (giRg1 (gC (.int 4))) [20] (bName 20) qYes (gIx (gV 19) (gCall0 (F_law_draw ad) (gaC (gV 1) (gaC (gLen (gV 19)) gaN)))))) (bName 10)
      (gsC (gsSet 21 (gTup (gaC (gIx (gV 9) (gC (.int 0))) (gaC (gIx (gV 9) (gC (.int 1))) (gaC (gIx (gV 9) (gC (.int 2))) (gaC (gOp fAdd (gOp fAdd (gSl (gIx (gV 9) (gC (.int 3))) goN (goS (gV 11))) (gTup (gaC (gV 10) gaN))) (gSl (gIx (gV 9) (gC (.int 3))) (goS (gOp fAdd (gV 11) (gC (.int 1)))) goN)) gaN))))))
      (gsExpr (gApp (gV 13) (gLst (gaC (gTup (gaC (gV 4) (gaC (gV 5) (gaC (gTup (gaC (gIx (gV 6) (gC (.int 0))) (gaC (gV 21) (gaC (gIx (gV 6) (gC (.int 2))) gaN)))) (gaC (gV 7) gaN))))) (gaC (gLst (gaC (gTup (gaC (gC (.str "work")) (gaC (gV 11) gaN))) (gaC (gC (.str "instruction")) gaN))) gaN)))))))
def B_law_1_21 (ad : Ad) : GS :=
      (gsSet 13 (gCatN (gV 13) (gLst (gaC (gLst (gaC (gTup (gaC (gV 4) (gaC (gV 5) (gaC (gV 6) (gaC (gC (.str "work")) gaN))))) (gaC (gLst (gaC (gV 12) (gaC (gC (.str "start")) gaN))) gaN))) (gaC (gLst (gaC (gTup (gaC (gV 4) (gaC (gV 5) (gaC (gV 6) (gaC (gC (.str "far")) gaN))))) (gaC (gLst (gaC (gV 12) (gaC (gC (.str "start")) gaN))) gaN))) (gaC (gLst (gaC (gTup (gaC (gV 4) (gaC (gV 5) (gaC (gV 6) (gaC (gC .none) gaN))))) (gaC (gLst (gaC (gV 12) (gaC (gC (.str "start")) gaN))) gaN))) gaN))))))
def B_law_1_22 (ad : Ad) : GS :=
      (gsFor (giSeq (gV 13)) (bLst [21, 22])
      (gsIf (qOr (qNot (qB (gCall0 (F_law_same ad) (gaC (gCall0 (F_law_asked ad) (gaC (gV 21) gaN)) (gaC (gV 22) gaN))))) (qB (gOp fNisB (gCall0 (F_is_program ad) (gaC (gV 21) gaN)) (gC (.bool false))))) (gsRet (gC (.bool false))) gsN))
def B_law_1_23 (ad : Ad) : GS :=
      (gsIf (qB (gOp fNe (gLC (giSeq (gLst (gaC (gC .none) (gaC (gSl (gV 3) goN (goS (gC (.int 3)))) (gaC (gB fList (gaC (gV 3) gaN)) (gaC (gOp fAdd (gV 3) (gTup (gaC (gC (.int 1)) gaN))) gaN)))))) [23] (bName 23) qYes (gCall0 (F_is_program ad) (gaC (gV 23) gaN))) (gOp fMul (gLst (gaC (gC (.bool false)) gaN)) (gC (.int 4))))) (gsRet (gC (.bool false))) gsN)
def B_law_1 (ad : Ad) : GS :=
      (gsFor (giRg1 (gC (.int 4))) (bName 2)
      (gsC (B_law_1_0 ad) (gsC (B_law_1_1 ad) (gsC (B_law_1_2 ad) (gsC (B_law_1_3 ad) (gsC (B_law_1_4 ad) (gsC (B_law_1_5 ad) (gsC (B_law_1_6 ad) (gsC (B_law_1_7 ad) (gsC (B_law_1_8 ad) (gsC (B_law_1_9 ad) (gsC (B_law_1_10 ad) (gsC (B_law_1_11 ad) (gsC (B_law_1_12 ad) (gsC (B_law_1_13 ad) (gsC (B_law_1_14 ad) (gsC (B_law_1_15 ad) (gsC (B_law_1_16 ad) (gsC (B_law_1_17 ad) (gsC (B_law_1_18 ad) (gsC (B_law_1_19 ad) (gsC (B_law_1_20 ad) (gsC (B_law_1_21 ad) (gsC (B_law_1_22 ad) (B_law_1_23 ad)))))))))))))))))))))))))
def B_law_2 (ad : Ad) : GS :=
      (gsRet (gC (.bool true)))
def B_law (ad : Ad) : GS :=
      (gsC (B_law_0 ad) (gsC (B_law_1 ad) (B_law_2 ad)))
def B_lawR (ad : Ad) : GS := gsC (B_law_1 ad) (B_law_2 ad)
theorem okW_law {fd : FuncData} (F : Fun K "law" "law" s_law ad.law fd) (T : Txt K mg ad) (U : Funs K ad) (hlaw : ∀ (p : Addr) (ns : List Int) (Γ : Gam), Γ.length = 24 → lk Γ 1 = some (.p p) → B_lawR ad (h0 p ns) Γ (fun _ _ => False) (fun _ m => m = .i (.bool true)) XF) : FnOk P w K mg base CX0 13 ad.law fd ["script"] (spLaw K) := by
  have G_is_program := ok_is_program (P := P) (w := w) (base := base) T U
  have G_law_same := ok_law_same (P := P) (w := w) (base := base) T U
  have G_law_asked := ok_law_asked (P := P) (w := w) (base := base) T U
  have G_law_draw := ok_law_draw (P := P) (w := w) (base := base) T U
  have G_law_takes := ok_law_takes (P := P) (w := w) (base := base) T U
  have G_needs := ok_needs (P := P) (w := w) (base := base) T U
  have G_Program_told := ok_Program_told (P := P) (w := w) (base := base) T U
  have G_Program_init := okG_Program_init (P := P) (w := w) (base := base) T U
  have G_law_program := ok_law_program (P := P) (w := w) (base := base) T U
  have G_law_draws := okS_law_draws (P := P) (w := w) (base := base) T U
  refine F.ok sc_law (fun vs H Q E h => by obtain ⟨a, ns, rfl, _⟩ := h; rfl) (fun cdv A outer s H vs Q E hr h => ?_)
  obtain ⟨a, ns, rfl, hS, hl63, kq⟩ := h
  refine ⟨_, pss_cons (u := tGS K W0 (B_lawR ad)) (ps_set (i := 1) sc_law.nd rfl (by first | exact Or.inl rfl | exact Or.inr rfl) (pe_callF G_law_draws (hr.mono (by decide)) rfl T.g_law_draws T.k_law_draws pass0 (pa_cons (pv 0) pa_nil))) ?_, ?_⟩
  case refine_2 => exact ⟨_, rfl, a, ns, rfl, hS, fun p q H0 e1 e2 hn => law_enter e1 e2 hn kq (hlaw p ns _ rfl rfl)⟩
  exact
      (sd_cons (sd_for PassesOwn.never rfl (gi_rg1 rfl T.b_range pd_int) (pg_name (i := 2) sc_law.nd rfl (by first | exact Or.inl rfl | exact Or.inr rfl)) (tg_name (vs := [2]))
      (sd_cons (sd_set (i := 3) sc_law.nd rfl (by first | exact Or.inl rfl | exact Or.inr rfl) (pd_call0 G_law_program (hr.mono (by decide)) rfl T.g_law_program T.k_law_program (pd_cons (pd_v 1) pd_nil)))
      (sd_cons (sd_asg (tg_tup (vs := [4, 5, 6, 7]) (is := [4, 5, 6, 7])) (pd_v 3) (pg_tup rfl (pgs_cons (pg_name (i := 4) sc_law.nd rfl (by first | exact Or.inl rfl | exact Or.inr rfl)) (pgs_cons (pg_name (i := 5) sc_law.nd rfl (by first | exact Or.inl rfl | exact Or.inr rfl)) (pgs_cons (pg_name (i := 6) sc_law.nd rfl (by first | exact Or.inl rfl | exact Or.inr rfl)) (pgs_cons (pg_name (i := 7) sc_law.nd rfl (by first | exact Or.inl rfl | exact Or.inr rfl)) pgs_nil))))))
      (sd_cons (sd_set (i := 8) sc_law.nd rfl (by first | exact Or.inl rfl | exact Or.inr rfl) (pd_make T.mk_Program G_Program_init takes0 (hr.mono (by decide)) rfl T.g_Program (pd_cons (pd_v 4) (pd_cons (pd_v 5) (pd_cons (pd_v 6) (pd_cons (pd_v 7) pd_nil))))))
      (sd_cons (sd_if (qd_not (qd_val (pd_call0 G_law_same (hr.mono (by decide)) rfl T.g_law_same T.k_law_same (pd_cons (pd_lst (pd_cons (pd_methN0 T.cl_Program T.m_Program_told G_Program_told (hr.mono (by decide)) (pd_v 8)) (pd_cons (pd_fld T.cl_Program T.no_Program_cells (pd_v 8)) (pd_cons (pd_fld T.cl_Program T.no_Program_locks (pd_v 8)) (pd_cons (pd_fld T.cl_Program T.no_Program_procs (pd_v 8)) (pd_cons (pd_fld T.cl_Program T.no_Program_start (pd_v 8)) (pd_cons (pd_call0 G_is_program (hr.mono (by decide)) rfl T.g_is_program T.k_is_program (pd_cons (pd_v 3) pd_nil)) pd_nil))))))) (pd_cons (pd_lst (pd_cons (pd_v 3) (pd_cons (pd_v 4) (pd_cons (pd_v 5) (pd_cons (pd_v 6) (pd_cons (pd_v 7) (pd_cons pd_bl pd_nil))))))) pd_nil))))) (sd_one (sd_ret pd_bl)) sd_nil)
      (sd_cons (sd_for PassesOwn.never rfl (gi_seq (pd_v 6)) (pg_name (i := 9) sc_law.nd rfl (by first | exact Or.inl rfl | exact Or.inr rfl)) (tg_name (vs := [9]))
      (sd_one (sd_for PassesOwn.never rfl (gi_seq (pd_ix (pd_v 9) pd_int)) (pg_name (i := 10) sc_law.nd rfl (by first | exact Or.inl rfl | exact Or.inr rfl)) (tg_name (vs := [10]))
      (sd_one (sd_if (qd_not (qd_val (pd_call0 G_law_same (hr.mono (by decide)) rfl T.g_law_same T.k_law_same (pd_cons (pd_call0 G_needs (hr.mono (by decide)) rfl T.g_needs T.k_needs (pd_cons (pd_v 8) (pd_cons (pd_v 10) pd_nil))) (pd_cons (pd_call0 G_law_takes (hr.mono (by decide)) rfl T.g_law_takes T.k_law_takes (pd_cons (pd_v 3) (pd_cons (pd_v 10) pd_nil))) pd_nil))))) (sd_one (sd_ret pd_bl)) sd_nil)))))
      (sd_cons (sd_set (i := 9) sc_law.nd rfl (by first | exact Or.inl rfl | exact Or.inr rfl) (pd_ix (pd_v 6) pd_int))
      (sd_cons (sd_set (i := 11) sc_law.nd rfl (by first | exact Or.inl rfl | exact Or.inr rfl) (pd_call0 G_law_draw (hr.mono (by decide)) rfl T.g_law_draw T.k_law_draw (pd_cons (pd_v 1) (pd_cons (pd_len (by rfl) T.b_len (by decide +kernel) (pd_ix (pd_v 9) pd_int)) pd_nil))))
      (sd_cons (sd_set (i := 12) sc_law.nd rfl (by first | exact Or.inl rfl | exact Or.inr rfl) (pd_tup (pd_cons pd_non (pd_cons pd_non pd_nil))))
      (sd_cons (sd_set (i := 13) sc_law.nd rfl (by first | exact Or.inl rfl | exact Or.inr rfl) (pd_new (pd_cons (pd_lst (pd_cons (pd_tup (pd_cons (pd_tup pd_nil) (pd_cons (pd_v 5) (pd_cons (pd_v 6) (pd_cons (pd_v 7) pd_nil))))) (pd_cons (pd_lst (pd_cons (pd_v 12) (pd_cons pd_str pd_nil))) pd_nil))) (pd_cons (pd_lst (pd_cons (pd_tup (pd_cons (pd_op op_mulD dat_mul (pd_tup (pd_cons pd_int pd_nil)) pd_int) (pd_cons (pd_v 5) (pd_cons (pd_v 6) (pd_cons (pd_v 7) pd_nil))))) (pd_cons (pd_lst (pd_cons (pd_v 12) (pd_cons pd_str pd_nil))) pd_nil))) (pd_cons (pd_lst (pd_cons (pd_tup (pd_cons (pd_ty call_list_of dat_list (by rfl) T.b_list (by decide +kernel) (pd_cons (pd_v 4) pd_nil)) (pd_cons (pd_v 5) (pd_cons (pd_v 6) (pd_cons (pd_v 7) pd_nil))))) (pd_cons (pd_lst (pd_cons (pd_v 12) (pd_cons pd_str pd_nil))) pd_nil))) pd_nil)))))
      (sd_cons (sd_set (i := 13) sc_law.nd rfl (by first | exact Or.inl rfl | exact Or.inr rfl) (pd_catN (pd_v 13) (pd_lst (pd_cons (pd_lst (pd_cons (pd_tup (pd_cons (pd_op op_addD dat_add (pd_v 4) (pd_tup (pd_cons pd_bl pd_nil))) (pd_cons (pd_v 5) (pd_cons (pd_v 6) (pd_cons (pd_v 7) pd_nil))))) (pd_cons (pd_lst (pd_cons (pd_v 12) (pd_cons pd_str pd_nil))) pd_nil))) (pd_cons (pd_lst (pd_cons (pd_tup (pd_cons (pd_v 4) (pd_cons pd_int (pd_cons (pd_v 6) (pd_cons (pd_v 7) pd_nil))))) (pd_cons (pd_lst (pd_cons (pd_v 12) (pd_cons pd_str pd_nil))) pd_nil))) pd_nil)))))
      (sd_cons (sd_set (i := 13) sc_law.nd rfl (by first | exact Or.inl rfl | exact Or.inr rfl) (pd_catN (pd_v 13) (pd_lst (pd_cons (pd_lst (pd_cons (pd_tup (pd_cons (pd_v 4) (pd_cons pd_bl (pd_cons (pd_v 6) (pd_cons (pd_v 7) pd_nil))))) (pd_cons (pd_lst (pd_cons (pd_v 12) (pd_cons pd_str pd_nil))) pd_nil))) (pd_cons (pd_lst (pd_cons (pd_tup (pd_cons (pd_v 4) (pd_cons (pd_neg pd_int) (pd_cons (pd_v 6) (pd_cons (pd_v 7) pd_nil))))) (pd_cons (pd_lst (pd_cons (pd_v 12) (pd_cons pd_str pd_nil))) pd_nil))) (pd_cons (pd_lst (pd_cons (pd_tup (pd_cons (pd_v 4) (pd_cons (pd_v 5) (pd_cons (pd_tup pd_nil) (pd_cons (pd_v 7) pd_nil))))) (pd_cons (pd_lst (pd_cons (pd_v 12) (pd_cons pd_str pd_nil))) pd_nil))) pd_nil))))))
      (sd_cons (sd_set (i := 13) sc_law.nd rfl (by first | exact Or.inl rfl | exact Or.inr rfl) (pd_catN (pd_v 13) (pd_lst (pd_cons (pd_lst (pd_cons (pd_tup (pd_cons (pd_v 4) (pd_cons (pd_v 5) (pd_cons (pd_ty call_list_of dat_list (by rfl) T.b_list (by decide +kernel) (pd_cons (pd_v 6) pd_nil)) (pd_cons (pd_v 7) pd_nil))))) (pd_cons (pd_lst (pd_cons (pd_v 12) (pd_cons pd_str pd_nil))) pd_nil))) (pd_cons (pd_lst (pd_cons (pd_tup (pd_cons (pd_v 4) (pd_cons (pd_v 5) (pd_cons (pd_op op_addD dat_add (pd_v 6) (pd_tup (pd_cons pd_non pd_nil))) (pd_cons (pd_v 7) pd_nil))))) (pd_cons (pd_lst (pd_cons (pd_v 12) (pd_cons pd_str pd_nil))) pd_nil))) pd_nil)))))
      (sd_cons (sd_set (i := 13) sc_law.nd rfl (by first | exact Or.inl rfl | exact Or.inr rfl) (pd_catN (pd_v 13) (pd_lst (pd_cons (pd_lst (pd_cons (pd_tup (pd_cons (pd_v 4) (pd_cons (pd_v 5) (pd_cons (pd_op op_addD dat_add (pd_v 6) (pd_tup (pd_cons (pd_tup (pd_cons pd_str (pd_cons pd_int (pd_cons pd_int pd_nil)))) pd_nil))) (pd_cons (pd_v 7) pd_nil))))) (pd_cons (pd_lst (pd_cons (pd_v 12) (pd_cons pd_str pd_nil))) pd_nil))) (pd_cons (pd_lst (pd_cons (pd_tup (pd_cons (pd_v 4) (pd_cons (pd_v 5) (pd_cons (pd_op op_addD dat_add (pd_v 6) (pd_tup (pd_cons (pd_tup (pd_cons pd_str (pd_cons pd_int (pd_cons pd_int (pd_cons (pd_tup (pd_cons (pd_tup (pd_cons pd_str pd_nil)) pd_nil)) pd_nil))))) pd_nil))) (pd_cons (pd_v 7) pd_nil))))) (pd_cons (pd_lst (pd_cons (pd_v 12) (pd_cons pd_str pd_nil))) pd_nil))) pd_nil)))))
      (sd_cons (sd_set (i := 13) sc_law.nd rfl (by first | exact Or.inl rfl | exact Or.inr rfl) (pd_catN (pd_v 13) (pd_lst (pd_cons (pd_lst (pd_cons (pd_tup (pd_cons (pd_v 4) (pd_cons (pd_v 5) (pd_cons (pd_op op_addD dat_add (pd_v 6) (pd_sl (pd_v 6) go_none (go_some pd_int))) (pd_cons (pd_v 7) pd_nil))))) (pd_cons (pd_lst (pd_cons (pd_tup (pd_cons pd_str (pd_cons pd_non pd_nil))) (pd_cons pd_str pd_nil))) pd_nil))) pd_nil))))
      (sd_cons (sd_set (i := 14) sc_law.nd rfl (by first | exact Or.inl rfl | exact Or.inr rfl) (pd_lst (pd_cons (pd_tup (pd_cons pd_int (pd_cons pd_int (pd_cons (pd_tup (pd_cons (pd_tup (pd_cons pd_str pd_nil)) pd_nil)) (pd_cons pd_str pd_nil))))) (pd_cons (pd_tup (pd_cons pd_bl (pd_cons pd_int (pd_cons (pd_tup (pd_cons (pd_tup (pd_cons pd_str pd_nil)) pd_nil)) (pd_cons pd_str pd_nil))))) (pd_cons (pd_tup (pd_cons pd_int (pd_cons pd_int (pd_cons (pd_tup (pd_cons (pd_tup (pd_cons pd_str pd_nil)) pd_nil)) (pd_cons pd_str pd_nil))))) (pd_cons (pd_tup (pd_cons pd_int (pd_cons pd_non (pd_cons (pd_tup (pd_cons (pd_tup (pd_cons pd_str pd_nil)) pd_nil)) (pd_cons pd_str pd_nil))))) (pd_cons (pd_tup (pd_cons pd_int (pd_cons pd_int (pd_cons (pd_tup pd_nil) (pd_cons pd_str pd_nil))))) pd_nil)))))))
      (sd_cons (sd_set (i := 14) sc_law.nd rfl (by first | exact Or.inl rfl | exact Or.inr rfl) (pd_op op_addD dat_add (pd_v 14) (pd_lst (pd_cons (pd_tup (pd_cons pd_int (pd_cons pd_int (pd_cons (pd_lst (pd_cons (pd_tup (pd_cons pd_str pd_nil)) pd_nil)) (pd_cons pd_str pd_nil))))) (pd_cons (pd_tup (pd_cons pd_int (pd_cons pd_int (pd_cons (pd_op op_mulD dat_mul (pd_tup (pd_cons (pd_tup (pd_cons pd_str pd_nil)) pd_nil)) pd_int) (pd_cons pd_str pd_nil))))) pd_nil)))))
      (sd_cons (sd_for PassesOwn.never rfl (gi_seq (pd_v 14)) (pg_tup rfl (pgs_cons (pg_name (i := 15) sc_law.nd rfl (by first | exact Or.inl rfl | exact Or.inr rfl)) (pgs_cons (pg_name (i := 16) sc_law.nd rfl (by first | exact Or.inl rfl | exact Or.inr rfl)) (pgs_cons (pg_name (i := 17) sc_law.nd rfl (by first | exact Or.inl rfl | exact Or.inr rfl)) (pgs_cons (pg_name (i := 18) sc_law.nd rfl (by first | exact Or.inl rfl | exact Or.inr rfl)) pgs_nil))))) (tg_tup (vs := [15, 16, 17, 18]) (is := [15, 16, 17, 18]))
      (sd_one (sd_expr (pd_app (pd_v 13) (pd_lst (pd_cons (pd_tup (pd_cons (pd_v 4) (pd_cons (pd_v 5) (pd_cons (pd_op op_addD dat_add (pd_v 6) (pd_tup (pd_cons (pd_tup (pd_cons pd_str (pd_cons (pd_v 15) (pd_cons (pd_v 16) (pd_cons (pd_v 17) pd_nil))))) pd_nil))) (pd_cons (pd_v 7) pd_nil))))) (pd_cons (pd_lst (pd_cons (pd_tup (pd_cons pd_str (pd_cons pd_non pd_nil))) (pd_cons (pd_v 18) pd_nil))) pd_nil)))))))
      (sd_cons (sd_set (i := 19) sc_law.nd rfl (by first | exact Or.inl rfl | exact Or.inr rfl) (pd_lst (pd_cons pd_non (pd_cons (pd_tup pd_nil) (pd_cons (pd_tup (pd_cons pd_str pd_nil)) (pd_cons (pd_tup (pd_cons pd_str (pd_cons pd_int pd_nil))) (pd_cons (pd_tup (pd_cons pd_str pd_nil)) (pd_cons (pd_tup (pd_cons pd_str (pd_cons pd_int pd_nil))) (pd_cons (pd_tup (pd_cons pd_str (pd_cons pd_bl pd_nil))) (pd_cons (pd_tup (pd_cons pd_str (pd_cons pd_int pd_nil))) (pd_cons (pd_tup (pd_cons pd_str (pd_cons (pd_neg pd_int) pd_nil))) (pd_cons (pd_tup (pd_cons pd_str (pd_cons pd_bl pd_nil))) (pd_cons (pd_tup (pd_cons pd_str (pd_cons (pd_len (by rfl) T.b_len (by decide +kernel) (pd_ix (pd_v 9) pd_int)) pd_nil))) (pd_cons (pd_tup (pd_cons pd_str (pd_cons (pd_neg pd_int) pd_nil))) pd_nil))))))))))))))
      (sd_cons (sd_set (i := 19) sc_law.nd rfl (by first | exact Or.inl rfl | exact Or.inr rfl) (pd_op op_addD dat_add (pd_v 19) (pd_lst (pd_cons (pd_tup (pd_cons pd_str (pd_cons pd_str pd_nil))) (pd_cons (pd_tup (pd_cons pd_str (pd_cons pd_str (pd_cons pd_int pd_nil)))) (pd_cons (pd_tup (pd_cons pd_str (pd_cons pd_str (pd_cons (pd_len (by rfl) T.b_len (by decide +kernel) (pd_ix (pd_v 9) pd_int)) pd_nil)))) (pd_cons (pd_tup (pd_cons pd_str (pd_cons pd_str pd_nil))) (pd_cons (pd_tup (pd_cons pd_str (pd_cons pd_int pd_nil))) pd_nil))))))))
      (sd_cons (sd_set (i := 19) sc_law.nd rfl (by first | exact Or.inl rfl | exact Or.inr rfl) (pd_op op_addD dat_add (pd_v 19) (pd_lst (pd_cons (pd_tup (pd_cons pd_str (pd_cons pd_str pd_nil))) (pd_cons (pd_tup (pd_cons pd_str (pd_cons (pd_len (by rfl) T.b_len (by decide +kernel) (pd_v 4)) pd_nil))) (pd_cons (pd_tup (pd_cons pd_str (pd_cons (pd_neg pd_int) pd_nil))) (pd_cons (pd_tup (pd_cons pd_str (pd_cons pd_bl pd_nil))) (pd_cons (pd_tup (pd_cons pd_str (pd_cons (pd_v 5) pd_nil))) (pd_cons (pd_tup (pd_cons pd_str (pd_cons (pd_v 5) pd_nil))) (pd_cons (pd_tup (pd_cons pd_str (pd_cons pd_non pd_nil))) (pd_cons (pd_lst (pd_cons pd_str pd_nil)) (pd_cons (pd_tup (pd_cons pd_str (pd_cons pd_int pd_nil))) (pd_cons (pd_tup (pd_cons pd_int pd_nil)) (pd_cons (pd_tup (pd_cons pd_str pd_nil)) pd_nil))))))))))))))
      (sd_cons (sd_for PassesOwn.never rfl (gi_seq (pd_lc (own := [("k", 20)]) rfl sc_law.nd (gi_rg1 rfl T.b_range pd_int) (blkOk_by (own := [("k", 20)]) (N := ["script", "draws", "turn", "told", "cells", "locks", "procs", "start", "program", "proc", "op", "at", "none", "cases", "wrong", "params", "more", "code", "word", "ops", "k", "changed", "due", "one"]) (sc := defScope s_law) (by decide +kernel)) (fun _ _ _ _ _ => (pg_name (i := 20) sc_law.nd rfl (by first | exact Or.inl rfl | exact Or.inr rfl))) tg_name (fun _ _ _ _ _ => ptd_nil) (fun _ _ _ _ _ => (pd_ix (pd_v 19) (pd_call0 G_law_draw (hr.mono (by decide)) rfl T.g_law_draw T.k_law_draw (pd_cons (pd_v 1) (pd_cons (pd_len (by rfl) T.b_len (by decide +kernel) (pd_v 19)) pd_nil))))))) (pg_name (i := 10) sc_law.nd rfl (by first | exact Or.inl rfl | exact Or.inr rfl)) (tg_name (vs := [10]))
      (sd_cons (sd_set (i := 21) sc_law.nd rfl (by first | exact Or.inl rfl | exact Or.inr rfl) (pd_tup (pd_cons (pd_ix (pd_v 9) pd_int) (pd_cons (pd_ix (pd_v 9) pd_int) (pd_cons (pd_ix (pd_v 9) pd_int) (pd_cons (pd_op op_addD dat_add (pd_op op_addD dat_add (pd_sl (pd_ix (pd_v 9) pd_int) go_none (go_some (pd_v 11))) (pd_tup (pd_cons (pd_v 10) pd_nil))) (pd_sl (pd_ix (pd_v 9) pd_int) (go_some (pd_op op_addD dat_add (pd_v 11) pd_int)) go_none)) pd_nil))))))
      (sd_one (sd_expr (pd_app (pd_v 13) (pd_lst (pd_cons (pd_tup (pd_cons (pd_v 4) (pd_cons (pd_v 5) (pd_cons (pd_tup (pd_cons (pd_ix (pd_v 6) pd_int) (pd_cons (pd_v 21) (pd_cons (pd_ix (pd_v 6) pd_int) pd_nil)))) (pd_cons (pd_v 7) pd_nil))))) (pd_cons (pd_lst (pd_cons (pd_tup (pd_cons pd_str (pd_cons (pd_v 11) pd_nil))) (pd_cons pd_str pd_nil))) pd_nil))))))))
      (sd_cons (sd_set (i := 13) sc_law.nd rfl (by first | exact Or.inl rfl | exact Or.inr rfl) (pd_catN (pd_v 13) (pd_lst (pd_cons (pd_lst (pd_cons (pd_tup (pd_cons (pd_v 4) (pd_cons (pd_v 5) (pd_cons (pd_v 6) (pd_cons pd_str pd_nil))))) (pd_cons (pd_lst (pd_cons (pd_v 12) (pd_cons pd_str pd_nil))) pd_nil))) (pd_cons (pd_lst (pd_cons (pd_tup (pd_cons (pd_v 4) (pd_cons (pd_v 5) (pd_cons (pd_v 6) (pd_cons pd_str pd_nil))))) (pd_cons (pd_lst (pd_cons (pd_v 12) (pd_cons pd_str pd_nil))) pd_nil))) (pd_cons (pd_lst (pd_cons (pd_tup (pd_cons (pd_v 4) (pd_cons (pd_v 5) (pd_cons (pd_v 6) (pd_cons pd_non pd_nil))))) (pd_cons (pd_lst (pd_cons (pd_v 12) (pd_cons pd_str pd_nil))) pd_nil))) pd_nil))))))
      (sd_cons (sd_for PassesOwn.never rfl (gi_seq (pd_v 13)) (pg_lst rfl (pgs_cons (pg_name (i := 21) sc_law.nd rfl (by first | exact Or.inl rfl | exact Or.inr rfl)) (pgs_cons (pg_name (i := 22) sc_law.nd rfl (by first | exact Or.inl rfl | exact Or.inr rfl)) pgs_nil))) (tg_lst (vs := [21, 22]) (is := [21, 22]))
      (sd_one (sd_if (PW.pt (qd_or (qd_not (qd_val (pd_call0 G_law_same (hr.mono (by decide)) rfl T.g_law_same T.k_law_same (pd_cons (pd_call0 G_law_asked (hr.mono (by decide)) rfl T.g_law_asked T.k_law_asked (pd_cons (pd_v 21) pd_nil)) (pd_cons (pd_v 22) pd_nil))))) (qd_or1 (qd_cmp op_notBl dat_nisB (pd_call0 G_is_program (hr.mono (by decide)) rfl T.g_is_program T.k_is_program (pd_cons (pd_v 21) pd_nil)) pd_bl (nomark _))))) (sd_one (sd_ret pd_bl)) sd_nil)))
      (sd_one (sd_if (qd_cmp (op_neA hr.units) dat_ne (pd_lc (own := [("one", 23)]) rfl sc_law.nd (gi_seq (pd_lst (pd_cons pd_non (pd_cons (pd_sl (pd_v 3) go_none (go_some pd_int)) (pd_cons (pd_ty call_list_of dat_list (by rfl) T.b_list (by decide +kernel) (pd_cons (pd_v 3) pd_nil)) (pd_cons (pd_op op_addD dat_add (pd_v 3) (pd_tup (pd_cons pd_int pd_nil))) pd_nil)))))) (blkOk_by (own := [("one", 23)]) (N := ["script", "draws", "turn", "told", "cells", "locks", "procs", "start", "program", "proc", "op", "at", "none", "cases", "wrong", "params", "more", "code", "word", "ops", "k", "changed", "due", "one"]) (sc := defScope s_law) (by decide +kernel)) (fun _ _ _ _ _ => (pg_name (i := 23) sc_law.nd rfl (by first | exact Or.inl rfl | exact Or.inr rfl))) tg_name (fun _ _ _ _ _ => ptd_nil) (fun _ _ _ _ _ => (pd_call0 G_is_program (hr.mono (by decide)) rfl T.g_is_program T.k_is_program (pd_cons (pd_v 23) pd_nil)))) (pd_op op_mulD dat_mul (pd_lst (pd_cons pd_bl pd_nil)) pd_int) (nomark _)) (sd_one (sd_ret pd_bl)) sd_nil))))))))))))))))))))))))))
      (sd_one (sd_ret pd_bl)))

end
end My

set_option Elab.async false
set_option linter.all false
set_option maxRecDepth 100000
set_option maxHeartbeats 4000000
/-! ## law k01: each changed program is refused at its place with its word -/
namespace My
open PySem L2
def startP (many : Int) (sc : List PyData) : PyData := .tuple [.str "start", .int 0, .int (1 + many), .tuple sc]
def workP (wc : List PyData) : PyData := .tuple [.str "work", .int 1, .int 1, .tuple wc]
def prs (many : Int) (sc wc : List PyData) : List PyData := [startP many sc, workP wc, twiceD]
def clD (first : List Int) : PyData := .tuple (first.map .int)
def ns3 : List Str := ["start", "work", "twice"]
theorem lookD_ok {names : List Str} {n : Str} {i j : Int} {code : List PyData} (hn : nameS n = true) (hm : ¬ n ∈ names) (hi : 0 ≤ i ∧ i ≤ 4) (hj : 0 ≤ j ∧ j ≤ 8 - i) (hc : 0 < code.length ∧ code.length ≤ 80) :
    lookD names (.tuple [.str n, .int i, .int j, .tuple code]) = none := by
  show (if nameS n = false then some (none2, ("proc" : Str)) else if n ∈ names then some (PyData.tuple [.str n, .none], "twice") else lookT n (.int i) (.int j) (.tuple code)) = none
  rw [if_neg (by rw [hn]; decide), if_neg hm, lookT_c hi hj]
  show (if (decide (0 < code.length) && decide (code.length ≤ 80)) = true then none else some (PyData.tuple [.str n, .none], ("code" : Str))) = none
  rw [if_pos (by rw [and2]; exact hc)]
theorem codeBad_ok {B : Bnd} {n : Str} : ∀ {code : List PyData} {k : Nat}, (∀ op ∈ code, instrD B op = true) → codeBad B n k code = none
  | [], _, _ => rfl
  | op :: r, k, h => by
    show (if instrD B op = true then codeBad B n (k + 1) r else some (PyData.tuple [.str n, .int (k : Nat)], ("instruction" : Str))) = none
    rw [if_pos (h op List.mem_cons_self)]
    exact codeBad_ok fun o ho => h o (List.mem_cons_of_mem _ ho)
theorem progD_of {c l p s : PyData} (hc : cellsD c = true) (hl : inD 0 7 l = true) (hp : lenD p = true) : progD c l p s = procsD (itemsD c).length (intD l) (itemsD p) s := by
  unfold progD
  rw [if_neg (by rw [hc]; decide), if_neg (by rw [hl]; decide), if_neg (by rw [hp]; decide)]
theorem bad_cells {c l p s : PyData} (hc : cellsD c = false) : progD c l p s = some (none2, ("cells" : Str)) := by
  unfold progD; rw [if_pos hc]
theorem bad_locks {c l p s : PyData} (hc : cellsD c = true) (hl : inD 0 7 l = false) : progD c l p s = some (none2, ("locks" : Str)) := by
  unfold progD; rw [if_neg (by rw [hc]; decide), if_pos hl]
theorem bad_procs {c l p s : PyData} (hc : cellsD c = true) (hl : inD 0 7 l = true) (hp : lenD p = false) : progD c l p s = some (none2, ("procs" : Str)) := by
  unfold progD; rw [if_neg (by rw [hc]; decide), if_neg (by rw [hl]; decide), if_pos hp]
theorem words_ints : ∀ {ns : List Int}, (∀ n ∈ ns, -2 ≤ n ∧ n ≤ 4) → (ns.map PyData.int).all wordD = true
  | [], _ => rfl
  | n :: ns, h => by
    obtain ⟨a, b⟩ := h n List.mem_cons_self
    rw [List.map_cons, List.all_cons, words_ints fun m hm => h m (List.mem_cons_of_mem _ hm)]
    show (decide (-2147483648 ≤ n) && decide (n < 2147483648) && true) = true
    rw [decide_eq_true (by omega), decide_eq_true (by omega)]; rfl
theorem codeAll_cons {cells : Nat} {L : Int} {names : List Str} {d : PyData} {ds : List PyData} (h : codeBad (bndOf cells L names d) (procName d) 0 (procCode d) = none) : codeAll cells L names (d :: ds) = codeAll cells L names ds := by
  show (match codeBad (bndOf cells L names d) (procName d) 0 (procCode d) with | some e => some e | none => codeAll cells L names ds) = _
  rw [h]
theorem lookAll_cons {names : List Str} {d : PyData} {ds : List PyData} (h : lookD names d = none) : lookAll names (d :: ds) = lookAll (names ++ [procName d]) ds := by
  show (match lookD names d with | some e => some e | none => lookAll (names ++ [procName d]) ds) = _
  rw [h]
theorem lookAll_bad {names : List Str} {d : PyData} {ds : List PyData} {e : PyData × Str} (h : lookD names d = some e) : lookAll names (d :: ds) = some e := by
  show (match lookD names d with | some e => some e | none => lookAll (names ++ [procName d]) ds) = _
  rw [h]
section
variable {first : List Int} {l many : Int} {sc wc : List PyData}
theorem ProgOk.cells (P : ProgOk first l many sc wc) : cellsD (clD first) = true := by
  show (decide (0 < (first.map PyData.int).length) && (decide ((first.map PyData.int).length ≤ 16) && (first.map PyData.int).all wordD)) = true
  rw [words_ints P.fw, List.length_map, decide_eq_true (by have := P.f1; omega), decide_eq_true (by have := P.f4; omega)]; rfl
theorem ProgOk.locks (P : ProgOk first l many sc wc) : inD 0 7 (.int l) = true := in_ok' P.l0 (by have := P.l2; omega)
theorem ProgOk.lk1 (P : ProgOk first l many sc wc) {names : List Str} (h : ¬ ("start" : Str) ∈ names) : lookD names (startP many sc) = none :=
  lookD_ok (by decide +kernel) h ⟨by decide, by decide⟩ ⟨by have := P.m1; omega, by have := P.m3; omega⟩ ⟨by have := P.s4; omega, by have := P.s60; omega⟩
theorem lk2 {wc : List PyData} (h1 : 0 < wc.length) (h2 : wc.length ≤ 80) {names : List Str} (h : ¬ ("work" : Str) ∈ names) : lookD names (workP wc) = none :=
  lookD_ok (by decide +kernel) h ⟨by decide, by decide⟩ ⟨by decide, by decide⟩ ⟨h1, h2⟩
theorem lk3 {names : List Str} (h : ¬ ("twice" : Str) ∈ names) : lookD names twiceD = none :=
  lookD_ok (by decide +kernel) h ⟨by decide, by decide⟩ ⟨by decide, by decide⟩ ⟨by decide, by decide⟩
theorem ProgOk.look' (P : ProgOk first l many sc wc) {wc' : List PyData} (h1 : 0 < wc'.length) (h2 : wc'.length ≤ 80) (more : List PyData) : lookAll [] (prs many sc wc' ++ more) = lookAll ns3 more := by
  have e1 : lookAll [] (prs many sc wc' ++ more) = lookAll [("start" : Str)] (workP wc' :: twiceD :: more) := lookAll_cons (P.lk1 (by decide))
  have e2 : lookAll [("start" : Str)] (workP wc' :: twiceD :: more) = lookAll [("start" : Str), "work"] (twiceD :: more) := lookAll_cons (lk2 h1 h2 (by decide))
  have e3 : lookAll [("start" : Str), "work"] (twiceD :: more) = lookAll [("start" : Str), "work", "twice"] more := lookAll_cons (lk3 (by decide))
  rw [e1, e2, e3]; rfl
theorem ProgOk.look (P : ProgOk first l many sc wc) (more : List PyData) : lookAll [] (prs many sc wc ++ more) = lookAll ns3 more := P.look' (by have := P.w12; omega) (by have := P.w40; omega) more
def bndS (first : List Int) (l many : Int) (sc : List PyData) : Bnd := ⟨first.length, l, 0 + (1 + many), sc.length, ns3⟩
def bndW (first : List Int) (l : Int) (n : Nat) : Bnd := ⟨first.length, l, 1 + 1, n, ns3⟩
theorem ProgOk.code1 (P : ProgOk first l many sc wc) : codeBad (bndS first l many sc) "start" 0 sc = none := codeBad_ok fun op ho => (P.so.get op ho).ok _ ⟨⟨rfl, rfl, by have := P.m1; show (1 : Int) ≤ 0 + (1 + many); omega, rfl⟩, (by show 0 + (1 + many) = 1 + many; omega), rfl⟩
theorem ProgOk.opW (P : ProgOk first l many sc wc) {op : PyData} (ho : op ∈ wc) : instrD (bndW first l wc.length) op = true := (P.wo.get op ho).ok _ ⟨⟨rfl, rfl, (show (1 : Int) ≤ 1 + 1 by decide), rfl⟩, rfl, rfl⟩
theorem twice_ok {cells : Nat} {L : Int} : codeBad (bndOf cells L ns3 twiceD) "twice" 0 [.tuple [.str "load", .int 0], .tuple [.str "int", .int 2], .tuple [.str "mul"], .tuple [.str "give"]] = none :=
  codeBad_ok fun op ho => by
    have o : Ops (fun B => B.own = 1) [.tuple [.str "load", .int 0], .tuple [.str "int", .int 2], .tuple [.str "mul"], .tuple [.str "give"]] := ⟨op_own (.inl rfl) (Int.le_refl _) (fun B q => by rw [q]; decide), op_int ⟨by decide, by decide⟩, op_alone rfl (by decide), op_alone rfl (by decide), trivial⟩
    exact (o.get op ho).ok _ rfl
theorem ProgOk.codes (P : ProgOk first l many sc wc) : codeAll first.length l ns3 (prs many sc wc) = none := by
  have e1 : codeAll first.length l ns3 (prs many sc wc) = codeAll first.length l ns3 [workP wc, twiceD] := codeAll_cons P.code1
  have e2 : codeAll first.length l ns3 [workP wc, twiceD] = codeAll first.length l ns3 [twiceD] := codeAll_cons (codeBad_ok fun op ho => P.opW ho)
  have e3 : codeAll first.length l ns3 [twiceD] = codeAll first.length l ns3 [] := codeAll_cons twice_ok
  rw [e1, e2, e3]; rfl
theorem ProgOk.progS (P : ProgOk first l many sc wc) {s : PyData} : progD (clD first) (.int l) (.tuple (prs many sc wc)) s = if startD (prs many sc wc) s = true then none else some (none2, ("start" : Str)) := by
  rw [progD_of P.cells P.locks rfl]
  show procsD (first.map PyData.int).length l (prs many sc wc) s = _
  rw [List.length_map]
  unfold procsD
  have e : lookAll [] (prs many sc wc) = none := by have := P.look []; rw [List.append_nil] at this; exact this
  rw [e]
  show (match codeAll first.length l ns3 (prs many sc wc) with | some e => some e | none => _) = _
  rw [P.codes]
theorem ProgOk.fine (P : ProgOk first l many sc wc) : progD (clD first) (.int l) (.tuple (prs many sc wc)) (.str "start") = none := by
  rw [P.progS, if_pos]
  show (nameS "start" && decide ((0 : Int) ≤ 0)) = true
  decide +kernel
/-- a proc more that is none -/
theorem ProgOk.bad_more (P : ProgOk first l many sc wc) {x s : PyData} {e : PyData × Str} (h : lookD ns3 x = some e) : progD (clD first) (.int l) (.tuple (prs many sc wc ++ [x])) s = some e := by
  rw [progD_of P.cells P.locks rfl]
  show procsD (first.map PyData.int).length l (prs many sc wc ++ [x]) s = _
  unfold procsD
  rw [P.look, lookAll_bad h]
theorem codeBad_at {B : Bnd} {n : Str} {a b : List PyData} {op : PyData} (h : ∀ o ∈ a, instrD B o = true) (hb : instrD B op = false) : codeBad B n 0 (a ++ op :: b) = some (PyData.tuple [.str n, .int (a.length : Nat)], ("instruction" : Str)) := by
  rw [codeBad_app (codeBad_ok h), Nat.zero_add]
  show (if instrD B op = true then _ else _) = _
  rw [if_neg (by rw [hb]; decide)]
/-- an instruction that is none -/
theorem ProgOk.bad_op (P : ProgOk first l many sc wc) {at_ : Nat} {op s : PyData} (ha : at_ < wc.length) (hb : instrD (bndW first l wc.length) op = false) :
    progD (clD first) (.int l) (.tuple (prs many sc (wc.take at_ ++ op :: wc.drop (at_ + 1)))) s = some (PyData.tuple [.str "work", .int (at_ : Nat)], ("instruction" : Str)) := by
  have hl : (wc.take at_ ++ op :: wc.drop (at_ + 1)).length = wc.length := by
    rw [List.length_append, List.length_cons, List.length_take, List.length_drop]; omega
  rw [progD_of P.cells P.locks rfl]
  show procsD (first.map PyData.int).length l (prs many sc (wc.take at_ ++ op :: wc.drop (at_ + 1))) s = _
  rw [List.length_map]
  unfold procsD
  have e : lookAll [] (prs many sc (wc.take at_ ++ op :: wc.drop (at_ + 1))) = none := by
    have := P.look' (wc' := wc.take at_ ++ op :: wc.drop (at_ + 1)) (by have := P.w12; omega) (by have := P.w40; omega) []
    rw [List.append_nil] at this; exact this
  rw [e]
  have e1 : codeAll first.length l ns3 (prs many sc (wc.take at_ ++ op :: wc.drop (at_ + 1))) = codeAll first.length l ns3 [workP (wc.take at_ ++ op :: wc.drop (at_ + 1)), twiceD] := codeAll_cons P.code1
  have e2 : codeBad (bndOf first.length l ns3 (workP (wc.take at_ ++ op :: wc.drop (at_ + 1)))) "work" 0 (wc.take at_ ++ op :: wc.drop (at_ + 1)) = some (PyData.tuple [.str "work", .int (at_ : Nat)], ("instruction" : Str)) := by
    have hB : bndOf first.length l ns3 (workP (wc.take at_ ++ op :: wc.drop (at_ + 1))) = bndW first l wc.length := by
      show (⟨first.length, l, 1 + 1, (wc.take at_ ++ op :: wc.drop (at_ + 1)).length, ns3⟩ : Bnd) = _
      rw [hl]; rfl
    rw [hB, codeBad_at (fun o ho => P.opW (List.mem_of_mem_take ho)) hb, List.length_take, Nat.min_eq_left (by omega)]
  show (match codeAll first.length l ns3 (prs many sc (wc.take at_ ++ op :: wc.drop (at_ + 1))) with | some e => some e | none => _) = _
  rw [e1]
  show (match (match codeBad (bndOf first.length l ns3 (workP (wc.take at_ ++ op :: wc.drop (at_ + 1)))) "work" 0 (wc.take at_ ++ op :: wc.drop (at_ + 1)) with | some e => some e | none => _) with | some e => some e | none => _) = _
  rw [e2]
end
end My

set_option Elab.async false
set_option linter.all false
set_option maxRecDepth 100000
set_option maxHeartbeats 4000000
/-! ## law k01: the statements of a turn -/
namespace My
open PySem L2
mutual
def shB : PyData → Bool
  | .str s => decide (s.length ≤ 100000)
  | .tuple ds => shBs ds
  | .list ds => shBs ds
  | _ => true
def shBs : List PyData → Bool
  | [] => true
  | d :: ds => shB d && shBs ds
end
mutual
theorem shB_ok : ∀ {d : PyData}, shB d = true → Sh d
  | .none, _ => trivial
  | .bool _, _ => trivial
  | .int _, _ => trivial
  | .str s, h => (of_decide_eq_true (p := s.length ≤ 100000) h : s.length ≤ 100000)
  | .tuple ds, h => shBs_ok (ds := ds) h
  | .list ds, h => shBs_ok (ds := ds) h
  | .dict _, _ => trivial
theorem shBs_ok : ∀ {ds : List PyData}, shBs ds = true → Shs ds
  | [], _ => trivial
  | d :: ds, h => ⟨shB_ok (d := d) (Bool.and_eq_true_iff.mp h).1, shBs_ok (ds := ds) (Bool.and_eq_true_iff.mp h).2⟩
end
/-- a case: what is asked, and what is due -/
def CaseOk (d : PyData) : Prop := ∃ c l p s pl wd, d = .list [.tuple [c, l, p, s], .list [pl, .str wd]] ∧ progD c l p s = some (pl, wd) ∧ Sh (.tuple [c, l, p, s]) ∧ NoL pl ∧ fitD (.tuple [c, l, p, s]) = true ∧ fitD pl = true ∧ depD pl ≤ 5
theorem CaseOk.mk {c l p s pl : PyData} {wd : Str} (h : progD c l p s = some (pl, wd)) (a1 : Sh c) (a2 : Sh l) (a3 : Sh p) (a4 : Sh s) (b : NoL pl) (f1 : fitD c = true) (f2 : fitD l = true) (f3 : fitD p = true) (f4 : fitD s = true) (f5 : fitD pl = true) (hd : depD pl ≤ 5) :
    CaseOk (.list [.tuple [c, l, p, s], .list [pl, .str wd]]) := ⟨c, l, p, s, pl, wd, rfl, h, ⟨a1, a2, a3, a4, trivial⟩, b, by
      show (decide (4 ≤ 1000000) && (fitD c && (fitD l && (fitD p && (fitD s && true))))) = true
      rw [f1, f2, f3, f4]; rfl, f5, hd⟩
theorem shs_app : ∀ {a b : List PyData}, Shs a → Shs b → Shs (a ++ b)
  | [], _, _, h => h
  | _ :: _, _, h, k => ⟨h.1, shs_app h.2 k⟩
theorem fit_app : ∀ {a b : List PyData}, fitDs a = true → fitDs b = true → fitDs (a ++ b) = true
  | [], _, _, h => h
  | x :: a, b, h, k => by
    obtain ⟨h1, h2⟩ := Bool.and_eq_true_iff.mp h
    show (fitD x && fitDs (a ++ b)) = true
    rw [h1, fit_app h2 k]; rfl
theorem shs_of : ∀ {a : List PyData}, (∀ d ∈ a, Sh d) → Shs a
  | [], _ => trivial
  | _ :: _, h => ⟨h _ List.mem_cons_self, shs_of fun d hd => h d (List.mem_cons_of_mem _ hd)⟩
theorem fits_of : ∀ {a : List PyData}, (∀ d ∈ a, fitD d = true) → fitDs a = true
  | [], _ => rfl
  | x :: a, h => by
    show (fitD x && fitDs a) = true
    rw [h x List.mem_cons_self, fits_of fun d hd => h d (List.mem_cons_of_mem _ hd)]; rfl
theorem deps_of {n : Nat} : ∀ {a : List PyData}, (∀ d ∈ a, depD d ≤ n) → depDs a ≤ n
  | [], _ => Nat.zero_le _
  | x :: a, h => Nat.max_le.mpr ⟨h x List.mem_cons_self, deps_of fun d hd => h d (List.mem_cons_of_mem _ hd)⟩
theorem fit_tup {ds : List PyData} (hl : ds.length ≤ 1000000) (h : fitDs ds = true) : fitD (.tuple ds) = true := by
  show (decide (ds.length ≤ 1000000) && fitDs ds) = true
  rw [decide_eq_true hl, h]; rfl
theorem fit_lst {ds : List PyData} (hl : ds.length ≤ 1000000) (h : fitDs ds = true) : fitD (.list ds) = true := by
  show (decide (ds.length ≤ 1000000) && fitDs ds) = true
  rw [decide_eq_true hl, h]; rfl
section
variable {first : List Int} {l many : Int} {sc wc : List PyData}
theorem clD_sh : Sh (clD first) := shs_of fun d hd => by obtain ⟨n, _, rfl⟩ := List.mem_map.mp hd; trivial
theorem ints_fit : fitDs (first.map PyData.int) = true := fits_of fun d hd => by obtain ⟨n, _, rfl⟩ := List.mem_map.mp hd; rfl
theorem ints_dep : depDs (first.map PyData.int) ≤ 0 := deps_of fun d hd => by obtain ⟨n, _, rfl⟩ := List.mem_map.mp hd; exact Nat.le_refl _
theorem ProgOk.clfit (P : ProgOk first l many sc wc) : fitD (clD first) = true := fit_tup (by rw [List.length_map]; have := P.f4; omega) ints_fit
theorem ProgOk.scsh (P : ProgOk first l many sc wc) : Shs sc := shs_of fun d hd => (P.so.get d hd).sh
theorem ProgOk.wcsh (P : ProgOk first l many sc wc) : Shs wc := shs_of fun d hd => (P.wo.get d hd).sh
theorem ProgOk.scfit (P : ProgOk first l many sc wc) : fitDs sc = true := fits_of fun d hd => (P.so.get d hd).fit
theorem ProgOk.wcfit (P : ProgOk first l many sc wc) : fitDs wc = true := fits_of fun d hd => (P.wo.get d hd).fit
theorem pr_sh {n : Str} {i j : Int} {code : List PyData} (hn : n.length ≤ 100000) (h : Shs code) : Sh (.tuple [.str n, .int i, .int j, .tuple code]) := ⟨hn, trivial, trivial, h, trivial⟩
theorem pr_fit {n : Str} {i j : Int} {code : List PyData} (hl : code.length ≤ 1000000) (h : fitDs code = true) : fitD (.tuple [.str n, .int i, .int j, .tuple code]) = true := by
  show (decide (4 ≤ 1000000) && (true && (true && (true && (fitD (.tuple code) && true))))) = true
  rw [fit_tup hl h]; rfl
theorem twice_sh : Sh twiceD := by
  exact shB_ok rfl
theorem ProgOk.prsh (P : ProgOk first l many sc wc) {wc' : List PyData} (h : Shs wc') : Shs (prs many sc wc') := ⟨pr_sh (by decide) P.scsh, pr_sh (by decide) h, twice_sh, trivial⟩
theorem ProgOk.prfit (P : ProgOk first l many sc wc) {wc' : List PyData} (hl : wc'.length ≤ 1000000) (h : fitDs wc' = true) : fitDs (prs many sc wc') = true := by
  show (fitD (startP many sc) && (fitD (workP wc') && (fitD twiceD && true))) = true
  have e1 : fitD (startP many sc) = true := pr_fit (by have := P.s60; omega) P.scfit
  have e2 : fitD (workP wc') = true := pr_fit hl h
  rw [e1, e2]; rfl
theorem ProgOk.psh (P : ProgOk first l many sc wc) {more : List PyData} (h : Shs more) : Sh (.tuple (prs many sc wc ++ more)) := shs_app (P.prsh P.wcsh) h
theorem ProgOk.pfit (P : ProgOk first l many sc wc) {more : List PyData} (hl : more.length ≤ 100) (h : fitDs more = true) : fitD (.tuple (prs many sc wc ++ more)) = true :=
  fit_tup (by rw [List.length_append]; show 3 + more.length ≤ 1000000; omega) (fit_app (P.prfit (by have := P.w40; omega) P.wcfit) h)
theorem ProgOk.case_more (P : ProgOk first l many sc wc) {x pl : PyData} {wd : Str} (h : lookD ns3 x = some (pl, wd)) (hs : Sh x) (hf : fitD x = true) (b : NoL pl) (f5 : fitD pl = true) (hd : depD pl ≤ 5) :
    CaseOk (.list [.tuple [clD first, .int l, .tuple (prs many sc wc ++ [x]), .str "start"], .list [pl, .str wd]]) :=
  .mk (P.bad_more (s := .str "start") h) clD_sh trivial (P.psh ⟨hs, trivial⟩) (show (5 : Nat) ≤ 100000 by decide) b P.clfit rfl (P.pfit (show (1 : Nat) ≤ 100 by decide) (by show (fitD x && true) = true; rw [hf]; rfl)) rfl f5 hd
theorem inD_self {lo n : Int} : inD lo n (.int n) = false := by
  show (decide (lo ≤ n) && decide (n < n)) = false
  rw [decide_eq_false (Int.lt_irrefl n), Bool.and_false]
/-- the instructions that are none -/
def opsL (c l n : Int) : List PyData := [.none, .tuple [], .tuple [.str "Add"], .tuple [.str "add", .int 1], .tuple [.str "int"], .tuple [.str "int", .int 2147483648], .tuple [.str "int", .bool true], .tuple [.str "load", .int 2], .tuple [.str "load", .int (-1)],
  .tuple [.str "store", .bool true], .tuple [.str "goto", .int n], .tuple [.str "goto", .int (-1)],
  .tuple [.str "if", .str "lt"], .tuple [.str "if", .str "less", .int 0], .tuple [.str "if", .str "lt", .int n], .tuple [.str "call", .str "far"], .tuple [.str "call", .int 5],
  .tuple [.str "spawn", .str "far"], .tuple [.str "get", .int c], .tuple [.str "put", .int (-1)], .tuple [.str "trade", .bool true], .tuple [.str "lock", .int l], .tuple [.str "free", .int l], .tuple [.str "free", .none], .list [.str "give"], .tuple [.str "give", .int 0], .tuple [.int 5], .tuple [.str "end"]]
theorem opsL_bad {c n : Nat} {l : Int} : ∀ op ∈ opsL c l n, instrD ⟨c, l, 1 + 1, n, ns3⟩ op = false ∧ Sh op ∧ fitD op = true := by
  intro op ho
  simp only [opsL, List.mem_cons, List.not_mem_nil, or_false] at ho
  have e1 : inD 0 (n : Int) (.int n) = false := inD_self
  have e2 : inD 0 (c : Int) (.int c) = false := inD_self
  have e3 : inD 0 l (.int l) = false := inD_self
  rcases ho with rfl | rfl | rfl | rfl | rfl | rfl | rfl | rfl | rfl | rfl | rfl | rfl | rfl | rfl | rfl | rfl | rfl | rfl | rfl | rfl | rfl | rfl | rfl | rfl | rfl | rfl | rfl | rfl
  all_goals refine ⟨?_, shB_ok rfl, rfl⟩
  all_goals first | rfl | exact e1 | exact e2 | exact e3 | (show (true && (true && inD 0 (n : Int) (.int n))) = false; rw [e1]; rfl) | skip
end
end My

set_option Elab.async false
set_option linter.all false
set_option maxRecDepth 100000
set_option maxHeartbeats 4000000
/-! ## law k01: the statements of a turn -/
namespace My
open PySem L2
theorem valM_byM {q : Str} {row : PyData} : ∀ {ds : List PyData}, ds.find? (fun d => decide (procName d = q)) = some row → valM (byM ds) (Sum.inr q) = some (.i row)
  | [], h => by cases h
  | d :: ds, h => by
    by_cases e : procName d = q
    · rw [List.find?_cons_of_pos (by simpa using e)] at h
      cases h
      simp [valM, byM, e]
    · rw [List.find?_cons_of_neg (by simpa using e)] at h
      have := valM_byM h
      simp only [valM, byM, List.map_cons] at this ⊢
      rw [List.find?_cons_of_neg (by simpa using e)]
      exact this
theorem PgG.ext {C : Addr} {h h' : MH} {a : Addr} {c l p s : PyData} {ds : List PyData} (g : PgG C h a c l p s ds) (k : ∀ b o, h b = some o → h' b = some o) : PgG C h' a c l p s ds := by
  obtain ⟨dx, b, kvs, e1, e2, n, q⟩ := g
  exact ⟨dx, b, kvs, k _ _ e1, k _ _ e2, n, q⟩
theorem DrG.ext {h h' : MH} {p : Addr} (d : DrG h p) (k : ∀ b o, h b = some o → h' b = some o) : DrG h' p := by
  obtain ⟨ns, i, z, v, e, r⟩ := d
  exact ⟨ns, i, z, v, k _ _ e, r⟩
section
variable {ad : Ad} {Γ : Gam} {h : MH} {p : Addr} {nx : MH → Gam → Prop} {rt : MH → MV → Prop} {first : List Int} {l many : Int} {sc wc : List PyData}
theorem law_0 (k1 : lk Γ 1 = some (.p p)) (D : DrG h p) (k : ∀ first l many sc wc h', ProgOk first l many sc wc → DrG h' p → nx h' (st Γ 3 (some (.i (toldD first l many sc wc))))) : B_law_1_0 ad h Γ nx rt XF := by
  simp only [B_law_1_0, gsSet, gCall0, gaC, gaN, gV, k1, opt]
  exact ⟨p, rfl, D, fun first l many sc wc h' P D' _ => k first l many sc wc h' P D'⟩
structure TF (p : Addr) (first : List Int) (l many : Int) (sc wc : List PyData) (Γ : Gam) : Prop where
  (len : Γ.length = 24) (k1 : lk Γ 1 = some (.p p)) (k3 : lk Γ 3 = some (.i (toldD first l many sc wc))) (k4 : lk Γ 4 = some (.i (clD first))) (k5 : lk Γ 5 = some (.i (.int l)))
  (k6 : lk Γ 6 = some (.i (.tuple (prs many sc wc)))) (k7 : lk Γ 7 = some (.i (.str "start")))
theorem TF.st (F : TF p first l many sc wc Γ) {i : Nat} {v : Option MV} (hi : 8 ≤ i) : TF p first l many sc wc (st Γ i v) :=
  ⟨by rw [st_len]; exact F.len, by rw [lk_ne (by omega)]; exact F.k1, by rw [lk_ne (by omega)]; exact F.k3, by rw [lk_ne (by omega)]; exact F.k4, by rw [lk_ne (by omega)]; exact F.k5, by rw [lk_ne (by omega)]; exact F.k6, by rw [lk_ne (by omega)]; exact F.k7⟩
theorem law_1 (len : Γ.length = 24) (k1 : lk Γ 1 = some (.p p)) (k3 : lk Γ 3 = some (.i (toldD first l many sc wc))) (k : ∀ Γ', TF p first l many sc wc Γ' → nx h Γ') : B_law_1_1 ad h Γ nx rt XF := by
  simp only [B_law_1_1, gsAsg, gV, k3, opt, toldD, bTup, setAll, itemsOf, List.map_cons, List.map_nil]
  refine k _ ⟨?_, ?_, ?_, ?_, ?_, ?_, ?_⟩
  · simp [st_len, len]
  · simp [lk_ne, k1]
  · simp [lk_ne, k3, toldD]
  · rw [lk_ne (by decide), lk_ne (by decide), lk_ne (by decide), lk_same (by rw [len]; decide)]; rfl
  · rw [lk_ne (by decide), lk_ne (by decide), lk_same (by simp [st_len, len])]
  · rw [lk_ne (by decide), lk_same (by simp [st_len, len])]; rfl
  · rw [lk_same (by simp [st_len, len])]
theorem law_2 (P : ProgOk first l many sc wc) (F : TF p first l many sc wc Γ) (D : DrG h p) (k : ∀ h' x, PgG ad.C_Program h' x (clD first) (.int l) (.tuple (prs many sc wc)) (.str "start") (prs many sc wc) → DrG h' p → nx h' (st Γ 8 (some (.p x)))) : B_law_1_2 ad h Γ nx rt XF := by
  simp only [B_law_1_2, gsSet, gMake, gaC, gaN, gV, F.k4, F.k5, F.k6, F.k7, opt]
  intro x dx hx hdx ne
  refine ⟨x, dx, clD first, .int l, .tuple (prs many sc wc), .str "start", rfl, mset_same, clD_sh, P.prsh P.wcsh, (by decide : (5 : Nat) ≤ 100000), fun z b dx' hb hba => ⟨trivial, ?_⟩, fun pl wd z => ?_⟩
  · have hb' : h b = none := by rw [mset_ne hba] at hb; exact hb
    refine k _ x ⟨dx', b, byM (prs many sc wc), mset_same, ?_, fun e => hba e.symm, fun q row hq => valM_byM hq⟩ ?_
    · rw [mset_ne hba, mset_same]; rfl
    · exact D.ext fun y o q => by
        have y1 : y ≠ x := fun z => by rw [z, hx] at q; cases q
        have y2 : y ≠ b := fun z => by rw [z, hb'] at q; cases q
        rw [mset_ne y1, mset_ne y2, mset_ne y1]; exact q
  · rw [P.fine] at z; cases z
theorem ProgOk.tsh (P : ProgOk first l many sc wc) : Sh (toldD first l many sc wc) := ⟨clD_sh, trivial, P.prsh P.wcsh, (by decide : (5 : Nat) ≤ 100000), trivial⟩
theorem ProgOk.tfit (P : ProgOk first l many sc wc) : fitD (toldD first l many sc wc) = true := by
  show (decide (4 ≤ 1000000) && (fitD (clD first) && (true && (fitD (.tuple (prs many sc wc)) && (true && true))))) = true
  rw [P.clfit, fit_tup (show (prs many sc wc).length ≤ 1000000 from (by decide : (3 : Nat) ≤ 1000000)) (P.prfit (by have := P.w40; omega) P.wcfit)]; rfl
theorem ProgOk.pdep (P : ProgOk first l many sc wc) : depD (.tuple (prs many sc wc)) ≤ 4 := by
  have a : depDs sc ≤ 1 := deps_of fun d hd => (P.so.get d hd).dep
  have b : depDs wc ≤ 1 := deps_of fun d hd => (P.wo.get d hd).dep
  have c : depD twiceD = 3 := rfl
  have e1 : depD (startP many sc) = max 0 (max 0 (max 0 (max (depDs sc + 1) 0))) + 1 := rfl
  have e2 : depD (workP wc) = max 0 (max 0 (max 0 (max (depDs wc + 1) 0))) + 1 := rfl
  show max (depD (startP many sc)) (max (depD (workP wc)) (max (depD twiceD) 0)) + 1 ≤ 4
  rw [e1, e2, c]; omega
theorem ProgOk.tdep (P : ProgOk first l many sc wc) : depD (toldD first l many sc wc) ≤ 5 := by
  show max (depDs (first.map PyData.int) + 1) (max 0 (max (depD (.tuple (prs many sc wc))) (max 0 0))) + 1 ≤ 5
  have := P.pdep
  have := @ints_dep first
  omega
theorem progB_told (P : ProgOk first l many sc wc) : progB (toldD first l many sc wc) = true := by
  show (progD (clD first) (.int l) (.tuple (prs many sc wc)) (.str "start")).isNone = true
  rw [P.fine]; rfl
theorem law_3 {x : Addr} (P : ProgOk first l many sc wc) (F : TF p first l many sc wc Γ) (k8 : lk Γ 8 = some (.p x)) (G : PgG ad.C_Program h x (clD first) (.int l) (.tuple (prs many sc wc)) (.str "start") (prs many sc wc)) (k : ∀ h', (∀ b o, h b = some o → h' b = some o) → nx h' Γ) : B_law_1_3 ad h Γ nx rt XF := by
  obtain ⟨dx, b, kvs, e1, e2, n, q⟩ := id G
  simp [B_law_1_3, F.k3, F.k4, F.k5, F.k6, F.k7, k8, e1, F_Program_told, B_Program_told, toldD]
  refine ⟨by decide +kernel, toldD first l many sc wc, rfl, P.tsh, P.tfit, fun h' hs => ?_⟩
  rw [progB_told P]
  refine ⟨.list [toldD first l many sc wc, clD first, .int l, .tuple (prs many sc wc), .str "start", .bool true], rfl, ?_, ?_, ?_⟩
  · show max (depD (toldD first l many sc wc)) (max (depDs (first.map PyData.int) + 1) (max 0 (max (depD (.tuple (prs many sc wc))) (max 0 (max 0 0))))) + 1 < 11
    have := P.pdep
    have := P.tdep
    have := @ints_dep first
    omega
  · show (decide (6 ≤ 1000000) && (fitD (toldD first l many sc wc) && (fitD (clD first) && (true && (fitD (.tuple (prs many sc wc)) && (true && (true && true))))))) = true
    rw [P.clfit, P.tfit, fit_tup (show (prs many sc wc).length ≤ 1000000 from (by decide : (3 : Nat) ≤ 1000000)) (P.prfit (by have := P.w40; omega) P.wcfit)]; rfl
  · exact k h' hs
theorem ProgOk.procs (P : ProgOk first l many sc wc) : ProcsOk (prs many sc wc) := by
  refine ⟨fun d hd => ?_, (by decide : (3 : Nat) ≤ SL)⟩
  simp only [prs, List.mem_cons, List.not_mem_nil, or_false] at hd
  rcases hd with rfl | rfl | rfl <;> exact ⟨_, _, _, rfl⟩
theorem argD_call {B : Bnd} {w : Str} {x : PyData} (hw : inV (.str w) callV = true) (h : argD B w x = true) : ∃ q, x = .str q ∧ q ∈ B.names := by
  have hm := inV_mem (ws := ["call", "spawn"]) hw
  have h : (nameD x && memD B.names x) = true := by
    rcases List.mem_cons.mp hm with rfl | hm
    · exact h
    · rw [List.mem_singleton.mp hm] at h; exact h
  obtain ⟨_, h2⟩ := Bool.and_eq_true_iff.mp h
  cases x with
  | str q => exact ⟨q, rfl, of_decide_eq_true h2⟩
  | _ => cases h2
/-- an instruction's call finds its proc -/
theorem call_ok {B : Bnd} {w : Str} {rest : List PyData} (h : instrD B (.tuple (.str w :: rest)) = true) (hn : B.names = ns3) : CallOk (prs many sc wc) w rest := by
  intro hw
  have h : opD B w rest = true := h
  have ha : inV (.str w) aloneV = false ∧ ¬ w = "if" := by
    have hm := inV_mem (ws := ["call", "spawn"]) hw
    rcases List.mem_cons.mp hm with rfl | hm
    · exact ⟨rfl, by decide⟩
    · rw [List.mem_singleton.mp hm]; exact ⟨rfl, by decide⟩
  unfold opD at h
  rw [if_neg (by rw [ha.1]; decide), if_neg ha.2] at h
  cases rest with
  | nil => cases h
  | cons x r => cases r with
    | cons _ _ => cases h
    | nil =>
      obtain ⟨q, rfl, hq⟩ := argD_call hw h
      rw [hn] at hq
      simp only [ns3, List.mem_cons, List.not_mem_nil, or_false] at hq
      rcases hq with rfl | rfl | rfl
      · exact ⟨_, startP many sc, rfl, List.find?_cons_of_pos (show decide (("start" : Str) = "start") = true by decide +kernel)⟩
      · exact ⟨_, workP wc, rfl, rfl⟩
      · exact ⟨_, twiceD, rfl, rfl⟩
theorem ProgOk.opC (P : ProgOk first l many sc wc) {pr op : PyData} (hp : pr ∈ prs many sc wc) (ho : op ∈ procCode pr) : ∃ w rest, op = .tuple (.str w :: rest) ∧ CallOk (prs many sc wc) w rest := by
  simp only [prs, List.mem_cons, List.not_mem_nil, or_false] at hp
  rcases hp with rfl | rfl | rfl
  · obtain ⟨w, r, rfl⟩ := (P.so.get op ho).hd
    exact ⟨w, r, rfl, call_ok (B := bndS first l many sc) ((P.so.get _ ho).ok _ ⟨⟨rfl, rfl, by have := P.m1; show (1 : Int) ≤ 0 + (1 + many); omega, rfl⟩, (by show 0 + (1 + many) = 1 + many; omega), rfl⟩) rfl⟩
  · obtain ⟨w, r, rfl⟩ := (P.wo.get op ho).hd
    exact ⟨w, r, rfl, call_ok (P.opW ho) rfl⟩
  · have ho : op ∈ [PyData.tuple [.str "load", .int 0], .tuple [.str "int", .int 2], .tuple [.str "mul"], .tuple [.str "give"]] := ho
    simp only [List.mem_cons, List.not_mem_nil, or_false] at ho
    rcases ho with rfl | rfl | rfl | rfl <;> exact ⟨_, _, rfl, fun z => by cases z⟩
theorem rows_mem {ds : List PyData} {r : Row} (h : r ∈ rows ds) : ∃ d ∈ ds, r = [.i d] := by
  obtain ⟨d, hd, rfl⟩ := List.mem_map.mp h
  exact ⟨d, hd, rfl⟩
theorem law_4 {x : Addr} (P : ProgOk first l many sc wc) (F : TF p first l many sc wc Γ) (k8 : lk Γ 8 = some (.p x)) (G : PgG ad.C_Program h x (clD first) (.int l) (.tuple (prs many sc wc)) (.str "start") (prs many sc wc)) (k : ∀ Γ', TF p first l many sc wc Γ' → nx h Γ') : B_law_1_4 ad h Γ nx rt XF := by
  show gsFor _ _ _ h Γ nx rt XF
  simp only [gsFor, giSeq, gV, F.k6, opt, itemsOf]
  refine frL_inv (fun its h' Γ' => h' = h ∧ TF p first l many sc wc Γ' ∧ lk Γ' 8 = some (.p x) ∧ ∀ r ∈ its, ∃ pr ∈ prs many sc wc, r = [.i pr]) (fun _ _ _ _ => trivial) ?_ ?_ _ _ _ ⟨rfl, F, k8, fun r hr => rows_mem hr⟩
  · rintro h' Γ' ⟨rfl, F', _, _⟩
    exact k Γ' F'
  · rintro r its h' Γ' nx' ⟨rfl, F', k8', hr⟩ hn
    obtain ⟨pr, hp, rfl⟩ := hr r List.mem_cons_self
    have hr' := fun r h => hr r (List.mem_cons_of_mem _ h)
    obtain ⟨n, i, j, code, rfl⟩ : ∃ n i j code, pr = .tuple [.str n, .int i, .int j, .tuple code] := by
      simp only [prs, List.mem_cons, List.not_mem_nil, or_false] at hp
      rcases hp with rfl | rfl | rfl <;> exact ⟨_, _, _, _, rfl⟩
    simp only [bName, opt]
    have k9 : lk (st Γ' 9 (some (.i (.tuple [.str n, .int i, .int j, .tuple code])))) 9 = some (.i (.tuple [.str n, .int i, .int j, .tuple code])) := lk_same (by rw [F'.len]; decide)
    simp only [gsFor, giSeq, gIx, gV, gC, k9, opt, kIx, atI_c3, itemsOf]
    refine frL_inv (fun its2 h2 Γ2 => h2 = h' ∧ TF p first l many sc wc Γ2 ∧ lk Γ2 8 = some (.p x) ∧ ∀ r ∈ its2, ∃ op ∈ code, r = [.i op]) (fun _ _ _ _ => trivial) ?_ ?_ _ _ _ ⟨rfl, F'.st (by decide), by rw [lk_ne (by decide)]; exact k8', fun r hr => rows_mem hr⟩
    · rintro h2 Γ2 ⟨rfl, F2, k82, _⟩
      exact hn _ Γ2 ⟨rfl, F2, k82, hr'⟩
    · rintro r its2 h2 Γ2 nx2 ⟨rfl, F2, k82, hr2⟩ hn2
      obtain ⟨op, ho, rfl⟩ := hr2 r List.mem_cons_self
      obtain ⟨w, rest, rfl, ck⟩ := P.opC hp (show op ∈ procCode (.tuple [.str n, .int i, .int j, .tuple code]) from ho)
      have F3 : TF p first l many sc wc (st Γ2 10 (some (.i (.tuple (.str w :: rest))))) := F2.st (by decide)
      have k83 : lk (st Γ2 10 (some (.i (.tuple (.str w :: rest))))) 8 = some (.p x) := by rw [lk_ne (by decide)]; exact k82
      have k10 : lk (st Γ2 10 (some (.i (.tuple (.str w :: rest))))) 10 = some (.i (.tuple (.str w :: rest))) := lk_same (by rw [F2.len]; decide)
      simp only [bName, opt, gsIf, qNot, qB, gCall0, gaC, gaN, gV, k83, k10, F3.k3]
      refine ⟨x, clD first, .int l, .tuple (prs many sc wc), .str "start", prs many sc wc, w, rest, rfl, G, P.procs, ck, ?_⟩
      refine ⟨clD first, .int l, prs many sc wc, [.str "start"], w, rest, rfl, P.procs, ck, ?_⟩
      refine ⟨.int _, rfl, (by decide : (0 : Nat) < 11), rfl, ?_⟩
      exact hn2 _ _ ⟨rfl, F3, k83, fun r h => hr2 r (List.mem_cons_of_mem _ h)⟩
end
end My

set_option Elab.async false
set_option linter.all false
set_option maxRecDepth 100000
set_option maxHeartbeats 4000000
/-! ## law k01: the cases -/
namespace My
open PySem L2
structure TG (p : Addr) (first : List Int) (l many : Int) (sc wc : List PyData) (j : Nat) (Γ : Gam) : Prop where
  (tf : TF p first l many sc wc Γ) (k9 : lk Γ 9 = some (.i (workP wc))) (k11 : lk Γ 11 = some (.i (.int (j : Nat)))) (k12 : lk Γ 12 = some (.i none2)) (hj : j < wc.length)
section
variable {ad : Ad} {Γ : Gam} {h : MH} {p a : Addr} {nx : MH → Gam → Prop} {rt : MH → MV → Prop} {first : List Int} {l many : Int} {sc wc : List PyData} {j : Nat} {cs : List PyData}
theorem TG.st (F : TG p first l many sc wc j Γ) {i : Nat} {v : Option MV} (hi : i = 10 ∨ 13 ≤ i) : TG p first l many sc wc j (st Γ i v) :=
  ⟨F.tf.st (by omega), by rw [lk_ne (by omega)]; exact F.k9, by rw [lk_ne (by omega)]; exact F.k11, by rw [lk_ne (by omega)]; exact F.k12, F.hj⟩
theorem law_5 (F : TF p first l many sc wc Γ) (k : TF p first l many sc wc (st Γ 9 (some (.i (workP wc)))) → lk (st Γ 9 (some (.i (workP wc)))) 9 = some (.i (workP wc)) → nx h (st Γ 9 (some (.i (workP wc))))) : B_law_1_5 ad h Γ nx rt XF := by
  simp only [B_law_1_5, gsSet, gIx, gV, gC, F.k6, opt, kIx, prs, atI_c1]
  exact k (F.st (by decide)) (lk_same (by rw [F.len]; decide))
theorem law_6 (P : ProgOk first l many sc wc) (F : TF p first l many sc wc Γ) (k9 : lk Γ 9 = some (.i (workP wc))) (D : DrG h p) (k : ∀ h' (j : Nat), j < wc.length → DrG h' p → nx h' (st Γ 11 (some (.i (.int j))))) : B_law_1_6 ad h Γ nx rt XF := by
  simp only [B_law_1_6, gsSet, gCall0, gaC, gaN, gV, gLen, gIx, gC, F.k1, k9, workP, opt, kIx, atI_c3, kLen, lenD']
  refine ⟨p, _, rfl, D, ⟨by have := P.w12; omega, by have := P.w40; have : (2 : Int) ^ 62 = 4611686018427387904 := by decide
                                                     omega⟩, fun n h' n0 n1 D' _ => ?_⟩
  obtain ⟨j, rfl⟩ : ∃ j : Nat, n = (j : Int) := ⟨n.toNat, by omega⟩
  exact k h' j (by omega) D'
theorem law_7 (k : nx h (st Γ 12 (some (.i none2)))) : B_law_1_7 ad h Γ nx rt XF := k
def LsA (h : MH) (p a : Addr) (cs : List PyData) : Prop := h a = some (.lst (cs.map .i)) ∧ (∀ d ∈ cs, CaseOk d) ∧ a ≠ p
theorem new_ls {a2 : Addr} {new : List PyData} (D : DrG h p) (ha : h a2 = none) (hc : ∀ d ∈ new, CaseOk d) : LsA (mset h a2 (.lst (new.map .i))) p a2 new ∧ DrG (mset h a2 (.lst (new.map .i))) p :=
  ⟨⟨mset_same, hc, D.ne ha⟩, D.put (D.ne ha)⟩
theorem itM_ls (L : LsA h p a cs) : itM h (.p a) = some (cs.map .i) := by
  simp only [itM, L.1]
/-- a list of cases more -/
theorem cat_more {g : GE} {new : List PyData} (len : Γ.length = 24) (k13 : lk Γ 13 = some (.p a)) (L : LsA h p a cs) (D : DrG h p) (hc : ∀ d ∈ new, CaseOk d) (hl : cs.length + new.length ≤ 100) (hg : ∀ nx' : MH → MV → Prop, nx' h (.i (.list new)) → g h Γ nx' XF)
    (k : ∀ h' a', LsA h' p a' (cs ++ new) → DrG h' p → nx h' (st Γ 13 (some (.p a')))) : gsSet 13 (gCatN (gV 13) g) h Γ nx rt XF := by
  simp only [gsSet, gCatN, gV, k13, opt, itM_ls L]
  refine hg _ ?_
  simp only [itM, L.1, opt]
  refine ⟨by rw [List.length_map, List.length_map]; show cs.length + new.length ≤ 16777216; omega, fun a' ha' => ?_⟩
  rw [← List.map_append]
  obtain ⟨x1, x2⟩ := new_ls (new := cs ++ new) D ha' fun d hd => (List.mem_append.mp hd).elim (L.2.1 d) (hc d)
  exact k _ a' x1 x2
theorem forall2 {α : Type} {Q : α → Prop} {x y : α} (a : Q x) (b : Q y) : ∀ d ∈ [x, y], Q d := by
  intro d hd
  simp only [List.mem_cons, List.not_mem_nil, or_false] at hd
  rcases hd with rfl | rfl <;> assumption
theorem forall3 {α : Type} {Q : α → Prop} {x y z : α} (a : Q x) (b : Q y) (c : Q z) : ∀ d ∈ [x, y, z], Q d := by
  intro d hd
  simp only [List.mem_cons, List.not_mem_nil, or_false] at hd
  rcases hd with rfl | rfl | rfl <;> assumption
theorem sh_start : Sh (.str "start") := (by decide : (5 : Nat) ≤ 100000)
theorem n2_nol : NoL none2 := ⟨trivial, trivial, trivial⟩
theorem cs_cells (P : ProgOk first l many sc wc) {c : PyData} (hc : cellsD c = false) (sh : Sh c) (f : fitD c = true) : CaseOk (.list [.tuple [c, .int l, .tuple (prs many sc wc), .str "start"], .list [none2, .str "cells"]]) :=
  .mk (bad_cells hc) sh trivial (P.prsh P.wcsh) sh_start n2_nol f rfl (fit_tup (by decide : (3 : Nat) ≤ 1000000) (P.prfit (by have := P.w40; omega) P.wcfit)) rfl rfl (by decide)
theorem cs_locks (P : ProgOk first l many sc wc) {d : PyData} (hd : inD 0 7 d = false) (sh : Sh d) (f : fitD d = true) : CaseOk (.list [.tuple [clD first, d, .tuple (prs many sc wc), .str "start"], .list [none2, .str "locks"]]) :=
  .mk (bad_locks P.cells hd) clD_sh sh (P.prsh P.wcsh) sh_start n2_nol P.clfit f (fit_tup (by decide : (3 : Nat) ≤ 1000000) (P.prfit (by have := P.w40; omega) P.wcfit)) rfl rfl (by decide)
theorem cs_procs (P : ProgOk first l many sc wc) {d : PyData} (hd : lenD d = false) (sh : Sh d) (f : fitD d = true) : CaseOk (.list [.tuple [clD first, .int l, d, .str "start"], .list [none2, .str "procs"]]) :=
  .mk (bad_procs P.cells P.locks hd) clD_sh trivial sh sh_start n2_nol P.clfit rfl f rfl rfl (by decide)
theorem zeros_bad : cellsD (.tuple (List.replicate 17 [PyData.int 0]).flatten) = false := rfl
theorem app_bool_bad : cellsD (.tuple (first.map PyData.int ++ [.bool true])) = false := by
  show (decide (0 < (first.map PyData.int ++ [PyData.bool true]).length) && (decide ((first.map PyData.int ++ [PyData.bool true]).length ≤ 16) && (first.map PyData.int ++ [PyData.bool true]).all wordD)) = false
  rw [List.all_append, show ([PyData.bool true].all wordD) = false from rfl, Bool.and_false, Bool.and_false, Bool.and_false]
theorem fit_prs (P : ProgOk first l many sc wc) : fitD (.tuple (prs many sc wc)) = true := fit_tup (by decide : (3 : Nat) ≤ 1000000) (P.prfit (by have := P.w40; omega) P.wcfit)
theorem law_8 (P : ProgOk first l many sc wc) (F : TG p first l many sc wc j Γ) (D : DrG h p) (k : ∀ h' a' cs', cs'.length = 3 → LsA h' p a' cs' → DrG h' p → nx h' (st Γ 13 (some (.p a')))) : B_law_1_8 ad h Γ nx rt XF := by
  have w1 : fMul (.tuple [.int 0]) (.int 17) = some (.tuple (List.replicate 17 [PyData.int 0]).flatten) := rfl
  have k4 : lk Γ 4 = some (.i (.tuple (first.map .int))) := F.tf.k4
  simp only [B_law_1_8, gsSet, gNew, gLst, gTup, gaC, gaN, gV, gC, gOp, kOp, gB, asD, opt, k4, F.tf.k5, F.tf.k6, F.tf.k7, F.k12, allI, Option.map, w1, List.mapM_cons, List.mapM_nil, fList, bind, pure, Option.bind]
  intro a' ha'
  obtain ⟨x1, x2⟩ := new_ls (h := h) (p := p) (new := [.list [.tuple [.tuple [], .int l, .tuple (prs many sc wc), .str "start"], .list [none2, .str "cells"]], .list [.tuple [.tuple (List.replicate 17 [PyData.int 0]).flatten, .int l, .tuple (prs many sc wc), .str "start"], .list [none2, .str "cells"]], .list [.tuple [.list (first.map .int), .int l, .tuple (prs many sc wc), .str "start"], .list [none2, .str "cells"]]]) D ha'
    (by refine forall3 (Q := CaseOk) ?_ ?_ ?_; exact (cs_cells P rfl trivial rfl); exact (cs_cells P zeros_bad (shB_ok rfl) rfl); exact (cs_cells P rfl (@clD_sh first) (fit_lst (by rw [List.length_map]; have := P.f4; omega) ints_fit)))
  exact k _ a' _ rfl x1 x2
theorem law_9 (P : ProgOk first l many sc wc) (F : TG p first l many sc wc j Γ) (k13 : lk Γ 13 = some (.p a)) (L : LsA h p a cs) (D : DrG h p) (hl : cs.length + 2 ≤ 100) (k : ∀ h' a' cs', cs'.length = cs.length + 2 → LsA h' p a' cs' → DrG h' p → nx h' (st Γ 13 (some (.p a')))) : B_law_1_9 ad h Γ nx rt XF := by
  have k4 : lk Γ 4 = some (.i (.tuple (first.map .int))) := F.tf.k4
  have w1 : fAdd (.tuple (first.map .int)) (.tuple [.bool true]) = some (.tuple (first.map .int ++ [.bool true])) := if_pos (by rw [List.length_map]; have := P.f4; show first.length + 1 ≤ 16777216; omega)
  refine cat_more (new := [.list [.tuple [.tuple (first.map .int ++ [.bool true]), .int l, .tuple (prs many sc wc), .str "start"], .list [none2, .str "cells"]], .list [.tuple [clD first, .int 7, .tuple (prs many sc wc), .str "start"], .list [none2, .str "locks"]]])
    F.tf.len k13 L D (by refine forall2 (Q := CaseOk) ?_ ?_; exact (cs_cells P app_bool_bad (shs_app (show Shs (first.map PyData.int) from clD_sh) ⟨trivial, trivial⟩) (fit_tup (by rw [List.length_append, List.length_map]; have := P.f4; show first.length + 1 ≤ 1000000; omega) (fit_app ints_fit rfl))); exact (cs_locks P rfl trivial rfl)) hl (fun nx' q => ?_) fun h' a' L' D' => k h' a' _ (by rw [List.length_append]; rfl) L' D'
  simp only [gLst, gTup, gaC, gaN, gV, gC, gOp, kOp, asD, opt, k4, F.tf.k5, F.tf.k6, F.tf.k7, F.k12, allI, Option.map, w1]
  exact q
theorem law_10 (P : ProgOk first l many sc wc) (F : TG p first l many sc wc j Γ) (k13 : lk Γ 13 = some (.p a)) (L : LsA h p a cs) (D : DrG h p) (hl : cs.length + 3 ≤ 100) (k : ∀ h' a' cs', cs'.length = cs.length + 3 → LsA h' p a' cs' → DrG h' p → nx h' (st Γ 13 (some (.p a')))) : B_law_1_10 ad h Γ nx rt XF := by
  have k4 : lk Γ 4 = some (.i (.tuple (first.map .int))) := F.tf.k4
  refine cat_more (new := [.list [.tuple [clD first, .bool true, .tuple (prs many sc wc), .str "start"], .list [none2, .str "locks"]], .list [.tuple [clD first, .int (-1), .tuple (prs many sc wc), .str "start"], .list [none2, .str "locks"]], .list [.tuple [clD first, .int l, .tuple [], .str "start"], .list [none2, .str "procs"]]])
    F.tf.len k13 L D (by refine forall3 (Q := CaseOk) ?_ ?_ ?_; exact (cs_locks P rfl trivial rfl); exact (cs_locks P rfl trivial rfl); exact (cs_procs P rfl trivial rfl)) hl (fun nx' q => ?_) fun h' a' L' D' => k h' a' _ (by rw [List.length_append]; rfl) L' D'
  simp only [gLst, gTup, gaC, gaN, gV, gC, gUn, fNeg, asD, opt, k4, F.tf.k5, F.tf.k6, F.tf.k7, F.k12, allI, Option.map]
  exact q
theorem prs_add {x : PyData} : fAdd (.tuple (prs many sc wc)) (.tuple [x]) = some (.tuple (prs many sc wc ++ [x])) := by
  show (if (prs many sc wc).length + [x].length ≤ SL then some (PyData.tuple (prs many sc wc ++ [x])) else none) = _
  exact if_pos (show 3 + 1 ≤ 16777216 by decide)
theorem law_11 (P : ProgOk first l many sc wc) (F : TG p first l many sc wc j Γ) (k13 : lk Γ 13 = some (.p a)) (L : LsA h p a cs) (D : DrG h p) (hl : cs.length + 2 ≤ 100) (k : ∀ h' a' cs', cs'.length = cs.length + 2 → LsA h' p a' cs' → DrG h' p → nx h' (st Γ 13 (some (.p a')))) : B_law_1_11 ad h Γ nx rt XF := by
  have k4 : lk Γ 4 = some (.i (.tuple (first.map .int))) := F.tf.k4
  refine cat_more (new := [.list [.tuple [clD first, .int l, .list (prs many sc wc), .str "start"], .list [none2, .str "procs"]], .list [.tuple [clD first, .int l, .tuple (prs many sc wc ++ [.none]), .str "start"], .list [none2, .str "proc"]]])
    F.tf.len k13 L D (by refine forall2 (Q := CaseOk) ?_ ?_; exact (cs_procs P rfl (P.prsh P.wcsh) (fit_lst (by decide : (3 : Nat) ≤ 1000000) (P.prfit (by have := P.w40; omega) P.wcfit))); exact (P.case_more rfl trivial rfl n2_nol rfl (by decide))) hl (fun nx' q => ?_) fun h' a' L' D' => k h' a' _ (by rw [List.length_append]; rfl) L' D'
  simp only [gLst, gTup, gaC, gaN, gV, gC, gOp, kOp, gB, asD, opt, k4, F.tf.k5, F.tf.k6, F.tf.k7, F.k12, allI, Option.map, List.mapM_cons, List.mapM_nil, fList, bind, pure, Option.bind, prs_add]
  exact q
def giveC : PyData := .tuple [.tuple [.str "give"]]
theorem law_12 (P : ProgOk first l many sc wc) (F : TG p first l many sc wc j Γ) (k13 : lk Γ 13 = some (.p a)) (L : LsA h p a cs) (D : DrG h p) (hl : cs.length + 2 ≤ 100) (k : ∀ h' a' cs', cs'.length = cs.length + 2 → LsA h' p a' cs' → DrG h' p → nx h' (st Γ 13 (some (.p a')))) : B_law_1_12 ad h Γ nx rt XF := by
  have k4 : lk Γ 4 = some (.i (.tuple (first.map .int))) := F.tf.k4
  refine cat_more (new := [.list [.tuple [clD first, .int l, .tuple (prs many sc wc ++ [.tuple [.str "a", .int 0, .int 0]]), .str "start"], .list [none2, .str "proc"]], .list [.tuple [clD first, .int l, .tuple (prs many sc wc ++ [.tuple [.str "A", .int 0, .int 0, giveC]]), .str "start"], .list [none2, .str "proc"]]])
    F.tf.len k13 L D (by refine forall2 (Q := CaseOk) ?_ ?_; exact (P.case_more rfl (shB_ok rfl) rfl n2_nol rfl (by decide)); exact (P.case_more rfl (shB_ok rfl) rfl n2_nol rfl (by decide))) hl (fun nx' q => ?_) fun h' a' L' D' => k h' a' _ (by rw [List.length_append]; rfl) L' D'
  simp only [gLst, gTup, gaC, gaN, gV, gC, gOp, kOp, asD, opt, k4, F.tf.k5, F.tf.k6, F.tf.k7, F.k12, allI, Option.map, prs_add]
  exact q
theorem start_twice (P : ProgOk first l many sc wc) : lookD ns3 (startP many sc) = some (PyData.tuple [.str "start", .none], ("twice" : Str)) := by
  show (if nameS "start" = false then some (none2, ("proc" : Str)) else if ("start" : Str) ∈ ns3 then some (PyData.tuple [.str "start", .none], ("twice" : Str)) else lookT "start" (.int 0) (.int (1 + many)) (.tuple sc)) = _
  rw [if_neg (by decide +kernel), if_pos (by decide)]
theorem law_13 (P : ProgOk first l many sc wc) (F : TG p first l many sc wc j Γ) (k13 : lk Γ 13 = some (.p a)) (L : LsA h p a cs) (D : DrG h p) (hl : cs.length + 1 ≤ 100) (k : ∀ h' a' cs', cs'.length = cs.length + 1 → LsA h' p a' cs' → DrG h' p → nx h' (st Γ 13 (some (.p a')))) : B_law_1_13 ad h Γ nx rt XF := by
  have k4 : lk Γ 4 = some (.i (.tuple (first.map .int))) := F.tf.k4
  have w1 : fSl (.tuple (prs many sc wc)) none (some 1) = some (.tuple [startP many sc]) := rfl
  refine cat_more (new := [.list [.tuple [clD first, .int l, .tuple (prs many sc wc ++ [startP many sc]), .str "start"], .list [.tuple [.str "start", .none], .str "twice"]]])
    F.tf.len k13 L D (fun d hd => by rw [List.mem_singleton.mp hd]; exact P.case_more (start_twice P) (pr_sh (by decide) P.scsh) (pr_fit (by have := P.s60; omega) P.scfit) ⟨trivial, trivial, trivial⟩ rfl (by decide)) hl (fun nx' q => ?_) fun h' a' L' D' => k h' a' _ (by rw [List.length_append]; rfl) L' D'
  simp only [gLst, gTup, gaC, gaN, gV, gC, gOp, kOp, gSl, goN, goS, asD, opt, k4, F.tf.k5, F.tf.k6, F.tf.k7, F.k12, allI, Option.map, w1, prs_add]
  exact q
end
end My

set_option Elab.async false
set_option linter.all false
set_option maxRecDepth 100000
set_option maxHeartbeats 4000000
/-! ## law k01: more cases -/
namespace My
open PySem L2
def WOk (d : PyData) : Prop := ∃ pa mo co wd, d = .tuple [pa, mo, co, .str wd] ∧ lookD ns3 (.tuple [.str "last", pa, mo, co]) = some (.tuple [.str "last", .none], wd) ∧ Sh (.tuple [.str "last", pa, mo, co]) ∧ fitD (.tuple [.str "last", pa, mo, co]) = true
def give81 : PyData := .tuple (List.replicate 81 [PyData.tuple [.str "give"]]).flatten
def wrongL : List PyData := [.tuple [.int 5, .int 0, giveC, .str "params"], .tuple [.bool true, .int 0, giveC, .str "params"], .tuple [.int 4, .int 5, giveC, .str "locals"], .tuple [.int 0, .none, giveC, .str "locals"], .tuple [.int 0, .int 0, .tuple [], .str "code"],
  .tuple [.int 0, .int 0, .list [.tuple [.str "give"]], .str "code"], .tuple [.int 0, .int 0, give81, .str "code"]]
theorem wrong_ok : ∀ d ∈ wrongL, WOk d := by
  intro d hd
  simp only [wrongL, List.mem_cons, List.not_mem_nil, or_false] at hd
  rcases hd with rfl | rfl | rfl | rfl | rfl | rfl | rfl <;> exact ⟨_, _, _, _, rfl, rfl, shB_ok rfl, rfl⟩
section
variable {ad : Ad} {Γ : Gam} {h : MH} {p a : Addr} {nx : MH → Gam → Prop} {rt : MH → MV → Prop} {first : List Int} {l many : Int} {sc wc : List PyData} {j : Nat} {cs : List PyData}
theorem law_14 (k : nx h (st Γ 14 (some (.i (.list (wrongL.take 5)))))) : B_law_1_14 ad h Γ nx rt XF := k
theorem law_15 (k14 : lk Γ 14 = some (.i (.list (wrongL.take 5)))) (k : nx h (st Γ 14 (some (.i (.list wrongL))))) : B_law_1_15 ad h Γ nx rt XF := by
  have w1 : fMul (.tuple [.tuple [.str "give"]]) (.int 81) = some give81 := rfl
  simp only [B_law_1_15, gsSet, gLst, gTup, gaC, gaN, gV, gC, gOp, kOp, asD, opt, k14, allI, Option.map, w1]
  exact k
theorem ls_app {d : PyData} (L : LsA h p a cs) (D : DrG h p) (hd : CaseOk d) : LsA (mset h a (.lst (cs.map MV.i ++ [.i d]))) p a (cs ++ [d]) ∧ DrG (mset h a (.lst (cs.map MV.i ++ [.i d]))) p :=
  ⟨⟨by rw [mset_same, List.map_append]; rfl, fun e he => (List.mem_append.mp he).elim (L.2.1 e) fun he => by rw [List.mem_singleton.mp he]; exact hd, L.2.2⟩, D.put L.2.2⟩
theorem law_16 (P : ProgOk first l many sc wc) (F : TG p first l many sc wc j Γ) (k14 : lk Γ 14 = some (.i (.list wrongL))) (k13 : lk Γ 13 = some (.p a)) (L : LsA h p a cs) (D : DrG h p) (hl : cs.length + 7 ≤ 100)
    (k : ∀ h' cs' Γ', cs'.length ≤ cs.length + 7 → TG p first l many sc wc j Γ' → lk Γ' 13 = some (.p a) → LsA h' p a cs' → DrG h' p → nx h' Γ') : B_law_1_16 ad h Γ nx rt XF := by
  simp only [B_law_1_16, gsFor, giSeq, gV, k14, opt, itemsOf]
  refine frL_inv (fun its h' Γ' => ∃ cs', TG p first l many sc wc j Γ' ∧ lk Γ' 13 = some (.p a) ∧ LsA h' p a cs' ∧ DrG h' p ∧ cs'.length + its.length ≤ cs.length + 7 ∧ ∀ r ∈ its, ∃ d, WOk d ∧ r = [.i d]) (fun _ _ _ _ => trivial) ?_ ?_ _ _ _ ⟨cs, F, k13, L, D, Nat.le_refl _, fun r hr => by obtain ⟨d, hd, rfl⟩ := rows_mem hr; exact ⟨d, wrong_ok d hd, rfl⟩⟩
  · rintro h' Γ' ⟨cs', F', k13', L', D', hl', _⟩
    exact k h' cs' Γ' (by simpa using hl') F' k13' L' D'
  · rintro r its h' Γ' nx' ⟨cs', F', k13', L', D', hl', hr⟩ hn
    obtain ⟨_, ⟨pa, mo, co, wd, rfl, e, sh, f⟩, rfl⟩ := hr r List.mem_cons_self
    have hl' : cs'.length + (its.length + 1) ≤ cs.length + 7 := hl'
    have len := F'.tf.len
    simp only [bTup, setAll, itemsOf, List.map_cons, List.map_nil, opt]
    have F2 : TG p first l many sc wc j (st (st (st (st Γ' 15 (some (.i pa))) 16 (some (.i mo))) 17 (some (.i co))) 18 (some (.i (.str wd)))) := (((F'.st (by decide)).st (by decide)).st (by decide)).st (by decide)
    have k15 : lk (st (st (st (st Γ' 15 (some (.i pa))) 16 (some (.i mo))) 17 (some (.i co))) 18 (some (.i (.str wd)))) 15 = some (.i pa) := by rw [lk_ne (by decide), lk_ne (by decide), lk_ne (by decide), lk_same (by omega)]
    have k16 : lk (st (st (st (st Γ' 15 (some (.i pa))) 16 (some (.i mo))) 17 (some (.i co))) 18 (some (.i (.str wd)))) 16 = some (.i mo) := by rw [lk_ne (by decide), lk_ne (by decide), lk_same (by rw [st_len]; omega)]
    have k17 : lk (st (st (st (st Γ' 15 (some (.i pa))) 16 (some (.i mo))) 17 (some (.i co))) 18 (some (.i (.str wd)))) 17 = some (.i co) := by rw [lk_ne (by decide), lk_same (by rw [st_len, st_len]; omega)]
    have k18 : lk (st (st (st (st Γ' 15 (some (.i pa))) 16 (some (.i mo))) 17 (some (.i co))) 18 (some (.i (.str wd)))) 18 = some (.i (.str wd)) := lk_same (by rw [st_len, st_len, st_len]; omega)
    have k13'' : lk (st (st (st (st Γ' 15 (some (.i pa))) 16 (some (.i mo))) 17 (some (.i co))) 18 (some (.i (.str wd)))) 13 = some (.p a) := by rw [lk_ne (by decide), lk_ne (by decide), lk_ne (by decide), lk_ne (by decide)]; exact k13'
    generalize (st (st (st (st Γ' 15 (some (.i pa))) 16 (some (.i mo))) 17 (some (.i co))) 18 (some (.i (.str wd)))) = Γ2 at *
    have k4 : lk Γ2 4 = some (.i (clD first)) := F2.tf.k4
    have c : CaseOk (.list [.tuple [clD first, .int l, .tuple (prs many sc wc ++ [.tuple [.str "last", pa, mo, co]]), .str "start"], .list [.tuple [.str "last", .none], .str wd]]) := P.case_more e sh f ⟨trivial, trivial, trivial⟩ rfl (by decide)
    obtain ⟨x1, x2⟩ := ls_app L' D' c
    simp only [gsExpr, gApp, kOwn, L'.1, gLst, gTup, gaC, gaN, gV, gC, gOp, kOp, asD, opt, k4, F2.tf.k5, F2.tf.k6, F2.tf.k7, k13'', k15, k16, k17, k18, allI, Option.map, prs_add]
    refine ⟨by rw [List.length_map]; show cs'.length < 16777216; omega, ?_⟩
    exact hn _ _ ⟨_, F2, k13'', x1, x2, by rw [List.length_append]; show cs'.length + 1 + its.length ≤ _; omega, fun r h => hr r (List.mem_cons_of_mem _ h)⟩
theorem law_17 (F : TG p first l many sc wc j Γ) (k : nx h (st Γ 19 (some (.i (.list ((opsL first.length l wc.length).take 12)))))) : B_law_1_17 ad h Γ nx rt XF := by
  simp only [B_law_1_17, gsSet, gLst, gTup, gaC, gaN, gV, gC, gUn, fNeg, gLen, gIx, kIx, kLen, lenD', asD, opt, F.k9, workP, atI_c3, allI, Option.map]
  exact k
theorem law_18 (F : TG p first l many sc wc j Γ) (k19 : lk Γ 19 = some (.i (.list ((opsL first.length l wc.length).take 12)))) (k : nx h (st Γ 19 (some (.i (.list ((opsL first.length l wc.length).take 17)))))) : B_law_1_18 ad h Γ nx rt XF := by
  simp only [B_law_1_18, gsSet, gLst, gTup, gaC, gaN, gV, gC, gUn, fNeg, gOp, kOp, gLen, gIx, kIx, kLen, lenD', asD, opt, F.k9, k19, workP, atI_c3, allI, Option.map]
  exact k
theorem law_19 (F : TG p first l many sc wc j Γ) (k19 : lk Γ 19 = some (.i (.list ((opsL first.length l wc.length).take 17)))) (k : nx h (st Γ 19 (some (.i (.list (opsL first.length l wc.length)))))) : B_law_1_19 ad h Γ nx rt XF := by
  have k4 : lk Γ 4 = some (.i (.tuple (first.map .int))) := F.tf.k4
  simp only [B_law_1_19, gsSet, gLst, gTup, gaC, gaN, gV, gC, gUn, fNeg, gOp, kOp, gLen, gIx, kIx, kLen, lenD', asD, opt, F.k9, k4, F.tf.k5, k19, workP, atI_c3, allI, Option.map, List.length_map]
  exact k
end
end My

set_option Elab.async false
set_option linter.all false
set_option maxRecDepth 100000
set_option maxHeartbeats 4000000
/-! ## law k01: the changed instructions, the last cases, what is asked of all -/
namespace My
open PySem L2
theorem cut_take {α : Type} {xs : List α} {j : Nat} (h : j ≤ xs.length) : cutL xs none (some (j : Int)) = xs.take j := by
  unfold cutL
  rw [HT.sIx_none, HT.sIx_nat, List.drop_zero, Nat.sub_zero, Nat.min_eq_left h]
theorem cut_drop {α : Type} {xs : List α} {j : Nat} (h : j ≤ xs.length) : cutL xs (some (j : Int)) none = xs.drop j := by
  unfold cutL
  rw [HT.sIx_none, HT.sIx_nat, Nat.min_eq_left h]
  exact List.take_of_length_le (by rw [List.length_drop]; omega)
section
variable {ad : Ad} {Γ : Gam} {h : MH} {p a : Addr} {nx : MH → Gam → Prop} {rt : MH → MV → Prop} {first : List Int} {l many : Int} {sc wc : List PyData} {j : Nat} {cs : List PyData}
theorem cs_op (P : ProgOk first l many sc wc) {op : PyData} (hj : j < wc.length) (ho : op ∈ opsL first.length l wc.length) :
    CaseOk (.list [.tuple [clD first, .int l, .tuple [startP many sc, workP (wc.take j ++ op :: wc.drop (j + 1)), twiceD], .str "start"], .list [.tuple [.str "work", .int (j : Nat)], .str "instruction"]]) := by
  obtain ⟨b, sh, f⟩ := opsL_bad (c := first.length) (n := wc.length) (l := l) op ho
  have hl : (wc.take j ++ op :: wc.drop (j + 1)).length = wc.length := by
    rw [List.length_append, List.length_cons, List.length_take, List.length_drop]; omega
  have s1 : Shs (wc.take j ++ op :: wc.drop (j + 1)) := shs_app (shs_of fun d hd => (P.wo.get d (List.mem_of_mem_take hd)).sh) ⟨sh, shs_of fun d hd => (P.wo.get d (List.mem_of_mem_drop hd)).sh⟩
  have f1 : fitDs (wc.take j ++ op :: wc.drop (j + 1)) = true := fit_app (fits_of fun d hd => (P.wo.get d (List.mem_of_mem_take hd)).fit) (by
    show (fitD op && fitDs (wc.drop (j + 1))) = true
    rw [f, fits_of fun d hd => (P.wo.get d (List.mem_of_mem_drop hd)).fit]; rfl)
  exact .mk (P.bad_op (s := .str "start") hj b) clD_sh trivial (P.prsh s1) sh_start ⟨trivial, trivial, trivial⟩ P.clfit rfl (fit_tup (by decide : (3 : Nat) ≤ 1000000) (P.prfit (by rw [hl]; have := P.w40; omega) f1)) rfl rfl (by show (1 : Nat) ≤ 5; decide)
theorem law_20 (P : ProgOk first l many sc wc) (F : TG p first l many sc wc j Γ) (k19 : lk Γ 19 = some (.i (.list (opsL first.length l wc.length)))) (k13 : lk Γ 13 = some (.p a)) (L : LsA h p a cs) (D : DrG h p) (hl : cs.length + 4 ≤ 100)
    (k : ∀ h' cs' Γ', cs'.length ≤ cs.length + 4 → TG p first l many sc wc j Γ' → lk Γ' 13 = some (.p a) → LsA h' p a cs' → DrG h' p → nx h' Γ') : B_law_1_20 ad h Γ nx rt XF := by
  have len := F.tf.len
  refine ⟨⟨by decide, by decide⟩, ?_⟩
  refine ⟨(by decide : (4 : Nat) ≤ 16777216), ?_⟩
  have w19 : lk (wipeG Γ [20]) 19 = some (.i (.list (opsL first.length l wc.length))) := by show lk (st Γ 20 none) 19 = _; rw [lk_ne (by decide)]; exact k19
  have w1 : lk (wipeG Γ [20]) 1 = some (.p p) := by show lk (st Γ 20 none) 1 = _; rw [lk_ne (by decide)]; exact F.tf.k1
  refine lcL_inv (fun its acc h' => ∃ ds : List PyData, acc = ds.map .i ∧ (∀ d ∈ ds, d ∈ opsL first.length l wc.length) ∧ LsA h' p a cs ∧ DrG h' p ∧ ds.length + its.length = 4 ∧ ∀ r ∈ its, ∃ m, r = [m]) (fun _ _ _ _ => trivial) ?_ ?_ _ _ _ ⟨[], rfl, fun d hd => absurd hd List.not_mem_nil, L, D, rfl, fun r hr => by obtain ⟨i, _, rfl⟩ := intsM_mem hr; exact ⟨_, rfl⟩⟩
  · rintro acc h1 ⟨ds, rfl, ho, L1, D1, h4, _⟩
    refine opt_of (allI_map ds) ?_
    simp only [itemsOf, opt]
    refine frL_inv (fun its h' Γ' => ∃ cs', TG p first l many sc wc j Γ' ∧ lk Γ' 13 = some (.p a) ∧ LsA h' p a cs' ∧ DrG h' p ∧ cs'.length + its.length ≤ cs.length + 4 ∧ ∀ r ∈ its, ∃ d, d ∈ opsL first.length l wc.length ∧ r = [.i d]) (fun _ _ _ _ => trivial) ?_ ?_ _ _ _ ⟨cs, F, k13, L1, D1, by rw [rows, List.length_map]; simp at h4; omega, fun r hr => by obtain ⟨d, hd, rfl⟩ := rows_mem hr; exact ⟨d, ho d hd, rfl⟩⟩
    · rintro h' Γ' ⟨cs', F', k13', L', D', hl', _⟩
      exact k h' cs' Γ' (by simpa using hl') F' k13' L' D'
    · rintro r its h' Γ' nx' ⟨cs', F', k13', L', D', hl', hr⟩ hn
      obtain ⟨op, ho, rfl⟩ := hr r List.mem_cons_self
      have hl' : cs'.length + (its.length + 1) ≤ cs.length + 4 := hl'
      simp only [bName, opt]
      have F2 : TG p first l many sc wc j (st Γ' 10 (some (.i op))) := F'.st (.inl rfl)
      have k10 : lk (st Γ' 10 (some (.i op))) 10 = some (.i op) := lk_same (by rw [F'.tf.len]; decide)
      have k13' : lk (st Γ' 10 (some (.i op))) 13 = some (.p a) := by rw [lk_ne (by decide)]; exact k13'
      generalize st Γ' 10 (some (.i op)) = Γ2 at *
      have hj := F.hj
      have w40 := P.w40
      have z1 : fSl (.tuple wc) none (some (j : Int)) = some (.tuple (wc.take j)) := by show some (PyData.tuple (cutL wc none (some (j : Int)))) = _; rw [cut_take (by omega)]
      have z2 : fSl (.tuple wc) (some ((j : Int) + 1)) none = some (.tuple (wc.drop (j + 1))) := by
        show some (PyData.tuple (cutL wc (some ((j : Int) + 1)) none)) = _
        rw [show (j : Int) + 1 = ((j + 1 : Nat) : Int) by omega, cut_drop (by omega)]
      have z3 : fAdd (.tuple (wc.take j)) (.tuple [op]) = some (.tuple (wc.take j ++ [op])) := by
        show (if (wc.take j).length + [op].length ≤ SL then some (PyData.tuple (wc.take j ++ [op])) else none) = _
        exact if_pos (by rw [List.length_take]; show min j wc.length + 1 ≤ 16777216; omega)
      have z4 : fAdd (.tuple (wc.take j ++ [op])) (.tuple (wc.drop (j + 1))) = some (.tuple (wc.take j ++ op :: wc.drop (j + 1))) := by
        show (if (wc.take j ++ [op]).length + (wc.drop (j + 1)).length ≤ SL then some (PyData.tuple (wc.take j ++ [op] ++ wc.drop (j + 1))) else none) = _
        rw [if_pos (by rw [List.length_append, List.length_take, List.length_drop]; show min j wc.length + 1 + (wc.length - (j + 1)) ≤ 16777216; omega), List.append_assoc]; rfl
      have z5 : fAdd (.int (j : Int)) (.int 1) = some (.int ((j : Int) + 1)) := rfl
      simp only [gsC, gsSet, gTup, gaC, gaN, gV, gC, gOp, kOp, gIx, kIx, gSl, goN, goS, asD, opt, F2.k9, F2.k11, k10, workP, atI_c0, atI_c1, atI_c2, atI_c3, z1, z2, z3, z4, z5, allI, Option.map]
      have F3 : TG p first l many sc wc j (st Γ2 21 (some (.i (workP (wc.take j ++ op :: wc.drop (j + 1)))))) := F2.st (by decide)
      have k21 : lk (st Γ2 21 (some (.i (workP (wc.take j ++ op :: wc.drop (j + 1)))))) 21 = some (.i (workP (wc.take j ++ op :: wc.drop (j + 1)))) := lk_same (by rw [F2.tf.len]; decide)
      have k13'' : lk (st Γ2 21 (some (.i (workP (wc.take j ++ op :: wc.drop (j + 1)))))) 13 = some (.p a) := by rw [lk_ne (by decide)]; exact k13'
      show gsExpr _ h' (st Γ2 21 (some (.i (workP (wc.take j ++ op :: wc.drop (j + 1)))))) nx' rt XF
      generalize (st Γ2 21 (some (.i (workP (wc.take j ++ op :: wc.drop (j + 1)))))) = Γ3 at *
      have k4 : lk Γ3 4 = some (.i (clD first)) := F3.tf.k4
      obtain ⟨x1, x2⟩ := ls_app L' D' (cs_op P F.hj ho)
      simp only [gsExpr, gApp, kOwn, L'.1, gLst, gTup, gaC, gaN, gV, gC, gIx, kIx, asD, opt, k4, F3.tf.k5, F3.tf.k6, F3.tf.k7, F3.k11, k13'', k21, prs, atI_c0, atI_c2, allI, Option.map]
      refine ⟨by rw [List.length_map]; show cs'.length < 16777216; omega, ?_⟩
      exact hn _ _ ⟨_, F3, k13'', x1, x2, by rw [List.length_append]; show cs'.length + 1 + its.length ≤ _; omega, fun r h => hr r (List.mem_cons_of_mem _ h)⟩
  · rintro r its acc h1 nx' ⟨ds, rfl, ho, L1, D1, h4, hr⟩ hn
    obtain ⟨m, rfl⟩ := hr r List.mem_cons_self
    simp only [bName, opt]
    have len2 : (wipeG Γ [20]).length = 24 := by show (st Γ 20 none).length = 24; rw [st_len]; exact len
    have y19 : lk (st (wipeG Γ [20]) 20 (some m)) 19 = some (.i (.list (opsL first.length l wc.length))) := by rw [lk_ne (by decide)]; exact w19
    have y1 : lk (st (wipeG Γ [20]) 20 (some m)) 1 = some (.p p) := by rw [lk_ne (by decide)]; exact w1
    simp only [gIx, gCall0, gaC, gaN, gV, gLen, kLen, y19, y1, lenD', opt]
    refine ⟨p, _, rfl, D1, ⟨by show (0 : Int) < (28 : Nat); decide, by show ((28 : Nat) : Int) < 2 ^ 62; decide⟩, fun n h2 n0 n1 D2 S2 => ?_⟩
    obtain ⟨i, rfl⟩ : ∃ i : Nat, n = (i : Int) := ⟨n.toNat, by omega⟩
    have hi : i < (opsL first.length l wc.length).length := by omega
    have hx : atI (opsL first.length l wc.length) (i : Int) = some (opsL first.length l wc.length)[i] := atI_nat (List.getElem?_eq_getElem hi)
    simp only [kIx, hx, opt]
    refine hn h2 _ ⟨ds ++ [(opsL first.length l wc.length)[i]], by rw [List.map_append]; rfl, fun d hd => ?_, ⟨S2 a _ L1.2.2 L1.1, L1.2⟩, D2, ?_, fun r h => hr r (List.mem_cons_of_mem _ h)⟩
    · rcases List.mem_append.mp hd with hd | hd
      · exact ho d hd
      · rw [List.mem_singleton.mp hd]; exact List.getElem_mem hi
    · rw [List.length_append, List.length_singleton]; rw [List.length_cons] at h4; omega
end
end My

set_option Elab.async false
set_option linter.all false
set_option maxRecDepth 100000
set_option maxHeartbeats 4000000
/-! ## law k01: the end of a turn, the law -/
namespace My
open PySem L2
section
variable {ad : Ad} {Γ : Gam} {h : MH} {p a : Addr} {nx : MH → Gam → Prop} {rt : MH → MV → Prop} {first : List Int} {l many : Int} {sc wc : List PyData} {j : Nat} {cs : List PyData}
theorem cs_start (P : ProgOk first l many sc wc) {s : PyData} (hs : startD (prs many sc wc) s = false) (sh : Sh s) (f : fitD s = true) : CaseOk (.list [.tuple [clD first, .int l, .tuple (prs many sc wc), s], .list [none2, .str "start"]]) :=
  .mk (by rw [P.progS, if_neg (by rw [hs]; decide)]) clD_sh trivial (P.prsh P.wcsh) sh n2_nol P.clfit rfl (fit_prs P) f rfl (by decide)
theorem law_21 (P : ProgOk first l many sc wc) (F : TG p first l many sc wc j Γ) (k13 : lk Γ 13 = some (.p a)) (L : LsA h p a cs) (D : DrG h p) (hl : cs.length + 3 ≤ 100) (k : ∀ h' a' cs', cs'.length = cs.length + 3 → LsA h' p a' cs' → DrG h' p → nx h' (st Γ 13 (some (.p a')))) : B_law_1_21 ad h Γ nx rt XF := by
  have k4 : lk Γ 4 = some (.i (.tuple (first.map .int))) := F.tf.k4
  refine cat_more (new := [.list [.tuple [clD first, .int l, .tuple (prs many sc wc), .str "work"], .list [none2, .str "start"]], .list [.tuple [clD first, .int l, .tuple (prs many sc wc), .str "far"], .list [none2, .str "start"]], .list [.tuple [clD first, .int l, .tuple (prs many sc wc), .none], .list [none2, .str "start"]]])
    F.tf.len k13 L D (by refine forall3 (Q := CaseOk) ?_ ?_ ?_; exact (cs_start P rfl (shB_ok rfl) rfl); exact (cs_start P rfl (shB_ok rfl) rfl); exact (cs_start P rfl trivial rfl)) hl (fun nx' q => ?_) fun h' a' L' D' => k h' a' _ (by rw [List.length_append]; rfl) L' D'
  simp only [gLst, gTup, gaC, gaN, gV, gC, asD, opt, k4, F.tf.k5, F.tf.k6, F.tf.k7, F.k12, allI, Option.map]
  exact q
theorem LsA.ext {h' : MH} (L : LsA h p a cs) (k : ∀ b o, h b = some o → h' b = some o) : LsA h' p a cs := ⟨k _ _ L.1, L.2⟩
theorem law_22 (F : TG p first l many sc wc j Γ) (k13 : lk Γ 13 = some (.p a)) (L : LsA h p a cs) (D : DrG h p) (k : ∀ h' Γ', TG p first l many sc wc j Γ' → DrG h' p → nx h' Γ') : B_law_1_22 ad h Γ nx rt XF := by
  simp only [B_law_1_22, gsFor, giSeq, gV, k13, opt, L.1]
  refine frL_inv (fun its h' Γ' => TG p first l many sc wc j Γ' ∧ LsA h' p a cs ∧ DrG h' p ∧ ∀ r ∈ its, ∃ d, CaseOk d ∧ r = [.i d]) (fun its h' Γ' i => i.2.1.1) ?_ ?_ _ _ _ ⟨F, L, D, fun r hr => by
    obtain ⟨m, hm, rfl⟩ := List.mem_map.mp hr
    obtain ⟨d, hd, rfl⟩ := List.mem_map.mp hm
    exact ⟨d, L.2.1 d hd, rfl⟩⟩
  · rintro h' Γ' ⟨F', L', D', _⟩
    exact k h' Γ' F' D'
  · rintro r its h' Γ' nx' ⟨F', L', D', hr⟩ hn
    obtain ⟨_, ⟨c, l', p', s, pl, wd, rfl, e, sh, nl, f, f2, dp⟩, rfl⟩ := hr r List.mem_cons_self
    have len := F'.tf.len
    simp only [bLst, setAll, itemsOf, List.map_cons, List.map_nil, opt]
    have F2 : TG p first l many sc wc j (st (st Γ' 21 (some (.i (.tuple [c, l', p', s])))) 22 (some (.i (.list [pl, .str wd])))) := (F'.st (by decide)).st (by decide)
    have k21 : lk (st (st Γ' 21 (some (.i (.tuple [c, l', p', s])))) 22 (some (.i (.list [pl, .str wd])))) 21 = some (.i (.tuple [c, l', p', s])) := by rw [lk_ne (by decide), lk_same (by omega)]
    have k22 : lk (st (st Γ' 21 (some (.i (.tuple [c, l', p', s])))) 22 (some (.i (.list [pl, .str wd])))) 22 = some (.i (.list [pl, .str wd])) := lk_same (by rw [st_len]; omega)
    generalize (st (st Γ' 21 (some (.i (.tuple [c, l', p', s])))) 22 (some (.i (.list [pl, .str wd])))) = Γ2 at *
    simp only [gsIf, qOr, qNot, qB, gCall0, gaC, gaN, gV, k21, k22, opt]
    refine ⟨c, l', p', s, rfl, sh.1, sh.2.2.1, sh.2.2.2.1, fun z => by rw [e] at z; (cases z), fun pl' wd' z => ?_⟩
    rw [e] at z
    cases z
    refine ⟨nl, fun h2 s2 => ?_⟩
    refine ⟨.list [pl, .str wd], rfl, ?_, ?_, ?_⟩
    · show max (depD pl) (max 0 0) + 1 < 11
      omega
    · show (decide (2 ≤ 1000000) && (fitD pl && (true && true))) = true
      rw [f2]; rfl
    · simp only [Bool.not_true, Bool.false_eq_true, if_false, qB, gOp, gCall0, gaC, gaN, gV, gC, k21, opt]
      refine ⟨.tuple [c, l', p', s], rfl, sh, f, fun h3 s3 => ?_⟩
      have eb : progB (.tuple [c, l', p', s]) = false := by show (progD c l' p' s).isNone = false; rw [e]; rfl
      rw [eb]
      exact hn h3 Γ2 ⟨F2, (L'.ext s2).ext s3, (D'.ext s2).ext s3, fun r h => hr r (List.mem_cons_of_mem _ h)⟩
theorem law_23 (P : ProgOk first l many sc wc) (F : TG p first l many sc wc j Γ) (D : DrG h p) (k : ∀ h', DrG h' p → nx h' Γ) : B_law_1_23 ad h Γ nx rt XF := by
  have z1 : fSl (toldD first l many sc wc) none (some 3) = some (.tuple [clD first, .int l, .tuple (prs many sc wc)]) := rfl
  have z2 : fAdd (toldD first l many sc wc) (.tuple [.int 1]) = some (.tuple [clD first, .int l, .tuple (prs many sc wc), .str "start", .int 1]) := rfl
  have z3 : asD h (.i (toldD first l many sc wc)) = some (toldD first l many sc wc) := rfl
  have z4 : fList [toldD first l many sc wc] = some (.list [clD first, .int l, .tuple (prs many sc wc), .str "start"]) := rfl
  have z5 : fMul (.list [.bool false]) (.int 4) = some (.list (List.replicate 4 [PyData.bool false]).flatten) := rfl
  have f3 : fitDs [clD first, .int l, .tuple (prs many sc wc)] = true := by
    show (fitD (clD first) && (true && (fitD (.tuple (prs many sc wc)) && true))) = true
    rw [P.clfit, fit_prs P]; rfl
  have f4 : fitDs [clD first, .int l, .tuple (prs many sc wc), .str "start"] = true := by
    show (fitD (clD first) && (true && (fitD (.tuple (prs many sc wc)) && (true && true)))) = true
    rw [P.clfit, fit_prs P]; rfl
  have f5 : fitDs [clD first, .int l, .tuple (prs many sc wc), .str "start", .int 1] = true := by
    show (fitD (clD first) && (true && (fitD (.tuple (prs many sc wc)) && (true && (true && true))))) = true
    rw [P.clfit, fit_prs P]; rfl
  have s3 : Shs [clD first, .int l, .tuple (prs many sc wc)] := ⟨clD_sh, trivial, P.prsh P.wcsh, trivial⟩
  have s4 : Shs [clD first, .int l, .tuple (prs many sc wc), .str "start"] := ⟨clD_sh, trivial, P.prsh P.wcsh, sh_start, trivial⟩
  have s5 : Shs [clD first, .int l, .tuple (prs many sc wc), .str "start", .int 1] := ⟨clD_sh, trivial, P.prsh P.wcsh, sh_start, trivial, trivial⟩
  simp only [B_law_1_23, gsIf, qB, gOp, gLC, giSeq, gLst, gaC, gaN, gV, gC, gSl, goN, goS, gB, gTup, kOp, F.tf.k3, opt, asD, z1, z2, z4, allI, Option.map, List.mapM_cons, List.mapM_nil, bind, pure, Option.bind, itemsOf, rows, List.map_cons, List.map_nil, lcL, qYes, bName, gCall0]
  refine ⟨(by decide : (4 : Nat) ≤ 16777216), ?_⟩
  have w : ∀ v : Option MV, lk (st (wipeG Γ [23]) 23 v) 23 = v := fun v => lk_same (by show 23 < (st Γ 23 none).length; rw [st_len, F.tf.len]; decide)
  simp only [w, opt, if_pos]
  refine ⟨trivial, .none, rfl, trivial, rfl, fun h1 e1 => ?_⟩
  refine ⟨trivial, _, rfl, s3, fit_tup (by decide : (3 : Nat) ≤ 1000000) f3, fun h2 e2 => ?_⟩
  refine ⟨trivial, _, rfl, s4, fit_lst (by decide : (4 : Nat) ≤ 1000000) f4, fun h3 e3 => ?_⟩
  refine ⟨trivial, _, rfl, s5, fit_tup (by decide : (5 : Nat) ≤ 1000000) f5, fun h4 e4 => ?_⟩
  refine ⟨trivial, ?_⟩
  exact k h4 ((((D.ext e1).ext e2).ext e3).ext e4)
end
end My

set_option Elab.async false
set_option linter.all false
set_option maxRecDepth 100000
set_option maxHeartbeats 4000000
/-! ## law k01 -/
namespace My
open PySem L2
section
variable {ad : Ad} {Γ : Gam} {h : MH} {p a : Addr} {nx : MH → Gam → Prop} {rt : MH → MV → Prop}
theorem law_turn (len : Γ.length = 24) (k1 : lk Γ 1 = some (.p p)) (D : DrG h p) (k : ∀ h' Γ', Γ'.length = 24 → lk Γ' 1 = some (.p p) → DrG h' p → nx h' Γ') :
    (gsC (B_law_1_0 ad) (gsC (B_law_1_1 ad) (gsC (B_law_1_2 ad) (gsC (B_law_1_3 ad) (gsC (B_law_1_4 ad) (gsC (B_law_1_5 ad) (gsC (B_law_1_6 ad) (gsC (B_law_1_7 ad) (gsC (B_law_1_8 ad) (gsC (B_law_1_9 ad) (gsC (B_law_1_10 ad) (gsC (B_law_1_11 ad) (gsC (B_law_1_12 ad) (gsC (B_law_1_13 ad) (gsC (B_law_1_14 ad) (gsC (B_law_1_15 ad) (gsC (B_law_1_16 ad) (gsC (B_law_1_17 ad) (gsC (B_law_1_18 ad) (gsC (B_law_1_19 ad) (gsC (B_law_1_20 ad) (gsC (B_law_1_21 ad) (gsC (B_law_1_22 ad) (B_law_1_23 ad)))))))))))))))))))))))) h Γ nx rt XF := by
  refine gsC_intro (law_0 k1 D fun first l many sc wc h P D => ?_)
  refine gsC_intro (law_1 (by rw [st_len]; exact len) (by rw [lk_ne (by decide)]; exact k1) (lk_same (by rw [len]; decide)) fun Γ F => ?_)
  refine gsC_intro (law_2 P F D fun h x G D => ?_)
  have F2 := F.st (i := 8) (v := some (.p x)) (by decide)
  have k8 : lk (st Γ 8 (some (.p x))) 8 = some (.p x) := lk_same (by rw [F.len]; decide)
  refine gsC_intro (law_3 P F2 k8 G fun h e => ?_)
  refine gsC_intro (law_4 P F2 k8 (G.ext e) fun Γ F => ?_)
  have D := D.ext e
  refine gsC_intro (law_5 F fun F k9 => ?_)
  refine gsC_intro (law_6 P F k9 D fun h j hj D => ?_)
  refine gsC_intro (law_7 ?_)
  have T : TG p first l many sc wc j (st (st (st Γ 9 (some (.i (workP wc)))) 11 (some (.i (.int (j : Nat))))) 12 (some (.i none2))) :=
    ⟨(F.st (by decide)).st (by decide), by rw [lk_ne (by decide), lk_ne (by decide)]; exact k9, by rw [lk_ne (by decide)]; exact lk_same (by rw [F.len]; decide), lk_same (by rw [st_len, F.len]; decide), hj⟩
  generalize (st (st (st Γ 9 (some (.i (workP wc)))) 11 (some (.i (.int (j : Nat))))) 12 (some (.i none2))) = Γ at T
  refine gsC_intro (law_8 P T D fun h a cs l8 L D => ?_)
  have k13 : lk (st Γ 13 (some (.p a))) 13 = some (.p a) := lk_same (by rw [T.tf.len]; decide)
  have T := T.st (i := 13) (v := some (.p a)) (by decide)
  generalize st Γ 13 (some (.p a)) = Γ at *
  refine gsC_intro (law_9 P T k13 L D (by omega) fun h a cs l9 L D => ?_)
  have k13 : lk (st Γ 13 (some (.p a))) 13 = some (.p a) := lk_same (by rw [T.tf.len]; decide)
  have T := T.st (i := 13) (v := some (.p a)) (by decide)
  generalize st Γ 13 (some (.p a)) = Γ at *
  refine gsC_intro (law_10 P T k13 L D (by omega) fun h a cs l10 L D => ?_)
  have k13 : lk (st Γ 13 (some (.p a))) 13 = some (.p a) := lk_same (by rw [T.tf.len]; decide)
  have T := T.st (i := 13) (v := some (.p a)) (by decide)
  generalize st Γ 13 (some (.p a)) = Γ at *
  refine gsC_intro (law_11 P T k13 L D (by omega) fun h a cs l11 L D => ?_)
  have k13 : lk (st Γ 13 (some (.p a))) 13 = some (.p a) := lk_same (by rw [T.tf.len]; decide)
  have T := T.st (i := 13) (v := some (.p a)) (by decide)
  generalize st Γ 13 (some (.p a)) = Γ at *
  refine gsC_intro (law_12 P T k13 L D (by omega) fun h a cs l12 L D => ?_)
  have k13 : lk (st Γ 13 (some (.p a))) 13 = some (.p a) := lk_same (by rw [T.tf.len]; decide)
  have T := T.st (i := 13) (v := some (.p a)) (by decide)
  generalize st Γ 13 (some (.p a)) = Γ at *
  refine gsC_intro (law_13 P T k13 L D (by omega) fun h a cs l13 L D => ?_)
  have k13 : lk (st Γ 13 (some (.p a))) 13 = some (.p a) := lk_same (by rw [T.tf.len]; decide)
  have T := T.st (i := 13) (v := some (.p a)) (by decide)
  generalize st Γ 13 (some (.p a)) = Γ at *
  refine gsC_intro (law_14 ?_)
  have k14 : lk (st Γ 14 (some (.i (.list (wrongL.take 5))))) 14 = some (.i (.list (wrongL.take 5))) := lk_same (by rw [T.tf.len]; decide)
  have k13 : lk (st Γ 14 (some (.i (.list (wrongL.take 5))))) 13 = some (.p a) := by rw [lk_ne (by decide)]; exact k13
  have T := T.st (i := 14) (v := some (.i (.list (wrongL.take 5)))) (by decide)
  generalize st Γ 14 (some (.i (.list (wrongL.take 5)))) = Γ at *
  refine gsC_intro (law_15 k14 ?_)
  have k14 : lk (st Γ 14 (some (.i (.list wrongL)))) 14 = some (.i (.list wrongL)) := lk_same (by rw [T.tf.len]; decide)
  have k13 : lk (st Γ 14 (some (.i (.list wrongL)))) 13 = some (.p a) := by rw [lk_ne (by decide)]; exact k13
  have T := T.st (i := 14) (v := some (.i (.list wrongL))) (by decide)
  generalize st Γ 14 (some (.i (.list wrongL))) = Γ at *
  refine gsC_intro (law_16 P T k14 k13 L D (by omega) fun h cs Γ l16 T k13 L D => ?_)
  refine gsC_intro (law_17 T ?_)
  have k19 : lk (st Γ 19 (some (.i (.list ((opsL first.length l wc.length).take 12))))) 19 = some (.i (.list ((opsL first.length l wc.length).take 12))) := lk_same (by rw [T.tf.len]; decide)
  have k13 : lk (st Γ 19 (some (.i (.list ((opsL first.length l wc.length).take 12))))) 13 = some (.p a) := by rw [lk_ne (by decide)]; exact k13
  have T := T.st (i := 19) (v := some (.i (.list ((opsL first.length l wc.length).take 12)))) (by decide)
  generalize st Γ 19 (some (.i (.list ((opsL first.length l wc.length).take 12)))) = Γ at *
  refine gsC_intro (law_18 T k19 ?_)
  have k19 : lk (st Γ 19 (some (.i (.list ((opsL first.length l wc.length).take 17))))) 19 = some (.i (.list ((opsL first.length l wc.length).take 17))) := lk_same (by rw [T.tf.len]; decide)
  have k13 : lk (st Γ 19 (some (.i (.list ((opsL first.length l wc.length).take 17))))) 13 = some (.p a) := by rw [lk_ne (by decide)]; exact k13
  have T := T.st (i := 19) (v := some (.i (.list ((opsL first.length l wc.length).take 17)))) (by decide)
  generalize st Γ 19 (some (.i (.list ((opsL first.length l wc.length).take 17)))) = Γ at *
  refine gsC_intro (law_19 T k19 ?_)
  have k19 : lk (st Γ 19 (some (.i (.list (opsL first.length l wc.length))))) 19 = some (.i (.list (opsL first.length l wc.length))) := lk_same (by rw [T.tf.len]; decide)
  have k13 : lk (st Γ 19 (some (.i (.list (opsL first.length l wc.length))))) 13 = some (.p a) := by rw [lk_ne (by decide)]; exact k13
  have T := T.st (i := 19) (v := some (.i (.list (opsL first.length l wc.length)))) (by decide)
  generalize st Γ 19 (some (.i (.list (opsL first.length l wc.length)))) = Γ at *
  refine gsC_intro (law_20 P T k19 k13 L D (by omega) fun h cs Γ l20 T k13 L D => ?_)
  refine gsC_intro (law_21 P T k13 L D (by omega) fun h a cs l21 L D => ?_)
  have k13 : lk (st Γ 13 (some (.p a))) 13 = some (.p a) := lk_same (by rw [T.tf.len]; decide)
  have T := T.st (i := 13) (v := some (.p a)) (by decide)
  generalize st Γ 13 (some (.p a)) = Γ at *
  refine gsC_intro (law_22 T k13 L D fun h Γ T D => ?_)
  exact law_23 P T D fun h D => k h Γ T.tf.len T.tf.k1 D
theorem law_plain {ns : List Int} (len : Γ.length = 24) (k1 : lk Γ 1 = some (.p p)) : B_lawR ad (h0 p ns) Γ (fun _ _ => False) (fun _ m => m = .i (.bool true)) XF := by
  refine gsC_intro ?_
  refine ⟨⟨by decide, by decide⟩, ?_⟩
  refine frL_inv (fun its h' Γ' => Γ'.length = 24 ∧ lk Γ' 1 = some (.p p) ∧ DrG h' p ∧ ∀ r ∈ its, ∃ m, r = [m]) (fun _ _ _ _ => trivial) ?_ ?_ _ _ _ ⟨len, k1, h0_dr, fun r hr => by obtain ⟨i, _, rfl⟩ := intsM_mem hr; exact ⟨_, rfl⟩⟩
  · rintro h' Γ' _
    rfl
  · rintro r its h' Γ' nx' ⟨l', k1', D', hr⟩ hn
    obtain ⟨m, rfl⟩ := hr r List.mem_cons_self
    exact law_turn (Γ := st Γ' 2 (some m)) (by rw [st_len]; exact l') (by rw [lk_ne (by decide)]; exact k1') D' fun h2 Γ2 l2 k2 D2 => hn h2 Γ2 ⟨l2, k2, D2, fun r h => hr r (List.mem_cons_of_mem _ h)⟩
end
section
variable {P : Program} {w : World} {K : PySem.W.Frag} {mg : Str → Option Value} {base : Heap} {ad : Ad}
theorem ok_law {fd : FuncData} (F : Fun K "law" "law" s_law ad.law fd) (T : Txt K mg ad) (U : Funs K ad) : FnOk P w K mg base CX0 30 ad.law fd ["script"] (spLaw K) :=
  (okW_law F T U fun p ns Γ len k1 => law_plain len k1).mono (by decide)
end
end My

set_option Elab.async false
set_option linter.all false
set_option maxRecDepth 100000
set_option maxHeartbeats 8000000
namespace My
open PySem L2
theorem all_mk {l : PySem.W.OpenLaw} {w : World} {K : PySem.W.Frag} {h : Heap} {mg : Str → Option Value} {fa : Addr} (X : K.In h) (G : h.Ns mainGlobals mg) (hfa : mg "law" = some (.ref fa))
    {f_BadProgram_init f_is_whole f_is_word f_Program_init f_Program_told f_is_name f_look_at_proc f_is_instruction f_is_place f_is_program f_needs f_law_draws f_law_draw f_law_same f_law_pick f_law_snippet f_law_goer f_law_program f_law_proc f_law_takes f_law_asked f_law : Addr}
    {oc_BadProgram_init kV_BadProgram_init dc_BadProgram_init pm_BadProgram_init cd_BadProgram_init ct_BadProgram_init : Value} {od_BadProgram_init an_BadProgram_init : Option Addr} {so_BadProgram_init : Array (Option Value)}
    {oc_is_whole kV_is_whole dc_is_whole pm_is_whole cd_is_whole ct_is_whole : Value} {od_is_whole an_is_whole : Option Addr} {so_is_whole : Array (Option Value)}
    {oc_is_word kV_is_word dc_is_word pm_is_word cd_is_word ct_is_word : Value} {od_is_word an_is_word : Option Addr} {so_is_word : Array (Option Value)}
    {oc_Program_init kV_Program_init dc_Program_init pm_Program_init cd_Program_init ct_Program_init : Value} {od_Program_init an_Program_init : Option Addr} {so_Program_init : Array (Option Value)}
    {oc_Program_told kV_Program_told dc_Program_told pm_Program_told cd_Program_told ct_Program_told : Value} {od_Program_told an_Program_told : Option Addr} {so_Program_told : Array (Option Value)}
    {oc_is_name kV_is_name dc_is_name pm_is_name cd_is_name ct_is_name : Value} {od_is_name an_is_name : Option Addr} {so_is_name : Array (Option Value)}
    {oc_look_at_proc kV_look_at_proc dc_look_at_proc pm_look_at_proc cd_look_at_proc ct_look_at_proc : Value} {od_look_at_proc an_look_at_proc : Option Addr} {so_look_at_proc : Array (Option Value)}
    {oc_is_instruction kV_is_instruction dc_is_instruction pm_is_instruction cd_is_instruction ct_is_instruction : Value} {od_is_instruction an_is_instruction : Option Addr} {so_is_instruction : Array (Option Value)}
    {oc_is_place kV_is_place dc_is_place pm_is_place cd_is_place ct_is_place : Value} {od_is_place an_is_place : Option Addr} {so_is_place : Array (Option Value)}
    {oc_is_program kV_is_program dc_is_program pm_is_program cd_is_program ct_is_program : Value} {od_is_program an_is_program : Option Addr} {so_is_program : Array (Option Value)}
    {oc_needs kV_needs dc_needs pm_needs cd_needs ct_needs : Value} {od_needs an_needs : Option Addr} {so_needs : Array (Option Value)}
    {oc_law_draws kV_law_draws dc_law_draws pm_law_draws cd_law_draws ct_law_draws : Value} {od_law_draws an_law_draws : Option Addr} {so_law_draws : Array (Option Value)}
    {oc_law_draw kV_law_draw dc_law_draw pm_law_draw cd_law_draw ct_law_draw : Value} {od_law_draw an_law_draw : Option Addr} {so_law_draw : Array (Option Value)}
    {oc_law_same kV_law_same dc_law_same pm_law_same cd_law_same ct_law_same : Value} {od_law_same an_law_same : Option Addr} {so_law_same : Array (Option Value)}
    {oc_law_pick kV_law_pick dc_law_pick pm_law_pick cd_law_pick ct_law_pick : Value} {od_law_pick an_law_pick : Option Addr} {so_law_pick : Array (Option Value)}
    {oc_law_snippet kV_law_snippet dc_law_snippet pm_law_snippet cd_law_snippet ct_law_snippet : Value} {od_law_snippet an_law_snippet : Option Addr} {so_law_snippet : Array (Option Value)}
    {oc_law_goer kV_law_goer dc_law_goer pm_law_goer cd_law_goer ct_law_goer : Value} {od_law_goer an_law_goer : Option Addr} {so_law_goer : Array (Option Value)}
    {oc_law_program kV_law_program dc_law_program pm_law_program cd_law_program ct_law_program : Value} {od_law_program an_law_program : Option Addr} {so_law_program : Array (Option Value)}
    {oc_law_proc kV_law_proc dc_law_proc pm_law_proc cd_law_proc ct_law_proc : Value} {od_law_proc an_law_proc : Option Addr} {so_law_proc : Array (Option Value)}
    {oc_law_takes kV_law_takes dc_law_takes pm_law_takes cd_law_takes ct_law_takes : Value} {od_law_takes an_law_takes : Option Addr} {so_law_takes : Array (Option Value)}
    {oc_law_asked kV_law_asked dc_law_asked pm_law_asked cd_law_asked ct_law_asked : Value} {od_law_asked an_law_asked : Option Addr} {so_law_asked : Array (Option Value)}
    {oc_law kV_law dc_law pm_law cd_law ct_law : Value} {od_law an_law : Option Addr} {so_law : Array (Option Value)}
    {t_HALF : Tok}
    {q_WORKS : Addr} {dd_WORKS : Option Addr} {it_WORKS : Array Value} {nn_WORKS : Nat} {sl_WORKS : Array (Option Value)}
    {q_CONDITIONS : Addr} {dd_CONDITIONS : Option Addr} {it_CONDITIONS : Array Value} {nn_CONDITIONS : Nat} {sl_CONDITIONS : Array (Option Value)}
    {t_SMALL : Tok}
    {t_MOST_CELLS : Tok}
    {t_MOST_LOCKS : Tok}
    {t_MOST_PROCS : Tok}
    {t_MOST_PARAMS : Tok}
    {t_MOST_LOCALS : Tok}
    {t_MOST_CODE : Tok}
    {q_ALONE : Addr} {dd_ALONE : Option Addr} {it_ALONE : Array Value} {nn_ALONE : Nat} {sl_ALONE : Array (Option Value)}
    {C_BackError : Addr}
    {mc_BackError : Value}
    {C_BadProgram : Addr}
    {on_BadProgram oq_BadProgram : Str} {oN_BadProgram : Addr} {ob_BadProgram om_BadProgram ou_BadProgram : List Value} {os_BadProgram : List Str} {oa_BadProgram : Bool} {ol_BadProgram : Option Bool} {od_BadProgram : Option Addr} {o0_BadProgram o1_BadProgram o2_BadProgram o3_BadProgram o5_BadProgram : Option Value}
    {C_Program : Addr}
    (a_law : PySem.W.nsIn K mainGlobals "law" = some (some (.ref f_law)))
    (a_is_whole : PySem.W.nsIn K mainGlobals "is_whole" = some (some (.ref f_is_whole)))
    (a_is_word : PySem.W.nsIn K mainGlobals "is_word" = some (some (.ref f_is_word)))
    (a_is_name : PySem.W.nsIn K mainGlobals "is_name" = some (some (.ref f_is_name)))
    (a_look_at_proc : PySem.W.nsIn K mainGlobals "look_at_proc" = some (some (.ref f_look_at_proc)))
    (a_is_instruction : PySem.W.nsIn K mainGlobals "is_instruction" = some (some (.ref f_is_instruction)))
    (a_is_place : PySem.W.nsIn K mainGlobals "is_place" = some (some (.ref f_is_place)))
    (a_is_program : PySem.W.nsIn K mainGlobals "is_program" = some (some (.ref f_is_program)))
    (a_needs : PySem.W.nsIn K mainGlobals "needs" = some (some (.ref f_needs)))
    (a_law_draws : PySem.W.nsIn K mainGlobals "_law_draws" = some (some (.ref f_law_draws)))
    (a_law_draw : PySem.W.nsIn K mainGlobals "_law_draw" = some (some (.ref f_law_draw)))
    (a_law_same : PySem.W.nsIn K mainGlobals "_law_same" = some (some (.ref f_law_same)))
    (a_law_pick : PySem.W.nsIn K mainGlobals "_law_pick" = some (some (.ref f_law_pick)))
    (a_law_snippet : PySem.W.nsIn K mainGlobals "_law_snippet" = some (some (.ref f_law_snippet)))
    (a_law_goer : PySem.W.nsIn K mainGlobals "_law_goer" = some (some (.ref f_law_goer)))
    (a_law_program : PySem.W.nsIn K mainGlobals "_law_program" = some (some (.ref f_law_program)))
    (a_law_proc : PySem.W.nsIn K mainGlobals "_law_proc" = some (some (.ref f_law_proc)))
    (a_law_takes : PySem.W.nsIn K mainGlobals "_law_takes" = some (some (.ref f_law_takes)))
    (a_law_asked : PySem.W.nsIn K mainGlobals "_law_asked" = some (some (.ref f_law_asked)))
    (a_HALF : PySem.W.nsIn K mainGlobals "HALF" = some (some (.int 2147483648 t_HALF)))
    (a_WORKS : PySem.W.nsIn K mainGlobals "WORKS" = some (some (.ref q_WORKS)))
    (a_CONDITIONS : PySem.W.nsIn K mainGlobals "CONDITIONS" = some (some (.ref q_CONDITIONS)))
    (a_SMALL : PySem.W.nsIn K mainGlobals "SMALL" = some (some (.str "abcdefghijklmnopqrstuvwxyz" t_SMALL)))
    (a_MOST_CELLS : PySem.W.nsIn K mainGlobals "MOST_CELLS" = some (some (.int 16 t_MOST_CELLS)))
    (a_MOST_LOCKS : PySem.W.nsIn K mainGlobals "MOST_LOCKS" = some (some (.int 6 t_MOST_LOCKS)))
    (a_MOST_PROCS : PySem.W.nsIn K mainGlobals "MOST_PROCS" = some (some (.int 12 t_MOST_PROCS)))
    (a_MOST_PARAMS : PySem.W.nsIn K mainGlobals "MOST_PARAMS" = some (some (.int 4 t_MOST_PARAMS)))
    (a_MOST_LOCALS : PySem.W.nsIn K mainGlobals "MOST_LOCALS" = some (some (.int 8 t_MOST_LOCALS)))
    (a_MOST_CODE : PySem.W.nsIn K mainGlobals "MOST_CODE" = some (some (.int 80 t_MOST_CODE)))
    (a_ALONE : PySem.W.nsIn K mainGlobals "ALONE" = some (some (.ref q_ALONE)))
    (a_BackError : PySem.W.nsIn K mainGlobals "BackError" = some (some (.ref C_BackError)))
    (a_BadProgram : PySem.W.nsIn K mainGlobals "BadProgram" = some (some (.ref C_BadProgram)))
    (a_Program : PySem.W.nsIn K mainGlobals "Program" = some (some (.ref C_Program)))
    (mi_BadProgram : PySem.W.findIn K (.ref C_BadProgram) "__init__" = some (some (.ref f_BadProgram_init)))
    (mi_Program_init : PySem.W.findIn K (.ref C_Program) "__init__" = some (some (.ref f_Program_init)))
    (mi_Program_told : PySem.W.findIn K (.ref C_Program) "told" = some (some (.ref f_Program_told)))
    (lk_BadProgram_init : K.lookup f_BadProgram_init = some ⟨oc_BadProgram_init, od_BadProgram_init, .func (PySem.W.fnOf "__init__" "BadProgram.__init__" (defArgs s_BadProgram_init) (defBody s_BadProgram_init) (defScope s_BadProgram_init) .none kV_BadProgram_init dc_BadProgram_init pm_BadProgram_init an_BadProgram_init cd_BadProgram_init ct_BadProgram_init), so_BadProgram_init⟩)
    (cd_BadProgram_init_ : PySem.W.codeIn K cd_BadProgram_init "BadProgram.__init__" = true)
    (kp_BadProgram_init : PySem.W.keepIn K (.ref f_BadProgram_init) = true)
    (lk_is_whole : K.lookup f_is_whole = some ⟨oc_is_whole, od_is_whole, .func (PySem.W.fnOf "is_whole" "is_whole" (defArgs s_is_whole) (defBody s_is_whole) (defScope s_is_whole) .none kV_is_whole dc_is_whole pm_is_whole an_is_whole cd_is_whole ct_is_whole), so_is_whole⟩)
    (cd_is_whole_ : PySem.W.codeIn K cd_is_whole "is_whole" = true)
    (kp_is_whole : PySem.W.keepIn K (.ref f_is_whole) = true)
    (lk_is_word : K.lookup f_is_word = some ⟨oc_is_word, od_is_word, .func (PySem.W.fnOf "is_word" "is_word" (defArgs s_is_word) (defBody s_is_word) (defScope s_is_word) .none kV_is_word dc_is_word pm_is_word an_is_word cd_is_word ct_is_word), so_is_word⟩)
    (cd_is_word_ : PySem.W.codeIn K cd_is_word "is_word" = true)
    (kp_is_word : PySem.W.keepIn K (.ref f_is_word) = true)
    (lk_Program_init : K.lookup f_Program_init = some ⟨oc_Program_init, od_Program_init, .func (PySem.W.fnOf "__init__" "Program.__init__" (defArgs s_Program_init) (defBody s_Program_init) (defScope s_Program_init) .none kV_Program_init dc_Program_init pm_Program_init an_Program_init cd_Program_init ct_Program_init), so_Program_init⟩)
    (cd_Program_init_ : PySem.W.codeIn K cd_Program_init "Program.__init__" = true)
    (kp_Program_init : PySem.W.keepIn K (.ref f_Program_init) = true)
    (lk_Program_told : K.lookup f_Program_told = some ⟨oc_Program_told, od_Program_told, .func (PySem.W.fnOf "told" "Program.told" (defArgs s_Program_told) (defBody s_Program_told) (defScope s_Program_told) .none kV_Program_told dc_Program_told pm_Program_told an_Program_told cd_Program_told ct_Program_told), so_Program_told⟩)
    (cd_Program_told_ : PySem.W.codeIn K cd_Program_told "Program.told" = true)
    (kp_Program_told : PySem.W.keepIn K (.ref f_Program_told) = true)
    (lk_is_name : K.lookup f_is_name = some ⟨oc_is_name, od_is_name, .func (PySem.W.fnOf "is_name" "is_name" (defArgs s_is_name) (defBody s_is_name) (defScope s_is_name) .none kV_is_name dc_is_name pm_is_name an_is_name cd_is_name ct_is_name), so_is_name⟩)
    (cd_is_name_ : PySem.W.codeIn K cd_is_name "is_name" = true)
    (kp_is_name : PySem.W.keepIn K (.ref f_is_name) = true)
    (lk_look_at_proc : K.lookup f_look_at_proc = some ⟨oc_look_at_proc, od_look_at_proc, .func (PySem.W.fnOf "look_at_proc" "look_at_proc" (defArgs s_look_at_proc) (defBody s_look_at_proc) (defScope s_look_at_proc) .none kV_look_at_proc dc_look_at_proc pm_look_at_proc an_look_at_proc cd_look_at_proc ct_look_at_proc), so_look_at_proc⟩)
    (cd_look_at_proc_ : PySem.W.codeIn K cd_look_at_proc "look_at_proc" = true)
    (kp_look_at_proc : PySem.W.keepIn K (.ref f_look_at_proc) = true)
    (lk_is_instruction : K.lookup f_is_instruction = some ⟨oc_is_instruction, od_is_instruction, .func (PySem.W.fnOf "is_instruction" "is_instruction" (defArgs s_is_instruction) (defBody s_is_instruction) (defScope s_is_instruction) .none kV_is_instruction dc_is_instruction pm_is_instruction an_is_instruction cd_is_instruction ct_is_instruction), so_is_instruction⟩)
    (cd_is_instruction_ : PySem.W.codeIn K cd_is_instruction "is_instruction" = true)
    (kp_is_instruction : PySem.W.keepIn K (.ref f_is_instruction) = true)
    (lk_is_place : K.lookup f_is_place = some ⟨oc_is_place, od_is_place, .func (PySem.W.fnOf "is_place" "is_place" (defArgs s_is_place) (defBody s_is_place) (defScope s_is_place) .none kV_is_place dc_is_place pm_is_place an_is_place cd_is_place ct_is_place), so_is_place⟩)
    (cd_is_place_ : PySem.W.codeIn K cd_is_place "is_place" = true)
    (kp_is_place : PySem.W.keepIn K (.ref f_is_place) = true)
    (lk_is_program : K.lookup f_is_program = some ⟨oc_is_program, od_is_program, .func (PySem.W.fnOf "is_program" "is_program" (defArgs s_is_program) (defBody s_is_program) (defScope s_is_program) .none kV_is_program dc_is_program pm_is_program an_is_program cd_is_program ct_is_program), so_is_program⟩)
    (cd_is_program_ : PySem.W.codeIn K cd_is_program "is_program" = true)
    (kp_is_program : PySem.W.keepIn K (.ref f_is_program) = true)
    (lk_needs : K.lookup f_needs = some ⟨oc_needs, od_needs, .func (PySem.W.fnOf "needs" "needs" (defArgs s_needs) (defBody s_needs) (defScope s_needs) .none kV_needs dc_needs pm_needs an_needs cd_needs ct_needs), so_needs⟩)
    (cd_needs_ : PySem.W.codeIn K cd_needs "needs" = true)
    (kp_needs : PySem.W.keepIn K (.ref f_needs) = true)
    (lk_law_draws : K.lookup f_law_draws = some ⟨oc_law_draws, od_law_draws, .func (PySem.W.fnOf "_law_draws" "_law_draws" (defArgs s_law_draws) (defBody s_law_draws) (defScope s_law_draws) .none kV_law_draws dc_law_draws pm_law_draws an_law_draws cd_law_draws ct_law_draws), so_law_draws⟩)
    (cd_law_draws_ : PySem.W.codeIn K cd_law_draws "_law_draws" = true)
    (kp_law_draws : PySem.W.keepIn K (.ref f_law_draws) = true)
    (lk_law_draw : K.lookup f_law_draw = some ⟨oc_law_draw, od_law_draw, .func (PySem.W.fnOf "_law_draw" "_law_draw" (defArgs s_law_draw) (defBody s_law_draw) (defScope s_law_draw) .none kV_law_draw dc_law_draw pm_law_draw an_law_draw cd_law_draw ct_law_draw), so_law_draw⟩)
    (cd_law_draw_ : PySem.W.codeIn K cd_law_draw "_law_draw" = true)
    (kp_law_draw : PySem.W.keepIn K (.ref f_law_draw) = true)
    (lk_law_same : K.lookup f_law_same = some ⟨oc_law_same, od_law_same, .func (PySem.W.fnOf "_law_same" "_law_same" (defArgs s_law_same) (defBody s_law_same) (defScope s_law_same) .none kV_law_same dc_law_same pm_law_same an_law_same cd_law_same ct_law_same), so_law_same⟩)
    (cd_law_same_ : PySem.W.codeIn K cd_law_same "_law_same" = true)
    (kp_law_same : PySem.W.keepIn K (.ref f_law_same) = true)
    (lk_law_pick : K.lookup f_law_pick = some ⟨oc_law_pick, od_law_pick, .func (PySem.W.fnOf "_law_pick" "_law_pick" (defArgs s_law_pick) (defBody s_law_pick) (defScope s_law_pick) .none kV_law_pick dc_law_pick pm_law_pick an_law_pick cd_law_pick ct_law_pick), so_law_pick⟩)
    (cd_law_pick_ : PySem.W.codeIn K cd_law_pick "_law_pick" = true)
    (kp_law_pick : PySem.W.keepIn K (.ref f_law_pick) = true)
    (lk_law_snippet : K.lookup f_law_snippet = some ⟨oc_law_snippet, od_law_snippet, .func (PySem.W.fnOf "_law_snippet" "_law_snippet" (defArgs s_law_snippet) (defBody s_law_snippet) (defScope s_law_snippet) .none kV_law_snippet dc_law_snippet pm_law_snippet an_law_snippet cd_law_snippet ct_law_snippet), so_law_snippet⟩)
    (cd_law_snippet_ : PySem.W.codeIn K cd_law_snippet "_law_snippet" = true)
    (kp_law_snippet : PySem.W.keepIn K (.ref f_law_snippet) = true)
    (lk_law_goer : K.lookup f_law_goer = some ⟨oc_law_goer, od_law_goer, .func (PySem.W.fnOf "_law_goer" "_law_goer" (defArgs s_law_goer) (defBody s_law_goer) (defScope s_law_goer) .none kV_law_goer dc_law_goer pm_law_goer an_law_goer cd_law_goer ct_law_goer), so_law_goer⟩)
    (cd_law_goer_ : PySem.W.codeIn K cd_law_goer "_law_goer" = true)
    (kp_law_goer : PySem.W.keepIn K (.ref f_law_goer) = true)
    (lk_law_program : K.lookup f_law_program = some ⟨oc_law_program, od_law_program, .func (PySem.W.fnOf "_law_program" "_law_program" (defArgs s_law_program) (defBody s_law_program) (defScope s_law_program) .none kV_law_program dc_law_program pm_law_program an_law_program cd_law_program ct_law_program), so_law_program⟩)
    (cd_law_program_ : PySem.W.codeIn K cd_law_program "_law_program" = true)
    (kp_law_program : PySem.W.keepIn K (.ref f_law_program) = true)
    (lk_law_proc : K.lookup f_law_proc = some ⟨oc_law_proc, od_law_proc, .func (PySem.W.fnOf "_law_proc" "_law_proc" (defArgs s_law_proc) (defBody s_law_proc) (defScope s_law_proc) .none kV_law_proc dc_law_proc pm_law_proc an_law_proc cd_law_proc ct_law_proc), so_law_proc⟩)
    (cd_law_proc_ : PySem.W.codeIn K cd_law_proc "_law_proc" = true)
    (kp_law_proc : PySem.W.keepIn K (.ref f_law_proc) = true)
    (lk_law_takes : K.lookup f_law_takes = some ⟨oc_law_takes, od_law_takes, .func (PySem.W.fnOf "_law_takes" "_law_takes" (defArgs s_law_takes) (defBody s_law_takes) (defScope s_law_takes) .none kV_law_takes dc_law_takes pm_law_takes an_law_takes cd_law_takes ct_law_takes), so_law_takes⟩)
    (cd_law_takes_ : PySem.W.codeIn K cd_law_takes "_law_takes" = true)
    (kp_law_takes : PySem.W.keepIn K (.ref f_law_takes) = true)
    (lk_law_asked : K.lookup f_law_asked = some ⟨oc_law_asked, od_law_asked, .func (PySem.W.fnOf "_law_asked" "_law_asked" (defArgs s_law_asked) (defBody s_law_asked) (defScope s_law_asked) .none kV_law_asked dc_law_asked pm_law_asked an_law_asked cd_law_asked ct_law_asked), so_law_asked⟩)
    (cd_law_asked_ : PySem.W.codeIn K cd_law_asked "_law_asked" = true)
    (kp_law_asked : PySem.W.keepIn K (.ref f_law_asked) = true)
    (lk_law : K.lookup f_law = some ⟨oc_law, od_law, .func (PySem.W.fnOf "law" "law" (defArgs s_law) (defBody s_law) (defScope s_law) .none kV_law dc_law pm_law an_law cd_law ct_law), so_law⟩)
    (cd_law_ : PySem.W.codeIn K cd_law "law" = true)
    (kp_law : PySem.W.keepIn K (.ref f_law) = true)
    (l_WORKS : K.lookup q_WORKS = some ⟨.type "tuple", dd_WORKS, .seq it_WORKS nn_WORKS, sl_WORKS⟩)
    (v_WORKS : Vals [.str "add", .str "sub", .str "mul", .str "div", .str "rem", .str "and", .str "or", .str "xor"] it_WORKS.toList)
    (z_WORKS : it_WORKS.size ≤ sizeLine)
    (l_CONDITIONS : K.lookup q_CONDITIONS = some ⟨.type "tuple", dd_CONDITIONS, .seq it_CONDITIONS nn_CONDITIONS, sl_CONDITIONS⟩)
    (v_CONDITIONS : Vals [.str "lt", .str "le", .str "eq", .str "ne", .str "gt", .str "ge"] it_CONDITIONS.toList)
    (z_CONDITIONS : it_CONDITIONS.size ≤ sizeLine)
    (l_ALONE : K.lookup q_ALONE = some ⟨.type "tuple", dd_ALONE, .seq it_ALONE nn_ALONE, sl_ALONE⟩)
    (v_ALONE : Vals [.str "add", .str "sub", .str "mul", .str "div", .str "rem", .str "and", .str "or", .str "xor", .str "dup", .str "drop", .str "neg", .str "give", .str "fetch", .str "set", .str "ask", .str "tell", .str "join"] it_ALONE.toList)
    (z_ALONE : it_ALONE.size ≤ sizeLine)
    (b_all : PySem.W.nsIn K mainGlobals "all" = some none)
    (b_bool : PySem.W.nsIn K mainGlobals "bool" = some none)
    (b_enumerate : PySem.W.nsIn K mainGlobals "enumerate" = some none)
    (b_int : PySem.W.nsIn K mainGlobals "int" = some none)
    (b_isinstance : PySem.W.nsIn K mainGlobals "isinstance" = some none)
    (b_len : PySem.W.nsIn K mainGlobals "len" = some none)
    (b_list : PySem.W.nsIn K mainGlobals "list" = some none)
    (b_min : PySem.W.nsIn K mainGlobals "min" = some none)
    (b_range : PySem.W.nsIn K mainGlobals "range" = some none)
    (b_str : PySem.W.nsIn K mainGlobals "str" = some none)
    (b_tuple : PySem.W.nsIn K mainGlobals "tuple" = some none)
    (k_BackError_ : PySem.W.keepIn K (.ref C_BackError) = true)
    (sb_BackError_ : PySem.W.subIn K (.ref C_BackError) (.type "BaseException") = some true)
    (ty_BackError_ : PySem.W.typeIn K (.ref C_BackError) = some (.type "type"))
    (hd_BackError_ : PySem.W.hasDictIn K C_BackError = true)
    (ga_BackError_ : PySem.W.findIn K (.ref C_BackError) "__getattribute__" = some (some (.builtin "BaseException.__getattribute__")))
    (gg_BackError_ : PySem.W.findIn K (.ref C_BackError) "__getattr__" = some none)
    (gc_BackError_ : PySem.W.findIn K (.ref C_BackError) "__class__" = some (some (.builtin "object.__class__")))
    (mo_BackError_ : PySem.W.mroIn K C_BackError (.type "object") = some true)
    (x_BackError_ : PySem.W.excIn K C_BackError [.type "ValueError", .type "Exception", .type "BaseException", .type "object"] "ValueError.__new__" = true)
    (og_BackError : PySem.W.specialIn K (.ref C_BackError) "__getattribute__" = some (some (.builtin "type.__getattribute__")))
    (om_BackError : PySem.W.typeIn K (.ref C_BackError) = some mc_BackError)
    (ord_BackError : PySem.W.readsIn K C_BackError mc_BackError = true)
    (of_BackError : PySem.W.findCls K (.ref C_BackError) mc_BackError "__init__" = some (.val (.builtin "ValueError.__init__")))
    (k_BadProgram_ : PySem.W.keepIn K (.ref C_BadProgram) = true)
    (sb_BadProgram_ : PySem.W.subIn K (.ref C_BadProgram) (.type "BaseException") = some true)
    (ty_BadProgram_ : PySem.W.typeIn K (.ref C_BadProgram) = some (.type "type"))
    (hd_BadProgram_ : PySem.W.hasDictIn K C_BadProgram = true)
    (ga_BadProgram_ : PySem.W.findIn K (.ref C_BadProgram) "__getattribute__" = some (some (.builtin "BaseException.__getattribute__")))
    (gg_BadProgram_ : PySem.W.findIn K (.ref C_BadProgram) "__getattr__" = some none)
    (gc_BadProgram_ : PySem.W.findIn K (.ref C_BadProgram) "__class__" = some (some (.builtin "object.__class__")))
    (mo_BadProgram_ : PySem.W.mroIn K C_BadProgram (.type "object") = some true)
    (ox_BadProgram : K.lookup C_BadProgram = some (excClassObj on_BadProgram oq_BadProgram C_BadProgram oN_BadProgram ob_BadProgram om_BadProgram true os_BadProgram ou_BadProgram oa_BadProgram ol_BadProgram od_BadProgram o0_BadProgram o1_BadProgram o2_BadProgram o3_BadProgram o5_BadProgram "ValueError.__new__"))
    (or_BadProgram : PySem.HandSPX.refsVE om_BadProgram = true)
    (oe_BadProgram : PySem.W.findIn K (.ref C_BadProgram) "__setattr__" = some (some (.builtin "object.__setattr__")))
    (no_BadProgram_place_ : PySem.W.findIn K (.ref C_BadProgram) "place" = some none)
    (no_BadProgram_word_ : PySem.W.findIn K (.ref C_BadProgram) "word" = some none)
    (mf_BadProgram : PySem.W.isFn K (.ref f_BadProgram_init) = true)
    (mt_BadProgram : PySem.W.typeIn K (.ref f_BadProgram_init) = some (.type "function"))
    (cp_Program_ : PySem.W.plainGet K C_Program Str.empty = true)
    (ch_Program_ : PySem.W.hasDictIn K C_Program = true)
    (co_Program_ : PySem.W.plainOver K C_Program = true)
    (cs_Program_ : PySem.W.findIn K (.ref C_Program) "__setattr__" = some (some (.builtin "object.__setattr__")))
    (gc_Program_ : PySem.W.findIn K (.ref C_Program) "__class__" = some (some (.builtin "object.__class__")))
    (mo_Program_ : PySem.W.mroIn K C_Program (.type "object") = some true)
    (no_Program_by_ : PySem.W.findIn K (.ref C_Program) "by" = some none)
    (no_Program_cells_ : PySem.W.findIn K (.ref C_Program) "cells" = some none)
    (no_Program_locks_ : PySem.W.findIn K (.ref C_Program) "locks" = some none)
    (no_Program_procs_ : PySem.W.findIn K (.ref C_Program) "procs" = some none)
    (no_Program_start_ : PySem.W.findIn K (.ref C_Program) "start" = some none)
    (mf_Program_init : PySem.W.isFn K (.ref f_Program_init) = true)
    (mm_Program : PySem.W.makesIn K C_Program = true)
    (mq_Program : PySem.W.keepIn K (.ref C_Program) = true)
    (mf_Program_told : PySem.W.isFn K (.ref f_Program_told) = true)
    (ki_BackError_BackError : PySem.W.kitOne K (.ref C_BackError) (.ref C_BackError) = some true)
    (ss_BackError_BackError : PySem.W.subIn K (.ref C_BackError) (.ref C_BackError) = some true)
    (ki_BackError_BadProgram : PySem.W.kitOne K (.ref C_BackError) (.ref C_BadProgram) = some false)
    (ss_BackError_BadProgram : PySem.W.subIn K (.ref C_BackError) (.ref C_BadProgram) = some false)
    (ki_BadProgram_BackError : PySem.W.kitOne K (.ref C_BadProgram) (.ref C_BackError) = some true)
    (ss_BadProgram_BackError : PySem.W.subIn K (.ref C_BadProgram) (.ref C_BackError) = some true)
    (ki_BadProgram_BadProgram : PySem.W.kitOne K (.ref C_BadProgram) (.ref C_BadProgram) = some true)
    (ss_BadProgram_BadProgram : PySem.W.subIn K (.ref C_BadProgram) (.ref C_BadProgram) = some true)
    (oc_get : PySem.W.specialIn K (.builtin "object.__class__") "__get__" = some (some (.builtin "getset_descriptor.__get__")))
    (oc_tak : PySem.W.takesIn K (.builtin "object.__class__") = some true)
    : ∃ fd : FuncData, (∀ (s : Shared) (v : Value), BindsTo s fd ⟨[v], []⟩ [("script", v)]) ∧ ∀ base : Heap, K.In base → base.Ns mainGlobals mg → FnOk l.prog w K mg base CX0 30 fa fd ["script"] (spLaw K) := by
  have e := hfa.symm.trans (PySem.W.mg_of X G a_law)
  obtain rfl : f_law = fa := by cases e; rfl
  have T : Txt K mg ⟨f_BadProgram_init, f_is_whole, f_is_word, f_Program_init, f_Program_told, f_is_name, f_look_at_proc, f_is_instruction, f_is_place, f_is_program, f_needs, f_law_draws, f_law_draw, f_law_same, f_law_pick, f_law_snippet, f_law_goer, f_law_program, f_law_proc, f_law_takes, f_law_asked, f_law, C_BackError, C_BadProgram, C_Program, q_WORKS, q_CONDITIONS, q_ALONE⟩ := by
    constructor
    · exact PySem.W.mg_of X G a_is_whole
    · exact kp_is_whole
    · exact PySem.W.mg_of X G a_is_word
    · exact kp_is_word
    · exact PySem.W.mg_of X G a_is_name
    · exact kp_is_name
    · exact PySem.W.mg_of X G a_look_at_proc
    · exact kp_look_at_proc
    · exact PySem.W.mg_of X G a_is_instruction
    · exact kp_is_instruction
    · exact PySem.W.mg_of X G a_is_place
    · exact kp_is_place
    · exact PySem.W.mg_of X G a_is_program
    · exact kp_is_program
    · exact PySem.W.mg_of X G a_needs
    · exact kp_needs
    · exact PySem.W.mg_of X G a_law_draws
    · exact kp_law_draws
    · exact PySem.W.mg_of X G a_law_draw
    · exact kp_law_draw
    · exact PySem.W.mg_of X G a_law_same
    · exact kp_law_same
    · exact PySem.W.mg_of X G a_law_pick
    · exact kp_law_pick
    · exact PySem.W.mg_of X G a_law_snippet
    · exact kp_law_snippet
    · exact PySem.W.mg_of X G a_law_goer
    · exact kp_law_goer
    · exact PySem.W.mg_of X G a_law_program
    · exact kp_law_program
    · exact PySem.W.mg_of X G a_law_proc
    · exact kp_law_proc
    · exact PySem.W.mg_of X G a_law_takes
    · exact kp_law_takes
    · exact PySem.W.mg_of X G a_law_asked
    · exact kp_law_asked
    · exact PySem.W.mg_of X G a_law
    · exact kp_law
    · exact ⟨_, PySem.W.mg_of X G a_HALF, ⟨_, rfl⟩⟩
    · exact ⟨_, PySem.W.mg_of X G a_WORKS, rfl⟩
    · exact ⟨_, _, _, l_WORKS, rfl, rfl, z_WORKS, v_WORKS⟩
    · exact ⟨_, PySem.W.mg_of X G a_CONDITIONS, rfl⟩
    · exact ⟨_, _, _, l_CONDITIONS, rfl, rfl, z_CONDITIONS, v_CONDITIONS⟩
    · exact ⟨_, PySem.W.mg_of X G a_SMALL, ⟨_, rfl⟩⟩
    · exact ⟨_, PySem.W.mg_of X G a_MOST_CELLS, ⟨_, rfl⟩⟩
    · exact ⟨_, PySem.W.mg_of X G a_MOST_LOCKS, ⟨_, rfl⟩⟩
    · exact ⟨_, PySem.W.mg_of X G a_MOST_PROCS, ⟨_, rfl⟩⟩
    · exact ⟨_, PySem.W.mg_of X G a_MOST_PARAMS, ⟨_, rfl⟩⟩
    · exact ⟨_, PySem.W.mg_of X G a_MOST_LOCALS, ⟨_, rfl⟩⟩
    · exact ⟨_, PySem.W.mg_of X G a_MOST_CODE, ⟨_, rfl⟩⟩
    · exact ⟨_, PySem.W.mg_of X G a_ALONE, rfl⟩
    · exact ⟨_, _, _, l_ALONE, rfl, rfl, z_ALONE, v_ALONE⟩
    · exact PySem.W.mg_none_of X G b_all
    · exact PySem.W.mg_none_of X G b_bool
    · exact PySem.W.mg_none_of X G b_enumerate
    · exact PySem.W.mg_none_of X G b_int
    · exact PySem.W.mg_none_of X G b_isinstance
    · exact PySem.W.mg_none_of X G b_len
    · exact PySem.W.mg_none_of X G b_list
    · exact PySem.W.mg_none_of X G b_min
    · exact PySem.W.mg_none_of X G b_range
    · exact PySem.W.mg_none_of X G b_str
    · exact PySem.W.mg_none_of X G b_tuple
    · exact PySem.W.mg_of X G a_BackError
    · exact k_BackError_
    · exact sb_BackError_
    · exact ty_BackError_
    · exact hd_BackError_
    · exact ga_BackError_
    · exact gg_BackError_
    · exact gc_BackError_
    · exact mo_BackError_
    · exact ⟨ga_BackError_, gg_BackError_, sb_BackError_, hd_BackError_, gc_BackError_, oc_get, oc_tak, mo_BackError_⟩
    · exact ⟨ga_BackError_, gg_BackError_, sb_BackError_, hd_BackError_⟩
    · exact x_BackError_
    · exact ⟨PySem.W.mg_of X G a_BackError, og_BackError, mc_BackError, ord_BackError, of_BackError⟩
    · exact PySem.W.mg_of X G a_BadProgram
    · exact k_BadProgram_
    · exact sb_BadProgram_
    · exact ty_BadProgram_
    · exact hd_BadProgram_
    · exact ga_BadProgram_
    · exact gg_BadProgram_
    · exact gc_BadProgram_
    · exact mo_BadProgram_
    · exact ⟨ga_BadProgram_, gg_BadProgram_, sb_BadProgram_, hd_BadProgram_, gc_BadProgram_, oc_get, oc_tak, mo_BadProgram_⟩
    · exact ⟨ga_BadProgram_, gg_BadProgram_, sb_BadProgram_, hd_BadProgram_⟩
    · exact ⟨⟨_, _, _, _, _, _, _, _, _, _, _, _, _, _, _, ox_BadProgram, or_BadProgram⟩, oe_BadProgram, sb_BadProgram_, ty_BadProgram_, k_BadProgram_⟩
    · exact no_BadProgram_place_
    · exact no_BadProgram_word_
    · exact ⟨mi_BadProgram, mf_BadProgram, kp_BadProgram_init⟩
    · exact mt_BadProgram
    · exact PySem.W.mg_of X G a_Program
    · exact cp_Program_
    · exact ch_Program_
    · exact co_Program_
    · exact cs_Program_
    · exact gc_Program_
    · exact mo_Program_
    · exact ⟨cp_Program_, ch_Program_, co_Program_, cs_Program_⟩
    · exact no_Program_by_
    · exact no_Program_cells_
    · exact no_Program_locks_
    · exact no_Program_procs_
    · exact no_Program_start_
    · exact ⟨mi_Program_init, mf_Program_init, kp_Program_init⟩
    · exact ⟨mm_Program, mi_Program_init, mf_Program_init, mq_Program⟩
    · exact ⟨mi_Program_told, mf_Program_told, kp_Program_told⟩
    · exact ki_BackError_BackError
    · exact PySem.W.exm_ref sb_BackError_ hd_BackError_ ty_BackError_ ss_BackError_BackError
    · exact ki_BackError_BadProgram
    · exact PySem.W.exm_ref sb_BadProgram_ hd_BadProgram_ ty_BadProgram_ ss_BackError_BadProgram
    · exact ki_BadProgram_BackError
    · exact PySem.W.exm_ref sb_BackError_ hd_BackError_ ty_BackError_ ss_BadProgram_BackError
    · exact ki_BadProgram_BadProgram
    · exact PySem.W.exm_ref sb_BadProgram_ hd_BadProgram_ ty_BadProgram_ ss_BadProgram_BadProgram
    · exact oc_get
    · exact oc_tak
  have F_BadProgram_init := fun_mk (st := s_BadProgram_init) lk_BadProgram_init cd_BadProgram_init_ kp_BadProgram_init
  have b_BadProgram_init_ := F_BadProgram_init.binds (ps := ["self", "place", "word"]) fun _ _ _ _ _ _ us hl => match us, hl with | [_, _, _], _ => rfl
  have F_is_whole := fun_mk (st := s_is_whole) lk_is_whole cd_is_whole_ kp_is_whole
  have b_is_whole_ := F_is_whole.binds (ps := ["value"]) fun _ _ _ _ _ _ us hl => match us, hl with | [_], _ => rfl
  have F_is_word := fun_mk (st := s_is_word) lk_is_word cd_is_word_ kp_is_word
  have b_is_word_ := F_is_word.binds (ps := ["value"]) fun _ _ _ _ _ _ us hl => match us, hl with | [_], _ => rfl
  have F_Program_init := fun_mk (st := s_Program_init) lk_Program_init cd_Program_init_ kp_Program_init
  have b_Program_init_ := F_Program_init.binds (ps := ["self", "cells", "locks", "procs", "start"]) fun _ _ _ _ _ _ us hl => match us, hl with | [_, _, _, _, _], _ => rfl
  have F_Program_told := fun_mk (st := s_Program_told) lk_Program_told cd_Program_told_ kp_Program_told
  have b_Program_told_ := F_Program_told.binds (ps := ["self"]) fun _ _ _ _ _ _ us hl => match us, hl with | [_], _ => rfl
  have F_is_name := fun_mk (st := s_is_name) lk_is_name cd_is_name_ kp_is_name
  have b_is_name_ := F_is_name.binds (ps := ["value"]) fun _ _ _ _ _ _ us hl => match us, hl with | [_], _ => rfl
  have F_look_at_proc := fun_mk (st := s_look_at_proc) lk_look_at_proc cd_look_at_proc_ kp_look_at_proc
  have b_look_at_proc_ := F_look_at_proc.binds (ps := ["program", "one"]) fun _ _ _ _ _ _ us hl => match us, hl with | [_, _], _ => rfl
  have F_is_instruction := fun_mk (st := s_is_instruction) lk_is_instruction cd_is_instruction_ kp_is_instruction
  have b_is_instruction_ := F_is_instruction.binds (ps := ["program", "proc", "value"]) fun _ _ _ _ _ _ us hl => match us, hl with | [_, _, _], _ => rfl
  have F_is_place := fun_mk (st := s_is_place) lk_is_place cd_is_place_ kp_is_place
  have b_is_place_ := F_is_place.binds (ps := ["proc", "value"]) fun _ _ _ _ _ _ us hl => match us, hl with | [_, _], _ => rfl
  have F_is_program := fun_mk (st := s_is_program) lk_is_program cd_is_program_ kp_is_program
  have b_is_program_ := F_is_program.binds (ps := ["value"]) fun _ _ _ _ _ _ us hl => match us, hl with | [_], _ => rfl
  have F_needs := fun_mk (st := s_needs) lk_needs cd_needs_ kp_needs
  have b_needs_ := F_needs.binds (ps := ["program", "op"]) fun _ _ _ _ _ _ us hl => match us, hl with | [_, _], _ => rfl
  have F_law_draws := fun_mk (st := s_law_draws) lk_law_draws cd_law_draws_ kp_law_draws
  have b_law_draws_ := F_law_draws.binds (ps := ["script"]) fun _ _ _ _ _ _ us hl => match us, hl with | [_], _ => rfl
  have F_law_draw := fun_mk (st := s_law_draw) lk_law_draw cd_law_draw_ kp_law_draw
  have b_law_draw_ := F_law_draw.binds (ps := ["draws", "limit"]) fun _ _ _ _ _ _ us hl => match us, hl with | [_, _], _ => rfl
  have F_law_same := fun_mk (st := s_law_same) lk_law_same cd_law_same_ kp_law_same
  have b_law_same_ := F_law_same.binds (ps := ["actual", "expected"]) fun _ _ _ _ _ _ us hl => match us, hl with | [_, _], _ => rfl
  have F_law_pick := fun_mk (st := s_law_pick) lk_law_pick cd_law_pick_ kp_law_pick
  have b_law_pick_ := F_law_pick.binds (ps := ["draws", "things"]) fun _ _ _ _ _ _ us hl => match us, hl with | [_, _], _ => rfl
  have F_law_snippet := fun_mk (st := s_law_snippet) lk_law_snippet cd_law_snippet_ kp_law_snippet
  have b_law_snippet_ := F_law_snippet.binds (ps := ["draws", "cells", "locks", "deep"]) fun _ _ _ _ _ _ us hl => match us, hl with | [_, _, _, _], _ => rfl
  have F_law_goer := fun_mk (st := s_law_goer) lk_law_goer cd_law_goer_ kp_law_goer
  have b_law_goer_ := F_law_goer.binds (ps := ["draws", "cells", "locks"]) fun _ _ _ _ _ _ us hl => match us, hl with | [_, _, _], _ => rfl
  have F_law_program := fun_mk (st := s_law_program) lk_law_program cd_law_program_ kp_law_program
  have b_law_program_ := F_law_program.binds (ps := ["draws"]) fun _ _ _ _ _ _ us hl => match us, hl with | [_], _ => rfl
  have F_law_proc := fun_mk (st := s_law_proc) lk_law_proc cd_law_proc_ kp_law_proc
  have b_law_proc_ := F_law_proc.binds (ps := ["told", "name"]) fun _ _ _ _ _ _ us hl => match us, hl with | [_, _], _ => rfl
  have F_law_takes := fun_mk (st := s_law_takes) lk_law_takes cd_law_takes_ kp_law_takes
  have b_law_takes_ := F_law_takes.binds (ps := ["told", "op"]) fun _ _ _ _ _ _ us hl => match us, hl with | [_, _], _ => rfl
  have F_law_asked := fun_mk (st := s_law_asked) lk_law_asked cd_law_asked_ kp_law_asked
  have b_law_asked_ := F_law_asked.binds (ps := ["told"]) fun _ _ _ _ _ _ us hl => match us, hl with | [_], _ => rfl
  have F_law := fun_mk (st := s_law) lk_law cd_law_ kp_law
  have b_law_ := F_law.binds (ps := ["script"]) fun _ _ _ _ _ _ us hl => match us, hl with | [_], _ => rfl
  have U : Funs K ⟨f_BadProgram_init, f_is_whole, f_is_word, f_Program_init, f_Program_told, f_is_name, f_look_at_proc, f_is_instruction, f_is_place, f_is_program, f_needs, f_law_draws, f_law_draw, f_law_same, f_law_pick, f_law_snippet, f_law_goer, f_law_program, f_law_proc, f_law_takes, f_law_asked, f_law, C_BackError, C_BadProgram, C_Program, q_WORKS, q_CONDITIONS, q_ALONE⟩ := by
    constructor
    · exact ⟨_, F_BadProgram_init, b_BadProgram_init_⟩
    · exact ⟨_, F_is_whole, b_is_whole_⟩
    · exact ⟨_, F_is_word, b_is_word_⟩
    · exact ⟨_, F_Program_init, b_Program_init_⟩
    · exact ⟨_, F_Program_told, b_Program_told_⟩
    · exact ⟨_, F_is_name, b_is_name_⟩
    · exact ⟨_, F_look_at_proc, b_look_at_proc_⟩
    · exact ⟨_, F_is_instruction, b_is_instruction_⟩
    · exact ⟨_, F_is_place, b_is_place_⟩
    · exact ⟨_, F_is_program, b_is_program_⟩
    · exact ⟨_, F_needs, b_needs_⟩
    · exact ⟨_, F_law_draws, b_law_draws_⟩
    · exact ⟨_, F_law_draw, b_law_draw_⟩
    · exact ⟨_, F_law_same, b_law_same_⟩
    · exact ⟨_, F_law_pick, b_law_pick_⟩
    · exact ⟨_, F_law_snippet, b_law_snippet_⟩
    · exact ⟨_, F_law_goer, b_law_goer_⟩
    · exact ⟨_, F_law_program, b_law_program_⟩
    · exact ⟨_, F_law_proc, b_law_proc_⟩
    · exact ⟨_, F_law_takes, b_law_takes_⟩
    · exact ⟨_, F_law_asked, b_law_asked_⟩
    · exact ⟨_, F_law, b_law_⟩
  exact ⟨_, fun s v => .of_eq rfl, fun base _ _ => ok_law F_law T U⟩
theorem walk {l : PySem.W.OpenLaw} {q : Program} {loose : List Str} {XP : (Str → Option Value) → Heap → Prop} {YP : World → Heap → Prop} {d : DefRec} {K : Params → PySem.W.Frag} (hn : l.most = some 63) (hdf : d.params.defaults = [])
    (hY : ∀ (w : World) (h : Heap), YP w h → (K w.params).In h)
    (F : ∀ (w : World) (mg : Str → Option Value) (fa : Addr) (h : Heap), (K w.params).In h → h.Ns mainGlobals mg → mg d.name = some (.ref fa) →
      ∃ fd : FuncData, (∀ (s : Shared) (u : Value), BindsTo s fd ⟨[u], []⟩ [("script", u)]) ∧ ∀ base : Heap, (K w.params).In base → base.Ns mainGlobals mg → FnOk l.prog w (K w.params) mg base CX0 30 fa fd ["script"] (spLaw (K w.params))) :
    PySem.W.WalkO q loose XP YP l.row.toRowW d [] (fun f vs => PySem.call f vs) :=
  L2.walk_of (n := 63) (k := 30) (x := "script") (CX := fun _ => CX0) (sp := fun w => spLaw (K w.params)) hn (by decide) hdf ⟨rfl, by decide, by decide⟩ hY F (fun _ _ a ns hl _ hS => ⟨a, ns, rfl, hS, hl, fun _ => rfl⟩) fun _ _ _ _ _ z => z
end My
open PySem PySem.W PyProof.Rows
set_option maxRecDepth 100000 in
set_option maxHeartbeats 0 in
theorem PySem.Challenge.cw_wentback_k01_whole_programs_by_their_for_holds : PySem.Challenge.rw_wentback_k01_whole_programs_by_their_for.Holds := by
  w_on; o_law; k_head; (case hw => w_witness2)
  k_fill
  refine My.walk (l := PySem.Challenge.rw_wentback_k01_whole_programs_by_their_for) rfl rfl (fun w h Y => PySem.W.kIn_of Y) ?F
  case F =>
    intro w mg fa h KX G hmg
    refine' My.all_mk KX G hmg ?a_law ?a_is_whole ?a_is_word ?a_is_name ?a_look_at_proc ?a_is_instruction ?a_is_place ?a_is_program ?a_needs ?a_law_draws ?a_law_draw ?a_law_same ?a_law_pick ?a_law_snippet ?a_law_goer ?a_law_program ?a_law_proc ?a_law_takes ?a_law_asked ?a_HALF ?a_WORKS ?a_CONDITIONS ?a_SMALL ?a_MOST_CELLS ?a_MOST_LOCKS ?a_MOST_PROCS ?a_MOST_PARAMS ?a_MOST_LOCALS ?a_MOST_CODE ?a_ALONE ?a_BackError ?a_BadProgram ?a_Program ?mi_BadProgram ?mi_Program_init ?mi_Program_told ?lk_BadProgram_init ?cd_BadProgram_init_ ?kp_BadProgram_init ?lk_is_whole ?cd_is_whole_ ?kp_is_whole ?lk_is_word ?cd_is_word_ ?kp_is_word ?lk_Program_init ?cd_Program_init_ ?kp_Program_init ?lk_Program_told ?cd_Program_told_ ?kp_Program_told ?lk_is_name ?cd_is_name_ ?kp_is_name ?lk_look_at_proc ?cd_look_at_proc_ ?kp_look_at_proc ?lk_is_instruction ?cd_is_instruction_ ?kp_is_instruction ?lk_is_place ?cd_is_place_ ?kp_is_place ?lk_is_program ?cd_is_program_ ?kp_is_program ?lk_needs ?cd_needs_ ?kp_needs ?lk_law_draws ?cd_law_draws_ ?kp_law_draws ?lk_law_draw ?cd_law_draw_ ?kp_law_draw ?lk_law_same ?cd_law_same_ ?kp_law_same ?lk_law_pick ?cd_law_pick_ ?kp_law_pick ?lk_law_snippet ?cd_law_snippet_ ?kp_law_snippet ?lk_law_goer ?cd_law_goer_ ?kp_law_goer ?lk_law_program ?cd_law_program_ ?kp_law_program ?lk_law_proc ?cd_law_proc_ ?kp_law_proc ?lk_law_takes ?cd_law_takes_ ?kp_law_takes ?lk_law_asked ?cd_law_asked_ ?kp_law_asked ?lk_law ?cd_law_ ?kp_law ?l_WORKS ?v_WORKS ?z_WORKS ?l_CONDITIONS ?v_CONDITIONS ?z_CONDITIONS ?l_ALONE ?v_ALONE ?z_ALONE ?b_all ?b_bool ?b_enumerate ?b_int ?b_isinstance ?b_len ?b_list ?b_min ?b_range ?b_str ?b_tuple ?k_BackError_ ?sb_BackError_ ?ty_BackError_ ?hd_BackError_ ?ga_BackError_ ?gg_BackError_ ?gc_BackError_ ?mo_BackError_ ?x_BackError_ ?og_BackError ?om_BackError ?ord_BackError ?of_BackError ?k_BadProgram_ ?sb_BadProgram_ ?ty_BadProgram_ ?hd_BadProgram_ ?ga_BadProgram_ ?gg_BadProgram_ ?gc_BadProgram_ ?mo_BadProgram_ ?ox_BadProgram ?or_BadProgram ?oe_BadProgram ?no_BadProgram_place_ ?no_BadProgram_word_ ?mf_BadProgram ?mt_BadProgram ?cp_Program_ ?ch_Program_ ?co_Program_ ?cs_Program_ ?gc_Program_ ?mo_Program_ ?no_Program_by_ ?no_Program_cells_ ?no_Program_locks_ ?no_Program_procs_ ?no_Program_start_ ?mf_Program_init ?mm_Program ?mq_Program ?mf_Program_told ?ki_BackError_BackError ?ss_BackError_BackError ?ki_BackError_BadProgram ?ss_BackError_BadProgram ?ki_BadProgram_BackError ?ss_BadProgram_BackError ?ki_BadProgram_BadProgram ?ss_BadProgram_BadProgram ?oc_get ?oc_tak
    (case a_law => k_is)
    (case a_is_whole => k_is)
    (case a_is_word => k_is)
    (case a_is_name => k_is)
    (case a_look_at_proc => k_is)
    (case a_is_instruction => k_is)
    (case a_is_place => k_is)
    (case a_is_program => k_is)
    (case a_needs => k_is)
    (case a_law_draws => k_is)
    (case a_law_draw => k_is)
    (case a_law_same => k_is)
    (case a_law_pick => k_is)
    (case a_law_snippet => k_is)
    (case a_law_goer => k_is)
    (case a_law_program => k_is)
    (case a_law_proc => k_is)
    (case a_law_takes => k_is)
    (case a_law_asked => k_is)
    (case a_HALF => k_is)
    (case a_WORKS => k_is)
    (case a_CONDITIONS => k_is)
    (case a_SMALL => k_is)
    (case a_MOST_CELLS => k_is)
    (case a_MOST_LOCKS => k_is)
    (case a_MOST_PROCS => k_is)
    (case a_MOST_PARAMS => k_is)
    (case a_MOST_LOCALS => k_is)
    (case a_MOST_CODE => k_is)
    (case a_ALONE => k_is)
    (case a_BackError => k_is)
    (case a_BadProgram => k_is)
    (case a_Program => k_is)
    (case mi_BadProgram => k_is)
    (case mi_Program_init => k_is)
    (case mi_Program_told => k_is)
    (case lk_BadProgram_init => k_is)
    (case cd_BadProgram_init_ => k_is)
    (case kp_BadProgram_init => k_is)
    (case lk_is_whole => k_is)
    (case cd_is_whole_ => k_is)
    (case kp_is_whole => k_is)
    (case lk_is_word => k_is)
    (case cd_is_word_ => k_is)
    (case kp_is_word => k_is)
    (case lk_Program_init => k_is)
    (case cd_Program_init_ => k_is)
    (case kp_Program_init => k_is)
    (case lk_Program_told => k_is)
    (case cd_Program_told_ => k_is)
    (case kp_Program_told => k_is)
    (case lk_is_name => k_is)
    (case cd_is_name_ => k_is)
    (case kp_is_name => k_is)
    (case lk_look_at_proc => k_is)
    (case cd_look_at_proc_ => k_is)
    (case kp_look_at_proc => k_is)
    (case lk_is_instruction => k_is)
    (case cd_is_instruction_ => k_is)
    (case kp_is_instruction => k_is)
    (case lk_is_place => k_is)
    (case cd_is_place_ => k_is)
    (case kp_is_place => k_is)
    (case lk_is_program => k_is)
    (case cd_is_program_ => k_is)
    (case kp_is_program => k_is)
    (case lk_needs => k_is)
    (case cd_needs_ => k_is)
    (case kp_needs => k_is)
    (case lk_law_draws => k_is)
    (case cd_law_draws_ => k_is)
    (case kp_law_draws => k_is)
    (case lk_law_draw => k_is)
    (case cd_law_draw_ => k_is)
    (case kp_law_draw => k_is)
    (case lk_law_same => k_is)
    (case cd_law_same_ => k_is)
    (case kp_law_same => k_is)
    (case lk_law_pick => k_is)
    (case cd_law_pick_ => k_is)
    (case kp_law_pick => k_is)
    (case lk_law_snippet => k_is)
    (case cd_law_snippet_ => k_is)
    (case kp_law_snippet => k_is)
    (case lk_law_goer => k_is)
    (case cd_law_goer_ => k_is)
    (case kp_law_goer => k_is)
    (case lk_law_program => k_is)
    (case cd_law_program_ => k_is)
    (case kp_law_program => k_is)
    (case lk_law_proc => k_is)
    (case cd_law_proc_ => k_is)
    (case kp_law_proc => k_is)
    (case lk_law_takes => k_is)
    (case cd_law_takes_ => k_is)
    (case kp_law_takes => k_is)
    (case lk_law_asked => k_is)
    (case cd_law_asked_ => k_is)
    (case kp_law_asked => k_is)
    (case lk_law => k_is)
    (case cd_law_ => k_is)
    (case kp_law => k_is)
    (case l_WORKS => k_is)
    (case v_WORKS => exact .cons ⟨_, rfl⟩ (.cons ⟨_, rfl⟩ (.cons ⟨_, rfl⟩ (.cons ⟨_, rfl⟩ (.cons ⟨_, rfl⟩ (.cons ⟨_, rfl⟩ (.cons ⟨_, rfl⟩ (.cons ⟨_, rfl⟩ (.nil)))))))))
    (case z_WORKS => decide +kernel)
    (case l_CONDITIONS => k_is)
    (case v_CONDITIONS => exact .cons ⟨_, rfl⟩ (.cons ⟨_, rfl⟩ (.cons ⟨_, rfl⟩ (.cons ⟨_, rfl⟩ (.cons ⟨_, rfl⟩ (.cons ⟨_, rfl⟩ (.nil)))))))
    (case z_CONDITIONS => decide +kernel)
    (case l_ALONE => k_is)
    (case v_ALONE => exact .cons ⟨_, rfl⟩ (.cons ⟨_, rfl⟩ (.cons ⟨_, rfl⟩ (.cons ⟨_, rfl⟩ (.cons ⟨_, rfl⟩ (.cons ⟨_, rfl⟩ (.cons ⟨_, rfl⟩ (.cons ⟨_, rfl⟩ (.cons ⟨_, rfl⟩ (.cons ⟨_, rfl⟩ (.cons ⟨_, rfl⟩ (.cons ⟨_, rfl⟩ (.cons ⟨_, rfl⟩ (.cons ⟨_, rfl⟩ (.cons ⟨_, rfl⟩ (.cons ⟨_, rfl⟩ (.cons ⟨_, rfl⟩ (.nil))))))))))))))))))
    (case z_ALONE => decide +kernel)
    (case b_all => k_is)
    (case b_bool => k_is)
    (case b_enumerate => k_is)
    (case b_int => k_is)
    (case b_isinstance => k_is)
    (case b_len => k_is)
    (case b_list => k_is)
    (case b_min => k_is)
    (case b_range => k_is)
    (case b_str => k_is)
    (case b_tuple => k_is)
    (case k_BackError_ => k_is)
    (case sb_BackError_ => k_is)
    (case ty_BackError_ => k_is)
    (case hd_BackError_ => k_is)
    (case ga_BackError_ => k_is)
    (case gg_BackError_ => k_is)
    (case gc_BackError_ => k_is)
    (case mo_BackError_ => k_is)
    (case x_BackError_ => k_exc)
    (case og_BackError => k_is)
    (case om_BackError => k_is)
    (case ord_BackError => k_is)
    (case of_BackError => k_is)
    (case k_BadProgram_ => k_is)
    (case sb_BadProgram_ => k_is)
    (case ty_BadProgram_ => k_is)
    (case hd_BadProgram_ => k_is)
    (case ga_BadProgram_ => k_is)
    (case gg_BadProgram_ => k_is)
    (case gc_BadProgram_ => k_is)
    (case mo_BadProgram_ => k_is)
    (case ox_BadProgram => k_is)
    (case or_BadProgram => decide +kernel)
    (case oe_BadProgram => k_is)
    (case no_BadProgram_place_ => k_is)
    (case no_BadProgram_word_ => k_is)
    (case mf_BadProgram => k_is)
    (case mt_BadProgram => k_is)
    (case cp_Program_ => k_is)
    (case ch_Program_ => k_is)
    (case co_Program_ => k_is)
    (case cs_Program_ => k_is)
    (case gc_Program_ => k_is)
    (case mo_Program_ => k_is)
    (case no_Program_by_ => k_is)
    (case no_Program_cells_ => k_is)
    (case no_Program_locks_ => k_is)
    (case no_Program_procs_ => k_is)
    (case no_Program_start_ => k_is)
    (case mf_Program_init => k_is)
    (case mm_Program => k_is)
    (case mq_Program => k_is)
    (case mf_Program_told => k_is)
    (case ki_BackError_BackError => kit_is)
    (case ss_BackError_BackError => first | k_is | rfl)
    (case ki_BackError_BadProgram => kit_is)
    (case ss_BackError_BadProgram => first | k_is | rfl)
    (case ki_BadProgram_BackError => kit_is)
    (case ss_BadProgram_BackError => first | k_is | rfl)
    (case ki_BadProgram_BadProgram => kit_is)
    (case ss_BadProgram_BadProgram => first | k_is | rfl)
    (case oc_get => k_is)
    (case oc_tak => k_is)
