import PyProof.Rows.All
import PySem.Challenge.RW_castbypowers_k49_trees_walked_by_own_han
import Wide.All
import OpenK.AllK
import Wide.FinOn
import HandS.ForMost
import HandS.ForExc
import HandS.Gcd
import HandS.Wide
import HandS.TupAny
import HandS.TupMul
import HandS.Style
import HandS.More
import KE.KDictPairs
import KE.KMathGC
import KE.DataMinMax
import KE.KEqSeq
import HandS.ExcField
import HandS.ExcIs
import HandS.ExcInit
import HandS.FStr
import HandS.Nested
import KE.KExcSuper
import HandS.NestedHot
import HandS.ExcInitHot
import HandS.RaiseFrom
import HandS.SuiteRaise
import KE.KExcIs
import KE.GoesEnum
import HandS.DictComp
import HandS.IsInst
import HandS.WordsExc
import HandS.HeadHook1
import HandS.HeadHook2
import HandS.HeadHook4
import HandS.HeadEnd
import HandS.Ends
import HandS.Codes
import HandS.Head0
import HandS.Head1
import HandS.Head2
import HandS.Head3
set_option Elab.async false
set_option linter.all false
set_option maxRecDepth 100000
namespace Mi
open PySem PySem.Spec PyProof.Rows L2
inductive D where
  | non | bl (b : Bool) | int (i : Int) | str (s : Str) | tup (l : List D) | ref (a : Addr) | rl (l : List D)
  deriving Inhabited
namespace D
mutual
def beq : D → D → Bool
  | .non, .non => true
  | .bl a, .bl b => a == b
  | .int a, .int b => decide (a = b)
  | .str a, .str b => decide (a = b)
  | .tup a, .tup b => beqs a b
  | .ref a, .ref b => decide (a = b)
  | .rl a, .rl b => beqs a b
  | .rl _, .non | .rl _, .bl _ | .rl _, .int _ | .rl _, .str _ | .rl _, .tup _ | .rl _, .ref _ => false
  | .non, .rl _ | .bl _, .rl _ | .int _, .rl _ | .str _, .rl _ | .tup _, .rl _ | .ref _, .rl _ => false
  | .non, .bl _ | .non, .int _ | .non, .str _ | .non, .tup _ | .non, .ref _ => false
  | .bl _, .non | .bl _, .int _ | .bl _, .str _ | .bl _, .tup _ | .bl _, .ref _ => false
  | .int _, .non | .int _, .bl _ | .int _, .str _ | .int _, .tup _ | .int _, .ref _ => false
  | .str _, .non | .str _, .bl _ | .str _, .int _ | .str _, .tup _ | .str _, .ref _ => false
  | .tup _, .non | .tup _, .bl _ | .tup _, .int _ | .tup _, .str _ | .tup _, .ref _ => false
  | .ref _, .non | .ref _, .bl _ | .ref _, .int _ | .ref _, .str _ | .ref _, .tup _ => false
def beqs : List D → List D → Bool
  | [], [] => true
  | a :: as, b :: bs => beq a b && beqs as bs
  | [], _ :: _ => false
  | _ :: _, [] => false
end
mutual
theorem beq_self : ∀ a : D, beq a a = true
  | .non => rfl
  | .bl a => by simp [beq]
  | .int a => by simp [beq]
  | .str a => by simp [beq]
  | .ref a => by simp [beq]
  | .tup a => by rw [beq]; exact beqs_self a
  | .rl a => by rw [beq]; exact beqs_self a
theorem beqs_self : ∀ a : List D, beqs a a = true
  | [] => rfl
  | a :: as => by rw [beqs, beq_self a, beqs_self as]; rfl
end
mutual
theorem eq_of_beq : ∀ a b : D, beq a b = true → a = b
  | .non, b, h => by cases b <;> simp [beq] at h ⊢
  | .bl a, b, h => by cases b <;> simp [beq] at h ⊢; exact h
  | .int a, b, h => by cases b <;> simp [beq] at h ⊢; exact h
  | .str a, b, h => by cases b <;> simp [beq] at h ⊢; exact h
  | .ref a, b, h => by cases b <;> simp [beq] at h ⊢; exact h
  | .tup a, b, h => by
    cases b with
    | tup b => rw [beq] at h; rw [eqs_of_beqs a b h]
    | _ => simp [beq] at h
  | .rl a, b, h => by
    cases b with
    | rl b => rw [beq] at h; rw [eqs_of_beqs a b h]
    | _ => simp [beq] at h
theorem eqs_of_beqs : ∀ a b : List D, beqs a b = true → a = b
  | [], b, h => by cases b <;> simp [beqs] at h ⊢
  | a :: as, b, h => by
    cases b with
    | nil => simp [beqs] at h
    | cons b bs =>
      rw [beqs, Bool.and_eq_true] at h
      rw [eq_of_beq a b h.1, eqs_of_beqs as bs h.2]
end
instance : DecidableEq D := fun a b => if h : beq a b = true then .isTrue (eq_of_beq a b h) else .isFalse fun e => h (e ▸ beq_self a)
mutual
def dep : D → Nat
  | .tup l => deps l + 1
  | .non => 0 | .bl _ => 0 | .int _ => 0 | .str _ => 0 | .ref _ => 0 | .rl _ => 0
def deps : List D → Nat
  | [] => 0
  | d :: l => max (dep d) (deps l)
end
mutual
def eqv : D → D → Bool
  | .non, .non => true
  | .bl a, .bl b => a == b
  | .bl a, .int j => (if a then 1 else 0) == j
  | .int i, .bl b => i == (if b then 1 else 0)
  | .int a, .int b => a == b
  | .str a, .str b => a == b
  | .tup a, .tup b => eqvs a b
  | .ref _, _ => false | _, .ref _ => false
  | .rl _, _ => false | _, .rl _ => false
  | .non, .bl _ | .non, .int _ | .non, .str _ | .non, .tup _ => false
  | .bl _, .non | .bl _, .str _ | .bl _, .tup _ => false
  | .int _, .non | .int _, .str _ | .int _, .tup _ => false
  | .str _, .non | .str _, .bl _ | .str _, .int _ | .str _, .tup _ => false
  | .tup _, .non | .tup _, .bl _ | .tup _, .int _ | .tup _, .str _ => false
def eqvs : List D → List D → Bool
  | [], [] => true
  | a :: as, b :: bs => eqv a b && eqvs as bs
  | [], _ :: _ => false
  | _ :: _, [] => false
end
mutual
def pure : D → Bool
  | .tup l => pures l
  | .ref _ => false
  | .rl _ => false
  | .non => true | .bl _ => true | .int _ => true | .str _ => true
def pures : List D → Bool
  | [] => true
  | d :: l => pure d && pures l
end
mutual
def py : D → PyData
  | .non => .none
  | .bl b => .bool b
  | .int i => .int i
  | .str s => .str s
  | .tup l => .tuple (pys l)
  | .ref _ => .none
  | .rl _ => .none
def pys : List D → List PyData
  | [] => []
  | d :: l => py d :: pys l
end
mutual
theorem eqv_py : ∀ a b : D, pure a = true → pure b = true → PyData.eqv (py a) (py b) = eqv a b
  | .non, b, _, hb => by cases b <;> simp [pure] at hb <;> simp [py, PyData.eqv, eqv]
  | .bl a, b, _, hb => by cases b <;> simp [pure] at hb <;> simp [py, PyData.eqv, eqv]
  | .int a, b, _, hb => by cases b <;> simp [pure] at hb <;> simp [py, PyData.eqv, eqv]
  | .str a, b, _, hb => by cases b <;> simp [pure] at hb <;> simp [py, PyData.eqv, eqv]
  | .ref a, _, h, _ => by simp [pure] at h
  | .tup a, b, ha, hb => by
    cases b with
    | tup b =>
      rw [pure] at ha hb
      rw [py, py, PyData.eqv, eqv]
      exact eqvs_py a b ha hb
    | ref b => simp [pure] at hb
    | rl b => simp [pure] at hb
    | _ => simp [py, PyData.eqv, eqv]
theorem eqvs_py : ∀ a b : List D, pures a = true → pures b = true → PyData.eqvAll (pys a) (pys b) = eqvs a b
  | [], b, _, _ => by cases b <;> simp [pys, PyData.eqvAll, eqvs]
  | a :: as, b, ha, hb => by
    cases b with
    | nil => simp [pys, PyData.eqvAll, eqvs]
    | cons b bs =>
      rw [pures, Bool.and_eq_true] at ha hb
      rw [pys, pys, PyData.eqvAll, eqvs, eqv_py a b ha.1 hb.1, eqvs_py as bs ha.2 hb.2]
end
mutual
theorem dep_py : ∀ a : D, (py a).depth = dep a
  | .non => by simp [py, PyData.depth, dep]
  | .bl a => by simp [py, PyData.depth, dep]
  | .int a => by simp [py, PyData.depth, dep]
  | .str a => by simp [py, PyData.depth, dep]
  | .ref a => by simp [py, PyData.depth, dep]
  | .rl a => by simp [py, PyData.depth, dep]
  | .tup a => by rw [py, PyData.depth, dep, deps_py a]
theorem deps_py : ∀ a : List D, PyData.depthAll (pys a) = deps a
  | [] => by simp [pys, PyData.depthAll, deps]
  | a :: as => by rw [pys, PyData.depthAll, deps, dep_py a, deps_py as]
end
mutual
def nb : D → Bool
  | .tup l => nbs l
  | .ref _ => false | .bl _ => false | .rl _ => false
  | .non => true | .int _ => true | .str _ => true
def nbs : List D → Bool
  | [] => true
  | d :: l => nb d && nbs l
end
mutual
theorem pure_nb : ∀ a : D, nb a = true → pure a = true
  | .non, _ => rfl
  | .bl _, h => by simp [nb] at h
  | .int _, _ => rfl
  | .str _, _ => rfl
  | .ref _, h => by simp [nb] at h
  | .rl _, h => by simp [nb] at h
  | .tup a, h => by rw [nb] at h; rw [pure]; exact pures_nbs a h
theorem pures_nbs : ∀ a : List D, nbs a = true → pures a = true
  | [], _ => rfl
  | a :: as, h => by
    rw [nbs, Bool.and_eq_true] at h
    rw [pures, pure_nb a h.1, pures_nbs as h.2]; rfl
end
mutual
theorem eqv_nb : ∀ a b : D, nb a = true → nb b = true → eqv a b = beq a b
  | .non, b, _, hb => by cases b <;> simp [nb] at hb <;> simp [beq, eqv]
  | .bl a, _, h, _ => by simp [nb] at h
  | .int a, b, _, hb => by cases b <;> simp [nb] at hb <;> simp [beq, eqv, Bool.beq_eq_decide_eq]
  | .str a, b, _, hb => by cases b <;> simp [nb] at hb <;> simp [beq, eqv, Bool.beq_eq_decide_eq]
  | .ref a, _, h, _ => by simp [nb] at h
  | .tup a, b, ha, hb => by
    cases b with
    | tup b =>
      rw [nb] at ha hb
      rw [beq, eqv]
      exact eqvs_nb a b ha hb
    | _ => simp [nb] at hb <;> simp [beq, eqv]
theorem eqvs_nb : ∀ a b : List D, nbs a = true → nbs b = true → eqvs a b = beqs a b
  | [], b, _, _ => by cases b <;> simp [beqs, eqvs]
  | a :: as, b, ha, hb => by
    cases b with
    | nil => simp [beqs, eqvs]
    | cons b bs =>
      rw [nbs, Bool.and_eq_true] at ha hb
      rw [beqs, eqvs, eqv_nb a b ha.1 hb.1, eqvs_nb as bs ha.2 hb.2]
end
theorem decide_beq (a b : D) : decide (a = b) = beq a b := by
  cases h : beq a b with
  | true => exact decide_eq_true (eq_of_beq a b h)
  | false => exact decide_eq_false fun e => by rw [e, beq_self] at h; cases h
theorem eqv_eq {a b : D} (ha : nb a = true) (hb : nb b = true) : eqv a b = decide (a = b) := by rw [eqv_nb a b ha hb, decide_beq]
end D
def TupK (K : PySem.W.Frag) (H : Hp) (a : Addr) (xs : List V) : Prop :=
  (∃ o : Obj, H a = some (.frz o (.tup xs)) ∧ o.dict = none) ∨
    ∃ (o : Obj) (its : Array Value) (n : Nat), K.lookup a = some o ∧ o.cls = .type "tuple" ∧ o.dict = none ∧ o.data = .seq its n ∧ its.size ≤ sizeLine ∧ Vals xs its.toList
theorem TupK.sq {K : PySem.W.Frag} {H : Hp} {a : Addr} {xs : List V} (h : TupK K H a xs) : SqT K H a xs := by
  rcases h with ⟨o, h, _⟩ | ⟨o, its, n, h1, h2, _, h3, h4, h5⟩
  · exact .inl (.inr ⟨o, h⟩)
  · exact .inr ⟨o, its, n, h1, h2, h3, h4, h5⟩
def FixL (K : PySem.W.Frag) (H : Hp) (a : Addr) (xs : List V) : Prop :=
  (∃ o : Obj, H a = some (.frz o (.lst xs))) ∨
    ∃ (o : Obj) (its : Array Value) (n : Nat), K.lookup a = some o ∧ o.cls = .type "list" ∧ o.dict = none ∧ o.data = .seq its n ∧ its.size ≤ sizeLine ∧ Vals xs its.toList
theorem FixL.sq {K : PySem.W.Frag} {H : Hp} {a : Addr} {xs : List V} (h : FixL K H a xs) : SqL K H a xs := by
  rcases h with h | h
  · exact .inl (.inr h)
  · exact .inr h
mutual
def RD (K : PySem.W.Frag) (H : Hp) : D → V → Prop
  | .non, v => v = .non
  | .bl b, v => v = .bl b
  | .int i, v => v = .int i
  | .str s, v => v = .str s ∧ PyData.strOk s = true
  | .tup l, v => ∃ a vs, v = .ref a ∧ TupK K H a vs ∧ RDs K H l vs
  | .ref a, v => v = .ref a
  | .rl l, v => ∃ a vs, v = .ref a ∧ FixL K H a vs ∧ RDs K H l vs
def RDs (K : PySem.W.Frag) (H : Hp) : List D → List V → Prop
  | [], vs => vs = []
  | d :: l, vs => ∃ v r, vs = v :: r ∧ RD K H d v ∧ RDs K H l r
end
structure Ext (H H' : Hp) : Prop where
  tup : ∀ b xs, H b = some (.tup xs) → H' b = some (.tup xs)
  frz : ∀ b o u, H b = some (.frz o u) → H' b = some (.frz o u)
theorem Ext.refl {H : Hp} : Ext H H := ⟨fun _ _ h => h, fun _ _ _ h => h⟩
theorem Ext.trans {H H1 H2 : Hp} (a : Ext H H1) (b : Ext H1 H2) : Ext H H2 := ⟨fun c xs h => b.tup c xs (a.tup c xs h), fun c o u h => b.frz c o u (a.frz c o u h)⟩
theorem Ext.sqT {K : PySem.W.Frag} {H H' : Hp} (e : Ext H H') {a : Addr} {vs : List V} (h : SqT K H a vs) : SqT K H' a vs := by
  rcases h with (h | ⟨o, h⟩) | h
  · exact .inl (.inl (e.tup _ _ h))
  · exact .inl (.inr ⟨o, e.frz _ _ _ h⟩)
  · exact .inr h
theorem Ext.tupK {K : PySem.W.Frag} {H H' : Hp} (e : Ext H H') {a : Addr} {vs : List V} (h : TupK K H a vs) : TupK K H' a vs := by
  rcases h with ⟨o, h, d⟩ | h
  · exact .inl ⟨o, e.frz _ _ _ h, d⟩
  · exact .inr h
theorem Ext.new {H : Hp} {p : Addr} {o : HO} (h : H p = none) : Ext H (L2.upd H p o) := by
  refine ⟨fun b xs e => ?_, fun b ob u e => ?_⟩ <;> (rw [upd_ne (ne_of_none e h)]; exact e)
theorem Ext.write {H : Hp} {p : Addr} {o u : HO} (h : H p = some o) (nt : ∀ xs, o ≠ .tup xs) (nf : ∀ ob x, o ≠ .frz ob x) : Ext H (L2.upd H p u) := by
  refine ⟨fun b xs e => ?_, fun b ob x e => ?_⟩
  · rw [upd_ne (fun z => by subst z; rw [h] at e; exact nt xs (Option.some.inj e))]; exact e
  · rw [upd_ne (fun z => by subst z; rw [h] at e; exact nf ob x (Option.some.inj e))]; exact e
theorem Ext.fixL {K : PySem.W.Frag} {H H' : Hp} (e : Ext H H') {a : Addr} {vs : List V} (h : FixL K H a vs) : FixL K H' a vs := by
  rcases h with ⟨o, h⟩ | h
  · exact .inl ⟨o, e.frz _ _ _ h⟩
  · exact .inr h
mutual
theorem RD.ext {K : PySem.W.Frag} {H H' : Hp} (e : Ext H H') : ∀ (d : D) (v : V), RD K H d v → RD K H' d v
  | .non, v, h => by rw [RD] at h ⊢; exact h
  | .bl b, v, h => by rw [RD] at h ⊢; exact h
  | .int i, v, h => by rw [RD] at h ⊢; exact h
  | .str s, v, h => by rw [RD] at h ⊢; exact h
  | .ref a, v, h => by rw [RD] at h ⊢; exact h
  | .tup l, v, h => by
    rw [RD] at h ⊢
    obtain ⟨a, vs, ev, hs, hl⟩ := h
    exact ⟨a, vs, ev, e.tupK hs, RDs.ext e l vs hl⟩
  | .rl l, v, h => by
    rw [RD] at h ⊢
    obtain ⟨a, vs, ev, hs, hl⟩ := h
    exact ⟨a, vs, ev, e.fixL hs, RDs.ext e l vs hl⟩
theorem RDs.ext {K : PySem.W.Frag} {H H' : Hp} (e : Ext H H') : ∀ (l : List D) (vs : List V), RDs K H l vs → RDs K H' l vs
  | [], vs, h => by rw [RDs] at h ⊢; exact h
  | d :: l, vs, h => by
    rw [RDs] at h ⊢
    obtain ⟨v, r, ev, h1, h2⟩ := h
    exact ⟨v, r, ev, RD.ext e d v h1, RDs.ext e l r h2⟩
end
theorem RDs.nil {K : PySem.W.Frag} {H : Hp} : RDs K H [] [] := by rw [RDs]
theorem RDs.cons {K : PySem.W.Frag} {H : Hp} {d : D} {v : V} {l : List D} {vs : List V} (h : RD K H d v) (hs : RDs K H l vs) : RDs K H (d :: l) (v :: vs) := by rw [RDs]; exact ⟨v, vs, rfl, h, hs⟩
theorem RDs.length {K : PySem.W.Frag} {H : Hp} : ∀ {l : List D} {vs : List V}, RDs K H l vs → vs.length = l.length
  | [], vs, h => by rw [RDs] at h; rw [h]; rfl
  | d :: l, vs, h => by
    rw [RDs] at h
    obtain ⟨v, r, e, _, h2⟩ := h
    rw [e, List.length_cons, List.length_cons, RDs.length h2]
theorem RDs.append {K : PySem.W.Frag} {H : Hp} : ∀ {l m : List D} {vs ws : List V}, RDs K H l vs → RDs K H m ws → RDs K H (l ++ m) (vs ++ ws)
  | [], m, vs, ws, h, g => by rw [RDs] at h; rw [h]; exact g
  | d :: l, m, vs, ws, h, g => by
    rw [RDs] at h
    obtain ⟨v, r, e, h1, h2⟩ := h
    rw [e]
    exact .cons h1 (RDs.append h2 g)
theorem RDs.get {K : PySem.W.Frag} {H : Hp} : ∀ {l : List D} {vs : List V} {i : Nat} {d : D}, RDs K H l vs → l[i]? = some d → ∃ v, vs[i]? = some v ∧ RD K H d v
  | [], _, _, _, _, e => by simp at e
  | d :: l, vs, 0, d', h, e => by
    rw [RDs] at h
    obtain ⟨v, r, ev, h1, h2⟩ := h
    have e' : d = d' := by simpa using e
    subst e' ev
    exact ⟨v, rfl, h1⟩
  | d :: l, vs, i + 1, d', h, e => by
    rw [RDs] at h
    obtain ⟨v, r, ev, h1, h2⟩ := h
    subst ev
    obtain ⟨v', e2, h3⟩ := RDs.get (i := i) h2 (by simpa using e)
    exact ⟨v', by simpa using e2, h3⟩
theorem RDs.take {K : PySem.W.Frag} {H : Hp} : ∀ {l : List D} {vs : List V} (n : Nat), RDs K H l vs → RDs K H (l.take n) (vs.take n)
  | [], vs, n, h => by rw [RDs] at h; subst h; simpa using RDs.nil
  | d :: l, vs, 0, h => by simpa using RDs.nil
  | d :: l, vs, n + 1, h => by
    rw [RDs] at h
    obtain ⟨v, r, ev, h1, h2⟩ := h
    subst ev
    exact .cons h1 (RDs.take n h2)
theorem RDs.drop {K : PySem.W.Frag} {H : Hp} : ∀ {l : List D} {vs : List V} (n : Nat), RDs K H l vs → RDs K H (l.drop n) (vs.drop n)
  | [], vs, n, h => by rw [RDs] at h; subst h; simpa using RDs.nil
  | d :: l, vs, 0, h => h
  | d :: l, vs, n + 1, h => by
    rw [RDs] at h
    obtain ⟨v, r, ev, h1, h2⟩ := h
    subst ev
    exact RDs.drop n h2
theorem RDs.set {K : PySem.W.Frag} {H : Hp} {d : D} {v : V} (hd : RD K H d v) : ∀ {l : List D} {vs : List V} (i : Nat), RDs K H l vs → RDs K H (l.set i d) (vs.set i v)
  | [], vs, i, h => by rw [RDs] at h; subst h; simpa using RDs.nil
  | d :: l, vs, 0, h => by
    rw [RDs] at h
    obtain ⟨w, r, ev, h1, h2⟩ := h
    subst ev
    exact .cons hd h2
  | d :: l, vs, i + 1, h => by
    rw [RDs] at h
    obtain ⟨w, r, ev, h1, h2⟩ := h
    subst ev
    exact .cons h1 (RDs.set hd i h2)
theorem RDs.reverse {K : PySem.W.Frag} {H : Hp} : ∀ {l : List D} {vs : List V}, RDs K H l vs → RDs K H l.reverse vs.reverse
  | [], vs, h => by rw [RDs] at h; subst h; exact RDs.nil
  | d :: l, vs, h => by
    rw [RDs] at h
    obtain ⟨w, r, ev, h1, h2⟩ := h
    subst ev
    rw [List.reverse_cons, List.reverse_cons]
    exact (RDs.reverse h2).append (.cons h1 .nil)
inductive Cell where
  | lst (l : List D) | rls (l : List D) | dct (kvs : List (D × D)) | ins (C : Str) (fs : List (Str × D)) | fdc (kvs : List (D × D))
abbrev Sto := Addr → Option Cell
def Sto.upd (S : Sto) (a : Addr) (c : Cell) : Sto := fun b => if b = a then some c else S b
theorem Sto.upd_same {S : Sto} {a : Addr} {c : Cell} : S.upd a c a = some c := by unfold Sto.upd; rw [if_pos rfl]
theorem Sto.upd_ne {S : Sto} {a b : Addr} {c : Cell} (h : b ≠ a) : S.upd a c b = S b := by unfold Sto.upd; rw [if_neg h]
theorem Sto.upd_upd {S : Sto} {a : Addr} {c c' : Cell} : (S.upd a c).upd a c' = S.upd a c' := by
  funext b; unfold Sto.upd; split <;> rfl
theorem Sto.upd_comm {S : Sto} {a b : Addr} {c c' : Cell} (h : a ≠ b) : (S.upd a c).upd b c' = (S.upd b c').upd a c := by
  funext x; unfold Sto.upd
  by_cases h1 : x = a
  · subst h1; simp [h]
  · simp [h1]
theorem Sto.ne_of {S : Sto} {a b : Addr} {c : Cell} (h : S a = some c) (h' : S b = none) : a ≠ b := by
  intro e; subst e; rw [h] at h'; cases h'
def Sto.le (S S' : Sto) : Prop := ∀ a c, S a = some c → S' a = some c
theorem Sto.le_refl {S : Sto} : S.le S := fun _ _ h => h
theorem Sto.le.trans {S S1 S2 : Sto} (a : S.le S1) (b : S1.le S2) : S.le S2 := fun c x h => b c x (a c x h)
theorem Sto.le_new {S : Sto} {p : Addr} {c : Cell} (h : S p = none) : S.le (S.upd p c) := fun a x e => by rw [Sto.upd_ne (Sto.ne_of e h)]; exact e
theorem Sto.le_upd {S S' : Sto} {p : Addr} {c : Cell} (h : S p = none) (e : S.le S') : S.le (S'.upd p c) := fun a x q => by rw [Sto.upd_ne (Sto.ne_of q h)]; exact e a x q
def keyD : D → Option Key
  | .int i => some (.inl i)
  | .str s => some (.inr s)
  | _ => none
def RK (K : PySem.W.Frag) (H : Hp) : List (D × D) → List (Key × V) → Prop
  | [], ws => ws = []
  | (k, d) :: l, ws => ∃ k' v r, ws = (k', v) :: r ∧ keyD k = some k' ∧ RD K H d v ∧ RK K H l r
theorem RK.ext {K : PySem.W.Frag} {H H' : Hp} (e : Ext H H') : ∀ {l : List (D × D)} {ws : List (Key × V)}, RK K H l ws → RK K H' l ws
  | [], ws, h => by rw [RK] at h ⊢; exact h
  | (k, d) :: l, ws, h => by
    rw [RK] at h ⊢
    obtain ⟨k', v, r, e1, e2, h1, h2⟩ := h
    exact ⟨k', v, r, e1, e2, RD.ext e d v h1, RK.ext e h2⟩
def RF (K : PySem.W.Frag) (H : Hp) : List (Str × D) → List (Str × V) → Prop
  | [], ws => ws = []
  | (k, d) :: l, ws => ∃ v r, ws = (k, v) :: r ∧ RD K H d v ∧ RF K H l r
theorem RF.ext {K : PySem.W.Frag} {H H' : Hp} (e : Ext H H') : ∀ {l : List (Str × D)} {ws : List (Str × V)}, RF K H l ws → RF K H' l ws
  | [], ws, h => by rw [RF] at h ⊢; exact h
  | (k, d) :: l, ws, h => by
    rw [RF] at h ⊢
    obtain ⟨v, r, e1, h1, h2⟩ := h
    exact ⟨v, r, e1, RD.ext e d v h1, RF.ext e h2⟩
def gAd (K : PySem.W.Frag) (x : Str) : Addr := match PySem.W.nsIn K mainGlobals x with
  | some (some (.ref a)) => a
  | _ => 0
def RC (K : PySem.W.Frag) (H : Hp) (a : Addr) : Cell → Prop
  | .lst l => ∃ vs, H a = some (.lst vs) ∧ RDs K H l vs
  | .rls l => ∃ o vs, H a = some (.frz o (.lst vs)) ∧ RDs K H l vs
  | .dct kvs => ∃ ws, H a = some (.dK ws) ∧ RK K H kvs ws
  | .ins C fs => ∃ dx ws, H a = some (.ins (gAd K C) dx ws) ∧ RF K H fs ws
  | .fdc kvs => ∃ o ws, H a = some (.frz o (.dK ws)) ∧ RK K H kvs ws
theorem RC.ext {K : PySem.W.Frag} {H H' : Hp} {a : Addr} {c : Cell} (e : Ext H H') (h : H' a = H a) (r : RC K H a c) : RC K H' a c := by
  cases c with
  | lst l =>
    obtain ⟨vs, h1, h2⟩ := r
    exact ⟨vs, by rw [h]; exact h1, h2.ext e⟩
  | rls l =>
    obtain ⟨o, vs, h1, h2⟩ := r
    exact ⟨o, vs, by rw [h]; exact h1, h2.ext e⟩
  | dct kvs =>
    obtain ⟨ws, h1, h2⟩ := r
    exact ⟨ws, by rw [h]; exact h1, h2.ext e⟩
  | ins C fs =>
    obtain ⟨dx, ws, h1, h2⟩ := r
    exact ⟨dx, ws, by rw [h]; exact h1, h2.ext e⟩
  | fdc kvs =>
    obtain ⟨o, ws, h1, h2⟩ := r
    exact ⟨o, ws, by rw [h]; exact h1, h2.ext e⟩
structure Rel (K : PySem.W.Frag) (S : Sto) (F H : Hp) : Prop where
  cell : ∀ a c, S a = some c → RC K H a c
  frm : ∀ a o, F a = some o → H a = some o
  sep : ∀ a o, F a = some o → S a = none
theorem Rel.there {K : PySem.W.Frag} {S : Sto} {F H : Hp} (r : Rel K S F H) {a : Addr} {c : Cell} (e : S a = some c) : ∃ o, H a = some o := by
  have q := r.cell a c e
  cases c with
  | lst l => obtain ⟨vs, h, _⟩ := q; exact ⟨_, h⟩
  | rls l => obtain ⟨o, vs, h, _⟩ := q; exact ⟨_, h⟩
  | dct kvs => obtain ⟨ws, h, _⟩ := q; exact ⟨_, h⟩
  | ins C fs => obtain ⟨dx, ws, h, _⟩ := q; exact ⟨_, h⟩
  | fdc kvs => obtain ⟨o, ws, h, _⟩ := q; exact ⟨_, h⟩
theorem Rel.free {K : PySem.W.Frag} {S : Sto} {F H : Hp} (r : Rel K S F H) {p : Addr} (e : H p = none) : S p = none := by
  cases q : S p with
  | none => rfl
  | some c =>
    obtain ⟨o, h⟩ := r.there q
    rw [e] at h; cases h
theorem Rel.freeF {K : PySem.W.Frag} {S : Sto} {F H : Hp} (r : Rel K S F H) {p : Addr} (e : H p = none) : F p = none := by
  cases q : F p with
  | none => rfl
  | some c => have h := r.frm _ _ q; rw [e] at h; cases h
theorem Rel.tup {K : PySem.W.Frag} {S : Sto} {F H : Hp} (r : Rel K S F H) {p : Addr} {o : HO} (e : H p = none) : Rel K S F (L2.upd H p o) where
  cell := fun a c q => (r.cell a c q).ext (.new e) (by
    obtain ⟨u, h⟩ := r.there q
    rw [upd_ne (ne_of_none h e)])
  frm := fun a u q => by rw [upd_ne (ne_of_none (r.frm a u q) e)]; exact r.frm a u q
  sep := r.sep
theorem Rel.new {K : PySem.W.Frag} {S : Sto} {F H : Hp} (r : Rel K S F H) {p : Addr} {o : HO} {c : Cell} (e : H p = none) (h : RC K (L2.upd H p o) p c) : Rel K (S.upd p c) F (L2.upd H p o) where
  cell := fun a c' q => by
    by_cases hp : a = p
    · subst hp; rw [Sto.upd_same] at q; cases q; exact h
    · rw [Sto.upd_ne hp] at q; exact (r.tup e).cell a c' q
  frm := (r.tup (o := o) e).frm
  sep := fun a u q => by
    have hp : a ≠ p := fun z => by subst z; rw [r.freeF e] at q; cases q
    rw [Sto.upd_ne hp]; exact r.sep a u q
theorem Rel.write {K : PySem.W.Frag} {S : Sto} {F H : Hp} (r : Rel K S F H) {p : Addr} {o : HO} {c c' : Cell} (e : S p = some c) (x : Ext H (L2.upd H p o)) (h : RC K (L2.upd H p o) p c') : Rel K (S.upd p c') F (L2.upd H p o) where
  cell := fun a d q => by
    by_cases hp : a = p
    · subst hp; rw [Sto.upd_same] at q; cases q; exact h
    · rw [Sto.upd_ne hp] at q; exact (r.cell a d q).ext x (upd_ne hp)
  frm := fun a u q => by
    have hp : a ≠ p := fun z => by subst z; rw [r.sep _ _ q] at e; cases e
    rw [upd_ne hp]; exact r.frm a u q
  sep := fun a u q => by
    have hp : a ≠ p := fun z => by subst z; rw [r.sep _ _ q] at e; cases e
    rw [Sto.upd_ne hp]; exact r.sep a u q
theorem Rel.less {K : PySem.W.Frag} {S S' : Sto} {F H : Hp} (r : Rel K S F H) (h : S'.le S) : Rel K S' F H where
  cell := fun a c q => r.cell a c (h a c q)
  frm := r.frm
  sep := fun a o q => by
    cases e : S' a with
    | none => rfl
    | some c => have := r.sep a o q; rw [h a c e] at this; cases this
structure RS (K : PySem.W.Frag) (H : Hp) (σ : List (Option D)) (τ : L2.St) : Prop where
  len : σ.length = τ.length
  get : ∀ (i : Nat) (d : D), σ[i]? = some (some d) → ∃ v, τ[i]? = some (some v) ∧ RD K H d v
theorem RS.ext {K : PySem.W.Frag} {H H' : Hp} {σ : List (Option D)} {τ : L2.St} (e : Ext H H') (r : RS K H σ τ) : RS K H' σ τ :=
  ⟨r.len, fun i d h => let ⟨v, h1, h2⟩ := r.get i d h; ⟨v, h1, h2.ext e⟩⟩
theorem RS.set {K : PySem.W.Frag} {H : Hp} {σ : List (Option D)} {τ : L2.St} (r : RS K H σ τ) (i : Nat) {d : D} {v : V} (h : RD K H d v) : RS K H (σ.set i (some d)) (τ.set i (some v)) := by
  refine ⟨by rw [List.length_set, List.length_set, r.len], fun j e q => ?_⟩
  by_cases hj : i = j
  · subst hj
    by_cases hi : i < σ.length
    · rw [List.getElem?_set_self hi] at q
      cases q
      exact ⟨v, by rw [List.getElem?_set_self (by rw [← r.len]; exact hi)], h⟩
    · rw [List.getElem?_eq_none (by simpa using hi)] at q; cases q
  · rw [List.getElem?_set_ne hj] at q
    obtain ⟨w, h1, h2⟩ := r.get j e q
    exact ⟨w, by rw [List.getElem?_set_ne hj]; exact h1, h2⟩
theorem RS.unset {K : PySem.W.Frag} {H : Hp} {σ : List (Option D)} {τ : L2.St} (r : RS K H σ τ) (i : Nat) {x : Option V} : RS K H (σ.set i none) (τ.set i x) := by
  refine ⟨by rw [List.length_set, List.length_set, r.len], fun j e q => ?_⟩
  by_cases hj : i = j
  · subst hj
    by_cases hi : i < σ.length
    · rw [List.getElem?_set_self hi] at q; cases q
    · rw [List.getElem?_eq_none (by simpa using hi)] at q; cases q
  · rw [List.getElem?_set_ne hj] at q
    obtain ⟨w, h1, h2⟩ := r.get j e q
    exact ⟨w, by rw [List.getElem?_set_ne hj]; exact h1, h2⟩
end Mi
namespace Mi
open PySem PySem.Spec PyProof.Rows L2
inductive Op where | add | sub | mul | fdiv | mod | pow
  deriving DecidableEq
inductive Cm where | eq | ne | lt | le | gt | ge | isin | notin | is | isnot
  deriving DecidableEq
inductive Bl where | len | abs | max | min | sum | all | any | int | str | tuple | list | dict | sorted | gcd | lcm
  deriving DecidableEq
inductive Mt where | append | extend | insert | pop | get | find | index | startswith | join | zfill
  deriving DecidableEq
inductive Ty where | int | bool | str | tuple | list
  deriving DecidableEq
mutual
inductive Tg where
  | nm (i : Nat) | tup (ts : Tgs)
inductive Tgs where
  | nil | cons (t : Tg) (ts : Tgs)
end
mutual
inductive E where
  | lit (d : D) | var (i : Nat) | glob (x : Str)
  | op (o : Op) (a b : E) | neg (a : E) | not (a : E) | and (a b : E) | or (a b : E)
  | cmp (o : Cm) (a b : E) | chain (o o' : Cm) (a b c : E) | ite (t a b : E)
  | tup (es : Es) | lst (es : Es) | dnew | disp (ks vs : Es)
  | ix (a i : E) | slc (a : E) (lo hi : Eo)
  | call (f : Str) (es : Es) | blt (b : Bl) (es : Es) | mth (m : Mt) (o : E) (es : Es) | isi (a : E) (ts : List Ty)
  | comp (b : Option Bl) (elt : E) (tg : Tg) (it : I) (c : Eo) (vs : List Nat)
  | dcomp (ke ve : E) (tg : Tg) (it : I) (c : Eo) (vs : List Nat)
  | fld (o : E) (f : Str) (cs : List Str) | omth (o : E) (m : Str) (es : Es) (cs : List (Str × Str)) | make (C key : Str) (es : Es)
inductive Es where
  | nil | cons (e : E) (es : Es)
inductive Eo where
  | none | some (e : E)
inductive I where
  | of (e : E) | rng1 (e : E) | rng2 (a b : E) | rng3 (a b c : E) | rev (e : E) | enum (e : E) | zip (a b : E) | items (e : E)
end
inductive HE where
  | isi (tb : List (Str × Bool)) | word (z : Str) | wd | wv (j : Nat) | and (a b : HE) | not (a : HE) | tag (z : Str) (a : HE)
mutual
inductive S where
  | raise (f : Str) (e : E) | tryx (b : Ss) (tb : List (Str × Bool)) (i : Nat) (h : HE) | tryr (t : Tg) (g : Str) (i : Nat) (tb : List (Str × Bool)) (f : Str) (z : Str)
  | set (i : Nat) (e : E) | asg (t : Tg) (e : E) | sub (o i e : E) | aug (i : Nat) (o : Op) (e : E) | exp (e : E) | ret (e : E) | retN | pass | brk | cont
  | fset (o : E) (f : Str) (e : E) (cs : List Str) | faug (o : E) (f : Str) (p : Op) (e : E) (cs : List Str) | par (i j : Nat) (a b : E) | saug (o i : E) (p : Op) (e : E)
  | ite (t : E) (a b : Ss) | whl (t : E) (b : Ss) | for (t : Tg) (it : I) (b : Ss)
inductive Ss where
  | nil | cons (s : S) (ss : Ss)
end
abbrev En := List (Option D)
abbrev KD := D → Sto → Prop
structure Exc where
  cls : Str
  fs : List (Str × D)
abbrev KX := Exc → Sto → Prop
def hE (σ : En) : HE → Exc → Option D
  | .isi tb, x => (tb.lookup x.cls).map D.bl
  | .word z, x => (match x.fs.lookup ("word" : Str) with | some (.str y) => some (.bl (decide (y = z))) | _ => none)
  | .wd, x => x.fs.lookup ("word" : Str)
  | .wv j, x => (match x.fs.lookup ("word" : Str) with | some (.str y) => (match σ[j]? with | some (some (.str z)) => some (.bl (decide (y = z))) | _ => none) | _ => none)
  | .and a b, x => (match hE σ a x with | some (.bl c) => if c = true then hE σ b x else some (.bl false) | _ => none)
  | .not a, x => (match hE σ a x with | some (.bl c) => some (.bl (!c)) | _ => none)
  | .tag z a, x => (match hE σ a x with | some d => some (.tup [.str z, d]) | none => none)
abbrev FS := List D → Sto → KD → KX → Prop
def mulOk (i j : Int) : Prop := CMulW i j
def divOk (j : Int) : Prop := 0 < j ∧ j.natAbs.log2 < 9000
def opR : Op → D → D → Sto → KD → Prop
  | .add, .int i, .int j, S, Q => Q (.int (i + j)) S
  | .add, .str x, .str y, S, Q => x.length + y.length ≤ sizeLine ∧ Q (.str (x ++ y)) S
  | .add, .tup x, .tup y, S, Q => x.length + y.length ≤ sizeLine ∧ Q (.tup (x ++ y)) S
  | .add, .ref a, .ref b, S, Q => (match S a, S b with
    | some (.lst x), some (.lst y) => x.length + y.length ≤ sizeLine ∧ ∀ p, S p = none → Q (.ref p) (S.upd p (.lst (x ++ y)))
    | _, _ => False)
  | .sub, .int i, .int j, S, Q => Q (.int (i - j)) S
  | .mul, .int i, .int j, S, Q => CMulW i j ∧ Q (.int (i * j)) S
  | .fdiv, .int i, .int j, S, Q => CDivW i j ∧ Q (.int (i / j)) S
  | .mod, .int i, .int j, S, Q => 0 < j ∧ Q (.int (i % j)) S
  | .pow, .int i, .int j, S, Q => CPow i j ∧ Q (.int (i ^ j.toNat)) S
  | _, _, _, _, _ => False
def augR : Op → D → D → Sto → KD → Prop
  | .add, .int i, .int j, S, Q => Q (.int (i + j)) S
  | .sub, .int i, .int j, S, Q => Q (.int (i - j)) S
  | _, _, _, _, _ => False
def inD (x : D) (l : List D) : Bool := l.any fun y => D.eqv y x
def flatD : D → Bool
  | .non => true | .bl _ => true | .int _ => true | .str _ => true
  | .tup _ => false | .ref _ => false | .rl _ => false
def dget (kvs : List (D × D)) (k : D) : Option D := (kvs.find? fun kv => decide (kv.1 = k)).map (·.2)
def dput (kvs : List (D × D)) (k v : D) : List (D × D) := if (kvs.any fun kv => decide (kv.1 = k)) then kvs.map fun kv => if kv.1 = k then (kv.1, v) else kv else kvs ++ [(k, v)]
def ddel (kvs : List (D × D)) (k : D) : List (D × D) := kvs.filter fun kv => decide (kv.1 ≠ k)
def keyOk (_ : List (D × D)) (k : D) : Bool := (keyD k).isSome
def plainR (S : Sto) : D → Option (Bool × D)
  | .ref a => (match S a with
    | some (.lst l) => if D.pures l then some (true, .tup l) else none
    | some (.rls l) => if D.pures l then some (true, .tup l) else none
    | _ => none)
  | d => if D.pure d then some (false, d) else none
def eqR (d e : D) (S : Sto) (Q : Bool → Prop) : Prop := match plainR S d, plainR S e with
  | some (b, x), some (c, y) => min x.dep y.dep ≤ 60 ∧ Q (b == c && D.eqv x y)
  | _, _ => False
def lexR : List D → List D → Option Bool
  | [], [] => some false
  | [], _ :: _ => some true
  | _ :: _, [] => some false
  | .int a :: l, .int b :: m => if a = b then lexR l m else some (decide (a < b))
  | _ :: _, _ :: _ => none
def inR (x y : D) (S : Sto) (Q : Bool → Prop) : Prop := match y with
  | .tup l => flatD x = true ∧ l.all flatD = true ∧ Q (inD x l)
  | .str t => (match x with | .str s => Q (!(Builtin.Str.occurrences t s 0 t.length 1).isEmpty) | _ => False)
  | .ref a => (match S a with
    | some (.lst l) => flatD x = true ∧ l.all flatD = true ∧ Q (inD x l)
    | some (.dct kvs) => keyOk kvs x = true ∧ Q (dget kvs x).isSome
    | some (.fdc kvs) => keyOk kvs x = true ∧ Q (dget kvs x).isSome
    | _ => False)
  | _ => False
def isR (x y : D) (Q : Bool → Prop) : Prop := match y with
  | .bl b => (match x with | .bl c => Q (c == b) | .non => Q false | .int _ => Q false | .str _ => Q false | .tup _ => Q false | .ref _ => Q false | .rl _ => Q false)
  | .non => (match x with | .non => Q true | .bl _ => Q false | .int _ => Q false | .str _ => Q false | .tup _ => Q false | .ref _ => Q false | .rl _ => Q false)
  | _ => False
def cmR : Cm → D → D → Sto → (Bool → Prop) → Prop
  | .eq, x, y, S, Q => eqR x y S Q
  | .ne, x, y, S, Q => eqR x y S fun b => Q (!b)
  | .lt, .int i, .int j, _, Q => Q (decide (i < j))
  | .le, .int i, .int j, _, Q => Q (decide (i ≤ j))
  | .gt, .int i, .int j, _, Q => Q (decide (j < i))
  | .ge, .int i, .int j, _, Q => Q (decide (j ≤ i))
  | .isin, x, y, S, Q => inR x y S Q
  | .notin, x, y, S, Q => inR x y S fun b => Q (!b)
  | .is, x, y, _, Q => isR x y Q
  | .isnot, x, y, _, Q => isR x y fun b => Q (!b)
  | _, _, _, _, _ => False
def truR (d : D) (S : Sto) (Q : Bool → Prop) : Prop := match d with
  | .non => Q false
  | .bl b => Q b
  | .int i => Q (i != 0)
  | .str s => s.length ≤ sizeLine ∧ Q ((s.length : Int) != 0)
  | .tup l => Q (!l.isEmpty)
  | .rl _ => False
  | .ref a => (match S a with
    | some (.lst l) => Q (!l.isEmpty)
    | some (.dct kvs) => Q (!kvs.isEmpty)
    | _ => False)
def ixR : D → D → Sto → KD → Prop
  | .tup l, .int i, S, Q => (match atI l i with | some d => Q d S | none => False)
  | .str s, .int i, S, Q => s.length ≤ sizeLine ∧ (match atI s.cps.toList i with | some c => Q (.str ⟨#[c]⟩) S | none => False)
  | .ref a, k, S, Q => (match S a with
    | some (.lst l) => (match k with | .int i => (match atI l i with | some d => Q d S | none => False) | _ => False)
    | some (.rls l) => (match k with | .int i => (match atI l i with | some d => Q d S | none => False) | _ => False)
    | some (.dct kvs) => keyOk kvs k = true ∧ (match dget kvs k with | some d => Q d S | none => False)
    | some (.fdc kvs) => keyOk kvs k = true ∧ (match dget kvs k with | some d => Q d S | none => False)
    | _ => False)
  | _, _, _, _ => False
def setR (o i v : D) (S : Sto) (Q : Sto → Prop) : Prop := match o with
  | .ref a => (match S a with
    | some (.lst l) => (match i with | .int k => (match ixN l.length k with | some j => Q (S.upd a (.lst (l.set j v))) | none => False) | _ => False)
    | some (.dct kvs) => keyOk kvs i = true ∧ kvs.length < sizeLine ∧ Q (S.upd a (.dct (dput kvs i v)))
    | _ => False)
  | _ => False
def cutD {α : Type} (xs : List α) (lo hi : Option Int) : List α := (xs.drop (HT.sIx xs.length 0 lo)).take (HT.sIx xs.length xs.length hi - HT.sIx xs.length 0 lo)
def slcR : D → Option Int → Option Int → Sto → KD → Prop
  | .tup l, lo, hi, S, Q => Q (.tup (cutD l lo hi)) S
  | .str s, lo, hi, S, Q => s.length ≤ sizeLine ∧ Q (.str ⟨(cutD s.cps.toList lo hi).toArray⟩) S
  | .ref a, lo, hi, S, Q => (match S a with
    | some (.lst l) => ∀ p, S p = none → Q (.ref p) (S.upd p (.lst (cutD l lo hi)))
    | _ => False)
  | _, _, _, _, _ => False
def asBls : List D → Option (List Bool)
  | [] => some []
  | .bl b :: l => (asBls l).map (b :: ·)
  | _ => none
def asInts : List D → Option (List Int)
  | [] => some []
  | .int b :: l => (asInts l).map (b :: ·)
  | _ => none
def ins (a : Int) : List Int → List Int
  | [] => [a]
  | b :: l => if a ≤ b then a :: b :: l else b :: ins a l
def srt : List Int → List Int
  | [] => []
  | a :: l => ins a (srt l)
def asPairs : List D → Option (List (D × D))
  | [] => some []
  | .tup [k, v] :: l => (asPairs l).map ((k, v) :: ·)
  | _ => none
def dmerge (kvs : List (D × D)) (ps : List (D × D)) : List (D × D) := ps.foldl (fun acc kv => dput acc kv.1 kv.2) kvs
def bllR : Bl → List D → Sto → KD → Prop
  | .tuple, l, S, Q => Q (.tup l) S
  | .all, l, S, Q => (match asBls l with | some bs => Q (.bl (bs.all id)) S | none => False)
  | .any, l, S, Q => (match asBls l with | some bs => Q (.bl (bs.any id)) S | none => False)
  | .sum, l, S, Q => (match asInts l with | some ns => Q (.int ns.sum) S | none => False)
  | .len, l, S, Q => Q (.int l.length) S
  | .sorted, l, S, Q => (match asInts l with | some ns => ns.length < 64 ∧ ∀ p, S p = none → Q (.ref p) (S.upd p (.lst ((srt ns).map D.int))) | none => False)
  | .max, l, S, Q => (match asInts l with | some ns => 0 < ns.length ∧ ∀ m, m ∈ ns → (∀ y, y ∈ ns → y ≤ m) → Q (.int m) S | none => False)
  | .min, l, S, Q => (match asInts l with | some ns => 0 < ns.length ∧ ∀ m, m ∈ ns → (∀ y, y ∈ ns → m ≤ y) → Q (.int m) S | none => False)
  | _, _, _, _ => False
def bltR : Bl → List D → Sto → KD → Prop
  | .len, [.tup l], S, Q => Q (.int l.length) S
  | .len, [.str s], S, Q => s.length ≤ sizeLine ∧ Q (.int s.length) S
  | .abs, [.int i], S, Q => Q (.int (if i < 0 then -i else i)) S
  | .max, [.int i, .int j], S, Q => Q (.int (if j > i then j else i)) S
  | .min, [.int i, .int j], S, Q => Q (.int (if j < i then j else i)) S
  | .gcd, [.int i, .int j], S, Q => Q (.int ((Nat.gcd i.natAbs j.natAbs : Nat) : Int)) S
  | .lcm, [.int i, .int j], S, Q => i.natAbs < 2 ^ 64 ∧ j.natAbs < 2 ^ 64 ∧ Q (.int ((Nat.lcm i.natAbs j.natAbs : Nat) : Int)) S
  | .max, [.tup l], S, Q => bllR .max l S Q
  | .int, [.int i], S, Q => Q (.int i) S
  | .int, [.bl b], S, Q => Q (.int (if b = true then 1 else 0)) S
  | .tuple, [.tup l], S, Q => Q (.tup l) S
  | .list, [.rl l], S, Q => ∀ p, S p = none → Q (.ref p) (S.upd p (.lst l))
  | .len, [.rl l], S, Q => Q (.int l.length) S
  | .list, [.tup l], S, Q => ∀ p, S p = none → Q (.ref p) (S.upd p (.lst l))
  | .list, [.ref a], S, Q => (match S a with
    | some (.lst l) => ∀ p, S p = none → Q (.ref p) (S.upd p (.lst l))
    | some (.rls l) => ∀ p, S p = none → Q (.ref p) (S.upd p (.lst l))
    | _ => False)
  | .dict, [.tup l], S, Q => (match asPairs l with | some kvs => kvs.all (fun kv => (keyD kv.1).isSome) = true ∧ ∀ p, S p = none → Q (.ref p) (S.upd p (.dct (dmerge [] kvs))) | none => False)
  | .dict, [.ref a], S, Q => (match S a with
    | some (.lst l) => (match asPairs l with | some kvs => kvs.all (fun kv => (keyD kv.1).isSome) = true ∧ ∀ p, S p = none → Q (.ref p) (S.upd p (.dct (dmerge [] kvs))) | none => False)
    | _ => False)
  | .sorted, [.ref a], S, Q => (match S a with
    | some (.lst l) => bllR .sorted l S Q
    | some (.dct kvs) => bllR .sorted (kvs.map (·.1)) S Q
    | _ => False)
  | b, [.ref a], S, Q => (match S a with
    | some (.lst l) => bllR b l S Q
    | some (.rls l) => b = .len ∧ Q (.int l.length) S
    | _ => False)
  | _, _, _, _ => False
def mthR : Mt → D → List D → Sto → KD → Prop
  | .append, .ref a, [d], S, Q => (match S a with | some (.lst l) => l.length < sizeLine ∧ Q .non (S.upd a (.lst (l ++ [d]))) | _ => False)
  | .extend, .ref a, [.ref b], S, Q => (match S a, S b with | some (.lst l), some (.lst m) => l.length + m.length ≤ sizeLine ∧ Q .non (S.upd a (.lst (l ++ m))) | _, _ => False)
  | .extend, .ref a, [.tup m], S, Q => (match S a with | some (.lst l) => l.length + m.length ≤ sizeLine ∧ Q .non (S.upd a (.lst (l ++ m))) | _ => False)
  | .insert, .ref a, [.int i, d], S, Q => (match S a with | some (.lst l) => l.length < sizeLine ∧ 0 ≤ i ∧ i < 2 ^ 63 ∧ Q .non (S.upd a (.lst (l.take i.toNat ++ [d] ++ l.drop i.toNat))) | _ => False)
  | .get, .ref a, [k, d], S, Q => (match S a with | some (.dct kvs) => keyOk kvs k = true ∧ Q ((dget kvs k).getD d) S | _ => False)
  | .index, .ref a, [.int x], S, Q => (match S a with | some (.lst l) => (match asInts l with | some ns => ∃ j : Nat, ns[j]? = some x ∧ (∀ m, m < j → ns[m]? ≠ some x) ∧ Q (.int j) S | none => False) | _ => False)
  | .pop, .ref a, [], S, Q => (match S a with | some (.lst l) => (match l[l.length - 1]? with | some d => Q d (S.upd a (.lst l.dropLast)) | none => False) | _ => False)
  | _, _, _, _, _ => False
def mtyR : Mt → D → Sto → Bool
  | .get, .ref a, S => (match S a with | some (.dct _) => true | _ => false)
  | .append, .ref a, S => (match S a with | some (.lst _) => true | _ => false)
  | .extend, .ref a, S => (match S a with | some (.lst _) => true | _ => false)
  | .pop, .ref a, S => (match S a with | some (.lst _) => true | _ => false)
  | .insert, .ref a, S => (match S a with | some (.lst _) => true | _ => false)
  | .index, .ref a, S => (match S a with | some (.lst _) => true | _ => false)
  | _, _, _ => false
def isT : Ty → D → Sto → Option Bool
  | _, .rl _, _ => none
  | t, .ref a, S => (match S a with | some (.lst _) => some (t == .list) | some (.dct _) => some false | _ => none)
  | .int, d, _ => (match d with | .int _ => some true | .bl _ => some true | _ => some false)
  | .bool, d, _ => (match d with | .bl _ => some true | _ => some false)
  | .str, d, _ => (match d with | .str _ => some true | _ => some false)
  | .tuple, d, _ => (match d with | .tup _ => some true | _ => some false)
  | .list, _, _ => some false
def fldR (cs : List Str) (f : Str) (x : D) (S : Sto) (Q : KD) : Prop := match x with
  | .ref a => (match S a with
    | some (.ins C fs) => cs.contains C = true ∧ (match fs.lookup f with | some d => Q d S | none => False)
    | _ => False)
  | _ => False
def fput (f : Str) (d : D) : List (Str × D) → List (Str × D)
  | [] => [(f, d)]
  | (g, x) :: r => if g = f then (g, d) :: r else (g, x) :: fput f d r
def fsetR (cs : List Str) (f : Str) (x d : D) (S : Sto) (Q : Sto → Prop) : Prop := match x with
  | .ref a => (match S a with
    | some (.ins C fs) => cs.contains C = true ∧ fs.length < 1000 ∧ Q (S.upd a (.ins C (fput f d fs)))
    | _ => False)
  | _ => False
def clsO (x : D) (S : Sto) : Option Str := match x with
  | .ref a => (match S a with | some (.ins C _) => some C | _ => none)
  | _ => none
def gixR (x k : D) (S : Sto) (Q : D → Prop) : Prop := match x with
  | .ref a => (match S a with
    | some (.lst l) => (match k with | .int i => 0 ≤ i ∧ (match l[i.toNat]? with | some d => Q d | none => False) | _ => False)
    | _ => False)
  | _ => False
def mthO (cs : List (Str × Str)) (m : Str) (x : D) (S : Sto) (Q : Str → Prop) : Prop := match x with
  | .ref a => (match S a with
    | some (.ins C fs) => fs.lookup m = none ∧ (match cs.lookup C with | some key => Q key | none => False)
    | _ => False)
  | _ => False
mutual
def wG : Tg → D → En → (En → Prop) → Prop
  | .nm i, d, σ, Q => Q (σ.set i (some d))
  | .tup ts, d, σ, Q => (match d with | .tup l => wGs ts l σ Q | _ => False)
def wGs : Tgs → List D → En → (En → Prop) → Prop
  | .nil, l, σ, Q => (match l with | [] => Q σ | _ :: _ => False)
  | .cons t ts, l, σ, Q => (match l with | d :: r => wG t d σ fun σ' => wGs ts r σ' Q | [] => False)
end
structure De where
  nx : En → Sto → Prop
  rt : KD
  bk : En → Sto → Prop
  ct : En → Sto → Prop
  xr : Exc → En → Sto → Prop
abbrev KI := List D → (Sto → Prop) → Sto → Prop
def forL (tg : Tg) (b : De → En → Sto → Prop) (chk : Sto → Prop) : List D → De → En → Sto → Prop
  | [], N, σ, S => chk S ∧ N.nx σ S
  | d :: ds, N, σ, S => chk S ∧ wG tg d σ fun σ' => b { N with nx := forL tg b chk ds N, ct := forL tg b chk ds N, bk := N.nx } σ' S
def whlL (t : En → Sto → (Bool → Sto → Prop) → Prop) (b : De → En → Sto → Prop) : Nat → De → En → Sto → Prop
  | 0, _, _, _ => False
  | n + 1, N, σ, S => t σ S fun c S' => if c = true then b { N with nx := whlL t b n N, ct := whlL t b n N, bk := N.nx } σ S' else N.nx σ S'
def cmpL (tg : Tg) (c : En → Sto → (Bool → Sto → Prop) → Prop) (e : En → Sto → KD → Prop) (chk : Sto → Prop) : List D → En → Sto → (List D → Sto → Prop) → Prop
  | [], _, S, Q => chk S ∧ Q [] S
  | d :: ds, σ, S, Q => chk S ∧ wG tg d σ fun σ' => c σ' S fun b S1 => if b = true then e σ' S1 fun v S2 => cmpL tg c e chk ds σ S2 fun vs S3 => Q (v :: vs) S3 else cmpL tg c e chk ds σ S1 Q
def dcL (tg : Tg) (c : En → Sto → (Bool → Sto → Prop) → Prop) (e1 e2 : En → Sto → KD → Prop) (chk : Sto → Prop) : List D → En → Sto → List (D × D) → (List (D × D) → Sto → Prop) → Prop
  | [], _, S, acc, Q => chk S ∧ Q acc S
  | d :: ds, σ, S, acc, Q => chk S ∧ wG tg d σ fun σ' => c σ' S fun b S1 => if b = true then e1 σ' S1 fun x S2 => e2 σ' S2 fun y S3 => (keyD x).isSome = true ∧ dcL tg c e1 e2 chk ds σ S3 (dput acc x y) Q else dcL tg c e1 e2 chk ds σ S1 acc Q
def wipeD (σ : En) : List Nat → En
  | [] => σ
  | v :: vs => (wipeD σ vs).set v none
def rngD (lo : Int) (n : Nat) : List D := (List.range n).map fun (i : Nat) => D.int (lo + i)
def rngDn (lo : Int) (n : Nat) : List D := (List.range n).map fun (i : Nat) => D.int (lo + (i : Int) * (-1))
def enumD (l : List D) : List D := (List.range l.length).zipWith (fun (i : Nat) d => D.tup [.int i, d]) l
def inB (j : Int) : Prop := -(2 ^ 62) ≤ j ∧ j < 2 ^ 62
def keyW : D → Bool
  | .int _ => true | .str s => PyData.strOk s
  | .non => false | .bl _ => false | .tup _ => false | .ref _ => false | .rl _ => false
def itR (d : D) (S : Sto) (Q : KI) : Prop := match d with
  | .tup l => Q l (fun _ => True) S
  | .str s => Q (s.cps.toList.map fun c => D.str ⟨#[c]⟩) (fun _ => True) S
  | .ref a => (match S a with
    | some (.lst l) => Q l (fun S' => S' a = some (.lst l)) S
    | some (.rls l) => Q l (fun S' => S' a = some (.rls l)) S
    | some (.dct kvs) => kvs.all (fun kv => keyW kv.1) = true ∧ Q (kvs.map (·.1)) (fun S' => S' a = some (.fdc kvs)) (S.upd a (.fdc kvs))
    | some (.fdc kvs) => kvs.all (fun kv => keyW kv.1) = true ∧ Q (kvs.map (·.1)) (fun S' => S' a = some (.fdc kvs)) S
    | _ => False)
  | _ => False
def itmR (d : D) (S : Sto) (Q : KI) : Prop := match d with
  | .ref a => (match S a with
    | some (.dct kvs) => kvs.all (fun kv => keyW kv.1) = true ∧ Q (kvs.map fun kv => .tup [kv.1, kv.2]) (fun S' => S' a = some (.fdc kvs)) (S.upd a (.fdc kvs))
    | some (.fdc kvs) => kvs.all (fun kv => keyW kv.1) = true ∧ Q (kvs.map fun kv => .tup [kv.1, kv.2]) (fun S' => S' a = some (.fdc kvs)) S
    | _ => False)
  | _ => False
mutual
def nrS : S → Bool
  | .tryr .. => false
  | .tryx b _ _ _ => nrSs b
  | .ite _ a b => nrSs a && nrSs b
  | .whl _ b => nrSs b
  | .for _ _ b => nrSs b
  | _ => true
def nrSs : Ss → Bool
  | .nil => true
  | .cons s ss => nrS s && nrSs ss
end
section
variable (Γ : Str → FS) (G : Str → Option D)
mutual
def wE : E → En → Sto → KD → KX → Prop
  | .lit d, _, S, Q, _ => Q d S
  | .var i, σ, S, Q, _ => (match σ[i]? with | some (some d) => Q d S | _ => False)
  | .glob x, _, S, Q, _ => (match G x with | some d => Q d S | none => False)
  | .op o a b, σ, S, Q, X => wE a σ S (fun x S1 => wE b σ S1 (fun y S2 => opR o x y S2 Q) X) X
  | .neg a, σ, S, Q, X => wE a σ S (fun x S1 => (match x with | .int i => Q (.int (-i)) S1 | _ => False)) X
  | .not a, σ, S, Q, X => wE a σ S (fun x S1 => truR x S1 fun b => Q (.bl (!b)) S1) X
  | .and a b, σ, S, Q, X => wE a σ S (fun x S1 => (match x with | .bl c => if c = true then wE b σ S1 Q X else Q (.bl false) S1 | _ => False)) X
  | .or a b, σ, S, Q, X => wE a σ S (fun x S1 => (match x with | .bl c => if c = true then Q (.bl true) S1 else wE b σ S1 Q X | _ => False)) X
  | .cmp o a b, σ, S, Q, X => wE a σ S (fun x S1 => wE b σ S1 (fun y S2 => cmR o x y S2 fun k => Q (.bl k) S2) X) X
  | .chain o o' a b c, σ, S, Q, X => wE a σ S (fun x S1 => wE b σ S1 (fun y S2 => cmR o x y S2 fun k => if k = true then wE c σ S2 (fun z S3 => cmR o' y z S3 fun k' => Q (.bl k') S3) X else Q (.bl false) S2) X) X
  | .ite t a b, σ, S, Q, X => wT t σ S (fun c S1 => if c = true then wE a σ S1 Q X else wE b σ S1 Q X) X
  | .tup es, σ, S, Q, X => wEs es σ S (fun ds S1 => ds.length ≤ sizeLine ∧ Q (.tup ds) S1) X
  | .lst es, σ, S, Q, X => wEs es σ S (fun ds S1 => ds.length ≤ sizeLine ∧ ∀ p, S1 p = none → Q (.ref p) (S1.upd p (.lst ds))) X
  | .dnew, _, S, Q, _ => ∀ p, S p = none → Q (.ref p) (S.upd p (.dct []))
  | .disp ks vs, σ, S, Q, X => wEs ks σ S (fun xs S1 => wEs vs σ S1 (fun ys S2 => xs.length = ys.length ∧ xs.length ≤ 15 ∧ xs.all (fun k => (keyD k).isSome) = true ∧ ∀ p, S2 p = none → Q (.ref p) (S2.upd p (.dct (dmerge [] (xs.zip ys))))) X) X
  | .ix a i, σ, S, Q, X => wE a σ S (fun x S1 => wE i σ S1 (fun y S2 => ixR x y S2 Q) X) X
  | .slc a lo hi, σ, S, Q, X => wE a σ S (fun x S1 => wO lo σ S1 (fun l S2 => wO hi σ S2 (fun h S3 => slcR x l h S3 Q) X) X) X
  | .call f es, σ, S, Q, X => wEs es σ S (fun ds S1 => Γ f ds S1 Q X) X
  | .blt b es, σ, S, Q, X => wEs es σ S (fun ds S1 => bltR b ds S1 Q) X
  | .mth m o es, σ, S, Q, X => wE o σ S (fun x S1 => mtyR m x S1 = true ∧ wEs es σ S1 (fun ds S2 => mthR m x ds S2 Q) X) X
  | .isi a ts, σ, S, Q, X => wE a σ S (fun x S1 => (match ts.mapM (fun t => isT t x S1) with | some bs => Q (.bl (bs.any id)) S1 | none => False)) X
  | .comp b e tg it c vs, σ, S, Q, X => wI it σ S (fun l chk S1 => l.length ≤ sizeLine ∧ cmpL tg (fun σ' S' Q' => wC c σ' S' Q' fun _ _ => False) (fun σ' S' Q' => wE e σ' S' Q' fun _ _ => False) chk l (wipeD σ vs) S1
      fun ds S2 => (match b with | some b => bllR b ds S2 Q | none => ∀ p, S2 p = none → Q (.ref p) (S2.upd p (.lst ds)))) X
  | .dcomp ke ve tg it c vs, σ, S, Q, X => wI it σ S (fun l chk S1 => l.length < sizeLine ∧ dcL tg (fun σ' S' Q' => wC c σ' S' Q' fun _ _ => False) (fun σ' S' Q' => wE ke σ' S' Q' fun _ _ => False) (fun σ' S' Q' => wE ve σ' S' Q' fun _ _ => False) chk l (wipeD σ vs) S1 []
      fun kvs S2 => ∀ p, S2 p = none → Q (.ref p) (S2.upd p (.dct kvs))) X
  | .fld o f cs, σ, S, Q, X => wE o σ S (fun x S1 => fldR cs f x S1 Q) X
  | .omth o m es cs, σ, S, Q, X => wE o σ S (fun x S1 => mthO cs m x S1 fun key => wEs es σ S1 (fun ds S2 => Γ key (x :: ds) S2 Q X) X) X
  | .make C key es, σ, S, Q, X => wEs es σ S (fun ds S1 => ∀ p, S1 p = none → Γ key (.ref p :: ds) (S1.upd p (.ins C [])) (fun d S2 => d = .non ∧ Q (.ref p) S2) (fun _ _ => False)) X
def wT : E → En → Sto → (Bool → Sto → Prop) → KX → Prop
  | .not a, σ, S, Q, X => wT a σ S (fun b S1 => Q (!b) S1) X
  | .and a b, σ, S, Q, X => wT a σ S (fun c S1 => if c = true then wT b σ S1 Q X else Q false S1) X
  | .or a b, σ, S, Q, X => wT a σ S (fun c S1 => if c = true then Q true S1 else wT b σ S1 Q X) X
  | .cmp o a b, σ, S, Q, X => wE a σ S (fun x S1 => wE b σ S1 (fun y S2 => cmR o x y S2 fun k => Q k S2) X) X
  | .chain o o' a b c, σ, S, Q, X => wE a σ S (fun x S1 => wE b σ S1 (fun y S2 => cmR o x y S2 fun k => if k = true then wE c σ S2 (fun z S3 => cmR o' y z S3 fun k' => Q k' S3) X else Q false S2) X) X
  | .lit d, _, S, Q, _ => truR d S fun b => Q b S
  | .var i, σ, S, Q, _ => (match σ[i]? with | some (some d) => truR d S fun b => Q b S | _ => False)
  | .glob x, _, S, Q, _ => (match G x with | some d => truR d S fun b => Q b S | none => False)
  | .ix a i, σ, S, Q, X => wE a σ S (fun x S1 => wE i σ S1 (fun y S2 => ixR x y S2 fun d S' => truR d S' fun b => Q b S') X) X
  | .call f es, σ, S, Q, X => wEs es σ S (fun ds S1 => Γ f ds S1 (fun d S' => truR d S' fun b => Q b S') X) X
  | .blt b es, σ, S, Q, X => wEs es σ S (fun ds S1 => bltR b ds S1 fun d S' => truR d S' fun b => Q b S') X
  | .mth m o es, σ, S, Q, X => wE o σ S (fun x S1 => mtyR m x S1 = true ∧ wEs es σ S1 (fun ds S2 => mthR m x ds S2 fun d S' => truR d S' fun b => Q b S') X) X
  | .isi a ts, σ, S, Q, X => wE a σ S (fun x S1 => (match ts.mapM (fun t => isT t x S1) with | some bs => Q (bs.any id) S1 | none => False)) X
  | .comp (some b) e tg it c vs, σ, S, Q, X => wI it σ S (fun l chk S1 => l.length ≤ sizeLine ∧ cmpL tg (fun σ' S' Q' => wC c σ' S' Q' fun _ _ => False) (fun σ' S' Q' => wE e σ' S' Q' fun _ _ => False) chk l (wipeD σ vs) S1 fun ds S2 => bllR b ds S2 fun d S' => truR d S' fun b => Q b S') X
  | .omth o m es cs, σ, S, Q, X => wE o σ S (fun x S1 => mthO cs m x S1 fun key => wEs es σ S1 (fun ds S2 => Γ key (x :: ds) S2 (fun d S' => truR d S' fun b => Q b S') X) X) X
  | _, _, _, _, _ => False
def wEs : Es → En → Sto → (List D → Sto → Prop) → KX → Prop
  | .nil, _, S, Q, _ => Q [] S
  | .cons e es, σ, S, Q, X => wE e σ S (fun d S1 => wEs es σ S1 (fun ds S2 => Q (d :: ds) S2) X) X
def wO : Eo → En → Sto → (Option Int → Sto → Prop) → KX → Prop
  | .none, _, S, Q, _ => Q none S
  | .some e, σ, S, Q, X => wE e σ S (fun d S1 => (match d with | .int i => Q (some i) S1 | _ => False)) X
def wC : Eo → En → Sto → (Bool → Sto → Prop) → KX → Prop
  | .none, _, S, Q, _ => Q true S
  | .some e, σ, S, Q, X => wT e σ S Q X
def wI : I → En → Sto → KI → KX → Prop
  | .of e, σ, S, Q, X => wE e σ S (fun d S1 => itR d S1 Q) X
  | .rng1 e, σ, S, Q, X => wE e σ S (fun d S1 => (match d with | .int j => inB j ∧ Q (rngD 0 j.toNat) (fun _ => True) S1 | _ => False)) X
  | .rng2 a b, σ, S, Q, X => wE a σ S (fun d S1 => wE b σ S1 (fun d' S2 => (match d, d' with | .int i, .int j => inB i ∧ inB j ∧ Q (rngD i (j - i).toNat) (fun _ => True) S2 | _, _ => False)) X) X
  | .rng3 a b c, σ, S, Q, X => wE a σ S (fun d S1 => wE b σ S1 (fun d' S2 => wE c σ S2 (fun d2 S3 => (match d, d', d2 with | .int i, .int j, .int m => inB i ∧ inB j ∧ m = -1 ∧ Q (rngDn i (i - j).toNat) (fun _ => True) S3 | _, _, _ => False)) X) X) X
  | .rev e, σ, S, Q, X => wE e σ S (fun d S1 => itR d S1 fun l => Q l.reverse) X
  | .enum e, σ, S, Q, X => wE e σ S (fun d S1 => (match d with | .ref a => (match S1 a with | some (.lst l) => Q (enumD l) (fun S' => S' a = some (.lst l)) S1 | some (.rls l) => Q (enumD l) (fun S' => S' a = some (.rls l)) S1 | _ => False) | .tup l => Q (enumD l) (fun _ => True) S1 | _ => False)) X
  | .zip a b, σ, S, Q, X => wE a σ S (fun d S1 => wE b σ S1 (fun d' S2 => itR d S2 fun l c S3 => itR d' S3 fun m c' S4 => Q (l.zipWith (fun x y => D.tup [x, y]) m) (fun S' => c S' ∧ c' S') S4) X) X
  | .items e, σ, S, Q, X => wE e σ S (fun d S1 => itmR d S1 Q) X
end
mutual
def wS : S → De → En → Sto → Prop
  | .raise f e, N, σ, S => wE Γ G e σ S (fun d S1 => (match d with | .str z => z.length ≤ 1000000 ∧ N.xr ⟨f, [("word", .str z)]⟩ σ S1 | _ => False)) fun x S1 => N.xr x σ S1
  | .tryx b tb i h, N, σ, S => wSs b { N with xr := fun x σ' S' => (match tb.lookup x.cls with
      | some c => if c = true then i < σ'.length ∧ (match hE σ' h x with | some d => N.rt d S' | none => False) else N.xr x σ' S'
      | none => False) } σ S
  | .tryr t g i tb f z, N, σ, S => z.length ≤ 1000000 ∧ (match σ[i]? with
      | some (some d) => Γ g [d] S (fun r S1 => wG t r σ fun σ' => N.nx σ' S1) fun x S1 => (match tb.lookup x.cls with
        | some c => c = true ∧ N.xr ⟨f, [("word", .str z)]⟩ σ S1
        | none => False)
      | _ => False)
  | .set i e, N, σ, S => wE Γ G e σ S (fun d S1 => N.nx (σ.set i (some d)) S1) fun x S1 => N.xr x σ S1
  | .asg t e, N, σ, S => wE Γ G e σ S (fun d S1 => wG t d σ fun σ' => N.nx σ' S1) fun x S1 => N.xr x σ S1
  | .sub o i e, N, σ, S => wE Γ G e σ S (fun d S1 => wE Γ G o σ S1 (fun x S2 => wE Γ G i σ S2 (fun y S3 => setR x y d S3 fun S4 => N.nx σ S4) fun x S1 => N.xr x σ S1) fun x S1 => N.xr x σ S1) fun x S1 => N.xr x σ S1
  | .aug i o e, N, σ, S => (match σ[i]? with | some (some x) => wE Γ G e σ S (fun y S1 => augR o x y S1 fun d S2 => N.nx (σ.set i (some d)) S2) fun x S1 => N.xr x σ S1 | _ => False)
  | .fset o f e cs, N, σ, S => wE Γ G e σ S (fun d S1 => wE Γ G o σ S1 (fun x S2 => fsetR cs f x d S2 fun S3 => N.nx σ S3) fun x S1 => N.xr x σ S1) fun x S1 => N.xr x σ S1
  | .faug o f p e cs, N, σ, S => wE Γ G o σ S (fun x S1 => fldR cs f x S1 fun y S2 => wE Γ G e σ S2 (fun z S3 => augR p y z S3 fun d S4 => clsO x S1 = clsO x S4 ∧ fsetR cs f x d S4 fun S5 => N.nx σ S5) fun x S1 => N.xr x σ S1) fun x S1 => N.xr x σ S1
  | .par i j a b, N, σ, S => wE Γ G a σ S (fun x S1 => wE Γ G b σ S1 (fun y S2 => N.nx ((σ.set i (some x)).set j (some y)) S2) fun x S1 => N.xr x σ S1) fun x S1 => N.xr x σ S1
  | .saug o i p e, N, σ, S => wE Γ G o σ S (fun x S1 => wE Γ G i σ S1 (fun k S2 => gixR x k S2 fun y => wE Γ G e σ S2 (fun z S4 => augR p y z S4 fun d S5 => setR x k d S5 fun S6 => N.nx σ S6) fun x S1 => N.xr x σ S1) fun x S1 => N.xr x σ S1) fun x S1 => N.xr x σ S1
  | .exp e, N, σ, S => wE Γ G e σ S (fun _ S1 => N.nx σ S1) fun x S1 => N.xr x σ S1
  | .ret e, N, σ, S => wE Γ G e σ S (fun d S1 => N.rt d S1) fun x S1 => N.xr x σ S1
  | .retN, N, _, S => N.rt .non S
  | .pass, N, σ, S => N.nx σ S
  | .brk, N, σ, S => N.bk σ S
  | .cont, N, σ, S => N.ct σ S
  | .ite t a b, N, σ, S => wT Γ G t σ S (fun c S1 => if c = true then wSs a N σ S1 else wSs b N σ S1) fun x S1 => N.xr x σ S1
  | .whl t b, N, σ, S => ∃ n, whlL (fun σ' S' Q => wT Γ G t σ' S' Q fun x S1 => N.xr x σ' S1) (wSs b) n N σ S
  | .for t it b, N, σ, S => wI Γ G it σ S (fun l chk S1 => forL t (wSs b) chk l N σ S1) fun x S1 => N.xr x σ S1
def wSs : Ss → De → En → Sto → Prop
  | .nil, N, σ, S => N.nx σ S
  | .cons s ss, N, σ, S => wS s { N with nx := wSs ss N } σ S
end
end
end Mi
namespace Mi
open PySem PySem.Spec PyProof.Rows L2
structure Tb where
  fns : List Str
  glob : List Str
  free : List Str
  mfn : List Str
  exc : List Str
  sub : List (Str × Str × Bool)
  md : Bool
  cln : List Str
  fld : List (Str × Str)
  mth : List (Str × Str × Str)
  mks : List (Str × Str)
def okN (x : Str) : Bool := !(x == ("__debug__" : Str)) && !(x == ("__classdict__" : Str)) && !(x == ("__name__" : Str))
def gd (b : Bool) : Option Unit := if b = true then some () else none
theorem gd_some {b : Bool} {u : Unit} : gd b = some u ↔ b = true := by unfold gd; cases b <;> simp
def ixOf (N : List Str) (x : Str) : Option Nat := N.findIdx? fun y => decide (y = x)
theorem ixOf_get {N : List Str} {x : Str} {i : Nat} (h : ixOf N x = some i) : N[i]? = some x := by
  unfold ixOf at h
  obtain ⟨hi, h1, _⟩ := List.findIdx?_eq_some_iff_getElem.mp h
  rw [List.getElem?_eq_getElem hi]
  exact congrArg some (of_decide_eq_true h1)
def visIx (N : List Str) (sc : Scope) (x : Str) : Option Nat := match sc.names.lookup x with
  | some .local => if okN x then ixOf N x else none
  | some .cell => if okN x then ixOf N x else none
  | some .free => if okN x then ixOf N x else none
  | _ => none
def locIx (N : List Str) (sc : Scope) (fnc : Str → Bool) (x : Str) : Option Nat := match sc.names.lookup x with
  | some .local => ixOf N x
  | some .cell => if fnc x then ixOf N x else none
  | _ => none
def glB (sc : Scope) (x : Str) : Bool := decide (sc.names.lookup x = some .globalImplicit) && okN x
def opOf : Operator → Option Op
  | .Add => some .add | .Sub => some .sub | .Mult => some .mul | .FloorDiv => some .fdiv | .Mod => some .mod | .Pow => some .pow
  | _ => none
def cmOf : CmpOp → Cm
  | .Eq => .eq | .NotEq => .ne | .Lt => .lt | .LtE => .le | .Gt => .gt | .GtE => .ge | .Is => .is | .IsNot => .isnot | .In => .isin | .NotIn => .notin
def bltOf (x : Str) : Option Bl :=
  if x = ("len" : Str) then some .len else if x = ("abs" : Str) then some .abs else if x = ("max" : Str) then some .max else if x = ("min" : Str) then some .min
  else if x = ("sum" : Str) then some .sum else if x = ("all" : Str) then some .all else if x = ("any" : Str) then some .any else if x = ("int" : Str) then some .int
  else if x = ("tuple" : Str) then some .tuple else if x = ("list" : Str) then some .list else if x = ("dict" : Str) then some .dict else if x = ("sorted" : Str) then some .sorted else none
def mfOf (x : Str) : Option Bl := if x = ("gcd" : Str) then some .gcd else if x = ("lcm" : Str) then some .lcm else none
def mthOf (x : Str) : Option Mt :=
  if x = ("append" : Str) then some .append else if x = ("extend" : Str) then some .extend else if x = ("get" : Str) then some .get else if x = ("pop" : Str) then some .pop else if x = ("insert" : Str) then some .insert else if x = ("index" : Str) then some .index else none
def tyOf (T : Tb) (sc : Scope) : PySem.Expr → Option Ty
  | .Name x _ => if glB sc x && T.free.contains x then
      (if x = ("int" : Str) then some .int else if x = ("bool" : Str) then some .bool else if x = ("str" : Str) then some .str else if x = ("tuple" : Str) then some .tuple else if x = ("list" : Str) then some .list else none) else none
  | _ => none
def litOf : Const → Option D
  | .int i => some (.int i)
  | .bool b => some (.bl b)
  | .none => some .non
  | .str s => if PyData.strOk s then some (.str s) else none
  | _ => none
mutual
def tgSlots : Tg → List Nat
  | .nm i => [i]
  | .tup ts => tgsSlots ts
def tgsSlots : Tgs → List Nat
  | .nil => []
  | .cons t ts => tgSlots t ++ tgsSlots ts
end
def isRng (T : Tb) (sc : Scope) : PySem.Expr → Option (List PySem.Expr)
  | .Call (.Name f _) es [] _ => if glB sc f && T.free.contains f && decide (f = ("range" : Str)) then some es else none
  | _ => none
def wkI : I → Bool
  | .of _ => false | .rng1 _ => false | .rng2 _ _ => false | .rng3 _ _ _ => false | .rev _ => false | .enum _ => true | .zip _ _ => true | .items _ => true
def tupX : PySem.Expr → Bool
  | .Tuple .. => true
  | _ => false
def isEn (T : Tb) (sc : Scope) : PySem.Expr → Option PySem.Expr
  | .Call (.Name f _) [e] [] _ => if glB sc f && T.free.contains f && decide (f = ("enumerate" : Str)) then some e else none
  | _ => none
def baseB : PySem.Expr → Bool
  | .Call _ [] _ _ => false | _ => true
def isItm : PySem.Expr → Option PySem.Expr
  | .Call (.Attribute o m apos) [] [] pos => if decide (m = ("items" : Str)) && (apos.endLine == pos.line) && baseB o then some o else none
  | _ => none
def fldC (T : Tb) (f : Str) : List Str := T.fld.filterMap fun y => if y.2 = f then some y.1 else none
def mthC (T : Tb) (m : Str) : List (Str × Str) := T.mth.filterMap fun y => if y.2.1 = m then some (y.1, y.2.2) else none
def notCall : PySem.Expr → Bool
  | .Call .. => false | _ => true
section
variable (T : Tb) (N : List Str)
mutual
def cG : Nat → Scope → (Str → Bool) → PySem.Expr → Option Tg
  | 0, _, _, _ => none
  | n + 1, sc, fnc, .Name x _ => (locIx N sc fnc x).map Tg.nm
  | n + 1, sc, fnc, .Tuple es _ _ => (cGs n sc fnc es).map Tg.tup
  | _ + 1, _, _, _ => none
def cGs : Nat → Scope → (Str → Bool) → List PySem.Expr → Option Tgs
  | 0, _, _, _ => none
  | _ + 1, _, _, [] => some .nil
  | n + 1, sc, fnc, e :: es => do
    let t ← cG n sc fnc e
    let ts ← cGs n sc fnc es
    return .cons t ts
end
def ownOf (scope : Scope) : List (Str × Nat) := scope.names.filterMap fun y => match y.2 with
  | .local => (ixOf N y.1).map fun i => (y.1, i)
  | .cell => (ixOf N y.1).map fun i => (y.1, i)
  | _ => none
mutual
def cE : Nat → Scope → PySem.Expr → Option E
  | 0, _, _ => none
  | n + 1, sc, .Constant c _ _ => (litOf c).map E.lit
  | n + 1, sc, .Name x _ => (match visIx N sc x with
    | some i => some (.var i)
    | none => if glB sc x && T.glob.contains x then some (.glob x) else none)
  | n + 1, sc, .BinOp a o b _ => do
    let o' ← opOf o
    let a' ← cE n sc a
    let b' ← cE n sc b
    return .op o' a' b'
  | n + 1, sc, .UnaryOp .USub a _ => (cE n sc a).map E.neg
  | n + 1, sc, .UnaryOp .Not a _ => (cE n sc a).map E.not
  | n + 1, sc, .BoolOp op es _ => cB n sc op es
  | n + 1, sc, .Compare a [o] [b] _ => do
    let _ ← gd (!behindInMarks o b)
    let a' ← cE n sc a
    let b' ← cE n sc b
    return .cmp (cmOf o) a' b'
  | n + 1, sc, .IfExp t a b _ => do
    let t' ← cE n sc t
    let a' ← cE n sc a
    let b' ← cE n sc b
    return .ite t' a' b'
  | n + 1, sc, .Tuple es _ _ => (cEs n sc es).map E.tup
  | n + 1, sc, .List es _ => (cEs n sc es).map E.lst
  | n + 1, sc, .Dict [] [] _ => some .dnew
  | n + 1, sc, .Dict ks vs _ => cD n sc ks vs
  | n + 1, sc, .Subscript a (.Slice lo hi none _) _ => do
    let a' ← cE n sc a
    let lo' ← cO n sc lo
    let hi' ← cO n sc hi
    return .slc a' lo' hi'
  | n + 1, sc, .Subscript a i _ => do
    let a' ← cE n sc a
    let i' ← cE n sc i
    return .ix a' i'
  | n + 1, sc, .Call (.Name f _) es [] pos => if glB sc f then
      (if T.fns.contains f then (cEs n sc es).map (E.call f)
      else if T.free.contains f then
        (if f = ("isinstance" : Str) then (match es with
          | [a, t] => do
            let a' ← cE n sc a
            let t' ← tyOf T sc t
            return .isi a' [t']
          | _ => none)
        else match bltOf f with
          | none => none
          | some b => (match es with
            | [.ListComp e [⟨tg, it, ifs, 0⟩] scope p] => cC n sc (some b) e tg it ifs scope
            | e :: es' => (cEs n sc (e :: es')).map (E.blt b)
            | [] => none))
      else if T.mfn.contains f then (match mfOf f, es with
        | some m, [a, b] => do
          let a' ← cE n sc a
          let b' ← cE n sc b
          return .blt m (.cons a' (.cons b' .nil))
        | _, _ => none)
      else match T.mks.lookup f with
        | some key => (cEs n sc es).map (E.make f key)
        | none => none) else none
  | n + 1, sc, .Call (.Attribute o m apos) es [] pos => do
    let _ ← gd (apos.endLine == pos.line)
    let _ ← gd (match o with | .Call .. => false | _ => true)
    let _ ← gd (decide (es.length < 20))
    let o' ← cE n sc o
    let es' ← cEs n sc es
    match mthC T m with
    | [] => (mthOf m).map fun m' => .mth m' o' es'
    | c :: cs => return .omth o' m es' (c :: cs)
  | n + 1, sc, .ListComp e [⟨tg, it, ifs, 0⟩] scope p => cC n sc none e tg it ifs scope
  | n + 1, sc, .Attribute o f _ => do
    let _ ← gd (match o with | .Call .. => false | _ => true)
    let o' ← cE n sc o
    return .fld o' f (fldC T f)
  | n + 1, sc, .DictComp ke ve [⟨tg, it, ifs, 0⟩] scope p => cDc n sc ke ve tg it ifs scope
  | _ + 1, _, _ => none
def cB : Nat → Scope → PySem.BoolOp → List PySem.Expr → Option E
  | 0, _, _, _ => none
  | n + 1, sc, op, [a] => cE n sc a
  | n + 1, sc, op, a :: b :: r => do
    let a' ← cE n sc a
    let b' ← cB n sc op (b :: r)
    return (match op with | .And => .and a' b' | .Or => .or a' b')
  | _ + 1, _, _, _ => none
def cEs : Nat → Scope → List PySem.Expr → Option Es
  | 0, _, _ => none
  | _ + 1, _, [] => some .nil
  | n + 1, sc, e :: es => do
    let e' ← cE n sc e
    let es' ← cEs n sc es
    return .cons e' es'
def cD : Nat → Scope → List (Option PySem.Expr) → List PySem.Expr → Option E
  | 0, _, _, _ => none
  | n + 1, sc, [some k], [v] => do
    let k' ← cE n sc k
    let v' ← cE n sc v
    return .disp (.cons k' .nil) (.cons v' .nil)
  | _ + 1, _, _, _ => none
def cO : Nat → Scope → Option PySem.Expr → Option Eo
  | 0, _, _ => none
  | _ + 1, _, none => some .none
  | n + 1, sc, some e => (cE n sc e).map Eo.some
def cI : Nat → Scope → PySem.Expr → Option I
  | 0, _, _ => none
  | n + 1, sc, e => (match isRng T sc e with
    | some [a] => (cE n sc a).map I.rng1
    | some [a, b] => do
      let a' ← cE n sc a
      let b' ← cE n sc b
      return .rng2 a' b'
    | some [a, b, c] => do
      let a' ← cE n sc a
      let b' ← cE n sc b
      let c' ← cE n sc c
      return .rng3 a' b' c'
    | some _ => none
    | none => (match isEn T sc e with
      | some a => (cE n sc a).map I.enum
      | none => (match isItm e with
        | some o => (cE n sc o).map I.items
        | none => (cE n sc e).map I.of)))
def cDc : Nat → Scope → PySem.Expr → PySem.Expr → PySem.Expr → PySem.Expr → List PySem.Expr → Scope → Option E
  | 0, _, _, _, _, _, _, _ => none
  | n + 1, sc, ke, ve, tg, it, ifs, scope => do
    let _ ← gd (blkC N sc scope (ownOf N scope))
    let it' ← cI n sc it
    let _ ← gd (!wkI it' || tupX tg)
    let tg' ← cG N n (relS scope sc) (fun x => scope.names.lookup x == some .cell) tg
    let _ ← gd ((tgSlots tg').all fun i => ((ownOf N scope).map (·.2)).contains i)
    let ke' ← cE n (relS scope sc) ke
    let ve' ← cE n (relS scope sc) ve
    let c' ← (match ifs with | [] => some .none | [c] => (cE n (relS scope sc) c).map Eo.some | _ => none)
    return .dcomp ke' ve' tg' it' c' ((ownOf N scope).map (·.2))
def cC : Nat → Scope → Option Bl → PySem.Expr → PySem.Expr → PySem.Expr → List PySem.Expr → Scope → Option E
  | 0, _, _, _, _, _, _, _ => none
  | n + 1, sc, b, e, tg, it, ifs, scope => do
    let _ ← gd (blkC N sc scope (ownOf N scope))
    let it' ← cI n sc it
    let _ ← gd (!wkI it' || tupX tg)
    let tg' ← cG N n (relS scope sc) (fun x => scope.names.lookup x == some .cell) tg
    let _ ← gd ((tgSlots tg').all fun i => ((ownOf N scope).map (·.2)).contains i)
    let e' ← cE n (relS scope sc) e
    let c' ← (match ifs with | [] => some .none | [c] => (cE n (relS scope sc) c).map Eo.some | _ => none)
    return .comp b e' tg' it' c' ((ownOf N scope).map (·.2))
end
def subOf (c : Str) : List (Str × Bool) := T.sub.filterMap fun y => if y.2.1 = c then some (y.1, y.2.2) else none
def cH (sc : Scope) (n : Str) (i0 : Nat) : Nat → PySem.Expr → Option HE
  | 0, _ => none
  | k + 1, .BoolOp .And [a, b] _ => do
    let a' ← cH sc n i0 k a
    let b' ← cH sc n i0 k b
    return .and a' b'
  | k + 1, .BoolOp .And [a, b, c] p => do
    let a' ← cH sc n i0 k a
    let b' ← cH sc n i0 k (.BoolOp .And [b, c] p)
    return .and a' b'
  | k + 1, .BoolOp .And [a, b, c, d] p => do
    let a' ← cH sc n i0 k a
    let b' ← cH sc n i0 k (.BoolOp .And [b, c, d] p)
    return .and a' b'
  | k + 1, .UnaryOp .Not a _ => (cH sc n i0 k a).map HE.not
  | _ + 1, .Attribute (.Name e _) w _ => if decide (e = n) && decide (w = ("word" : Str)) then some .wd else none
  | _ + 1, .Call (.Name f _) [.Name e _, .Name c _] [] _ => if glB sc f && T.free.contains f && decide (f = ("isinstance" : Str)) && decide (e = n) && glB sc c && (T.sub.any fun y => decide (y.2.1 = c)) then some (.isi (subOf T c)) else none
  | _ + 1, .Compare (.Attribute (.Name e _) w _) [.Eq] [.Constant (.str z) _ _] _ => if decide (e = n) && decide (w = ("word" : Str)) && PyData.strOk z then some (.word z) else none
  | _ + 1, .Compare (.Attribute (.Name e _) w _) [.Eq] [.Name y _] _ => (match visIx N sc y with
    | some j => if decide (e = n) && decide (w = ("word" : Str)) && decide (j ≠ i0) then some (.wv j) else none
    | none => none)
  | k + 1, .Tuple [.Constant (.str z) _ _, a] _ _ => if PyData.strOk z then (cH sc n i0 k a).map (HE.tag z) else none
  | _ + 1, _ => none
mutual
def cS : Nat → Scope → PySem.Stmt → Option S
  | 0, _, _ => none
  | n + 1, sc, .Assign [.Name x py] e pos => do
    let i ← locIx N sc (fun _ => true) x
    let e' ← cE T N n sc e
    let _ ← gd (match e with
      | .ListComp _ _ scope p => decide (sc.names.lookup x = some .cell) || ((py.line == p.line) && decide (sc.names.lookup x = some .local) && !(scope.names.any fun y => y.1 == x && (y.2 == .local || y.2 == .cell)))
      | .DictComp _ _ _ scope p => (py.line == p.line) && decide (sc.names.lookup x = some .local) && !(scope.names.any fun y => y.1 == x && (y.2 == .local || y.2 == .cell))
      | _ => true)
    return .set i e'
  | n + 1, sc, .Assign [.Tuple [.Name x px, .Name y py] k p] (.Tuple [a, b] k2 p2) pos => do
    let i ← locIx N sc (fun _ => true) x
    let j ← locIx N sc (fun _ => true) y
    let _ ← gd (decide (i ≠ j) && decide (sc.names.lookup x = some .local) && decide (sc.names.lookup y = some .local) && (px.line == py.line) && !foldedForSure 8 a && !constantsAlone 8 a && !(x == y))
    let a' ← cE T N n sc a
    let b' ← cE T N n sc b
    return .par i j a' b'
  | n + 1, sc, .Assign [.Attribute o f p] e pos => do
    let _ ← gd (match e with | .ListComp .. => false | .DictComp .. => false | _ => true)
    let o' ← cE T N n sc o
    let e' ← cE T N n sc e
    return .fset o' f e' (fldC T f)
  | n + 1, sc, .AugAssign (.Attribute o f p) op e pos => do
    let p' ← opOf op
    let o' ← cE T N n sc o
    let e' ← cE T N n sc e
    return .faug o' f p' e' (fldC T f)
  | n + 1, sc, .AugAssign (.Name x p) op e pos => do
    let i ← locIx N sc (fun _ => true) x
    let p' ← opOf op
    let e' ← cE T N n sc e
    return .aug i p' e'
  | n + 1, sc, .AugAssign (.Subscript o i p) op e pos => do
    let _ ← gd (match i with | .Slice .. => false | _ => true)
    let p' ← opOf op
    let o' ← cE T N n sc o
    let i' ← cE T N n sc i
    let e' ← cE T N n sc e
    return .saug o' i' p' e'
  | n + 1, sc, .Assign [.Tuple ts k p] e pos => do
    let ts' ← cG N n sc (fun _ => true) (.Tuple ts k p)
    let _ ← gd (match e with | .Tuple .. => false | .ListComp .. => false | .DictComp .. => false | _ => true)
    let e' ← cE T N n sc e
    return .asg ts' e'
  | n + 1, sc, .Assign [.Subscript o i p] e pos => do
    let _ ← gd (match i with | .Slice .. => false | _ => true)
    let _ ← gd (match e with | .ListComp .. => false | .DictComp .. => false | _ => true)
    let o' ← cE T N n sc o
    let i' ← cE T N n sc i
    let e' ← cE T N n sc e
    return .sub o' i' e'
  | n + 1, sc, .Raise (some (.Call (.Name f _) [e] [] pos)) none _ => do
    let _ ← gd (glB sc f && T.exc.contains f)
    let e' ← cE T N n sc e
    return .raise f e'
  | n + 1, sc, .Try b [.ExceptHandler (some (.Name x _)) (some nm) [.Return (some e) _] _] [] [] _ => do
    let i ← (match sc.names.lookup nm with | some .local => ixOf N nm | _ => none)
    let _ ← gd (glB sc x && okN nm && (T.sub.any fun y => decide (y.2.1 = x)))
    let h ← cH T N sc nm i n e
    let b' ← cSs n sc b
    let _ ← gd (!T.md && nrSs b')
    return .tryx b' (subOf T x) i h
  | n + 1, sc, .Try [.Assign [tg] (.Call (.Name g _) [.Name v _] [] _) _] [.ExceptHandler (some (.Name x _)) none [.Raise (some (.Call (.Name f _) [.Constant (.str z) _ _] [] _)) (some (.Constant .none _ _)) _] _] [] [] _ => do
    let _ ← gd (!T.md && (glB sc g && T.cln.contains g) && (glB sc x && (T.sub.any fun y => decide (y.2.1 = x))) && (glB sc f && T.exc.contains f) && PyData.strOk z)
    let t' ← cG N n sc (fun _ => true) tg
    let i ← visIx N sc v
    let _ ← gd (match tg with | .Tuple .. => true | _ => false)
    return .tryr t' g i (subOf T x) f z
  | n + 1, sc, .Expr (.Constant (.str _) _ _) _ => some .pass
  | n + 1, sc, .Expr e pos => do
    let _ ← gd (match e with | .Call .. => true | _ => false)
    let e' ← cE T N n sc e
    return .exp e'
  | n + 1, sc, .Return (some e) _ => (cE T N n sc e).map S.ret
  | n + 1, sc, .Return none _ => some .retN
  | n + 1, sc, .Pass _ => some .pass
  | n + 1, sc, .Break _ => some .brk
  | n + 1, sc, .Continue _ => some .cont
  | n + 1, sc, .If t a b _ => do
    let t' ← cE T N n sc t
    let a' ← cSs n sc a
    let b' ← cSs n sc b
    return .ite t' a' b'
  | n + 1, sc, .While t b [] _ => do
    let t' ← cE T N n sc t
    let b' ← cSs n sc b
    return .whl t' b'
  | n + 1, sc, .For tg it b [] _ => do
    let _ ← gd (match it with | .Set .. => false | _ => true)
    let tg' ← cG N n sc (fun _ => true) tg
    let it' ← cI T N n sc it
    let _ ← gd (!wkI it' || tupX tg)
    let b' ← cSs n sc b
    return .for tg' it' b'
  | _ + 1, _, _ => none
def cSs : Nat → Scope → List PySem.Stmt → Option Ss
  | 0, _, _ => none
  | _ + 1, _, [] => some .nil
  | n + 1, sc, s :: ss => do
    let s' ← cS n sc s
    let ss' ← cSs n sc ss
    return .cons s' ss'
end
end
end Mi
namespace Mi
open PySem PySem.Spec PyProof.Rows L2
theorem PE.imp {X : Cx} {e : PySem.Expr} {t t' : TE} (h : PE X e t) (i : ∀ σ H Q, t' σ H Q → t σ H Q) : PE X e t' := ⟨fun pins s σ H Q I q => h.run pins s σ H Q I (i σ H Q q)⟩
theorem PT.imp {X : Cx} {e : PySem.Expr} {t t' : TT} (h : PT X e t) (i : ∀ σ H Q, t' σ H Q → t σ H Q) : PT X e t' := ⟨fun pins s σ H Q I q => h.run pins s σ H Q I (i σ H Q q)⟩
theorem PA.imp {X : Cx} {e : List PySem.Expr} {t t' : TA} (h : PA X e t) (i : ∀ σ H Q, t' σ H Q → t σ H Q) : PA X e t' := ⟨fun pos pins s σ H Q I q => h.run pos pins s σ H Q I (i σ H Q q)⟩
theorem PS.imp {X : Cx} {e : PySem.Stmt} {t t' : TS} (h : PS X e t) (i : ∀ D σ H, t' D σ H → t D σ H) : PS X e t' := ⟨fun pins s σ H D I q => h.run pins s σ H D I (i D σ H q)⟩
theorem PSs.imp {X : Cx} {e : List PySem.Stmt} {t t' : TS} (h : PSs X e t) (i : ∀ D σ H, t' D σ H → t D σ H) : PSs X e t' := ⟨fun pins s σ H D I q => h.run pins s σ H D I (i D σ H q)⟩
theorem opR_imp {X : Cx} {f : Value → Value → Sem Value} {t t' : R2} (h : OpR X f t) (i : ∀ x y H Q, t' x y H Q → t x y H Q) : OpR X f t' := fun pins s σ H x y v u Q I rx ry q => h pins s σ H x y v u Q I rx ry (i x y H Q q)
def KV (K : PySem.W.Frag) (F H : Hp) (Qd : KD) (Q : VK) : Prop := ∀ d S' v H', Qd d S' → Ext H H' → Rel K S' F H' → RD K H' d v → Q v H'
theorem KV.ext {K : PySem.W.Frag} {F H H1 : Hp} {Qd : KD} {Q : VK} (h : KV K F H Qd Q) (e : Ext H H1) : KV K F H1 Qd Q := fun d S' v H' q e' r rd => h d S' v H' q (e.trans e') r rd
def LO (K : PySem.W.Frag) (w : D → D → Sto → KD → Prop) : R2 := fun x y H Q => ∃ d e S F Qd, Rel K S F H ∧ RD K H d x ∧ RD K H e y ∧ w d e S Qd ∧ KV K F H Qd Q
section
variable {K : PySem.W.Frag} {H : Hp} {v : V}
theorem RD.inti {i : Int} (h : RD K H (.int i) v) : v = .int i := by rw [RD] at h; exact h
theorem RD.bli {b : Bool} (h : RD K H (.bl b) v) : v = .bl b := by rw [RD] at h; exact h
theorem RD.noni (h : RD K H .non v) : v = .non := by rw [RD] at h; exact h
theorem RD.stri {s : Str} (h : RD K H (.str s) v) : v = .str s ∧ PyData.strOk s = true := by rw [RD] at h; exact h
theorem RD.refi {a : Addr} (h : RD K H (.ref a) v) : v = .ref a := by rw [RD] at h; exact h
theorem RD.tupk {l : List D} (h : RD K H (.tup l) v) : ∃ a vs, v = .ref a ∧ TupK K H a vs ∧ RDs K H l vs := by rw [RD] at h; exact h
theorem RD.tupi {l : List D} (h : RD K H (.tup l) v) : ∃ a vs, v = .ref a ∧ SqT K H a vs ∧ RDs K H l vs := let ⟨a, vs, e, h1, h2⟩ := h.tupk; ⟨a, vs, e, h1.sq, h2⟩
theorem RD.rli {l : List D} (h : RD K H (.rl l) v) : ∃ a vs, v = .ref a ∧ FixL K H a vs ∧ RDs K H l vs := by rw [RD] at h; exact h
theorem RD.int {i : Int} : RD K H (.int i) (.int i) := by rw [RD]
theorem RD.bl {b : Bool} : RD K H (.bl b) (.bl b) := by rw [RD]
theorem RD.non : RD K H .non .non := by rw [RD]
theorem RD.str {s : Str} (h : PyData.strOk s = true) : RD K H (.str s) (.str s) := by rw [RD]; exact ⟨rfl, h⟩
theorem RD.ref {a : Addr} : RD K H (.ref a) (.ref a) := by rw [RD]
theorem RD.tup {l : List D} {a : Addr} {vs : List V} (h : TupK K H a vs) (r : RDs K H l vs) : RD K H (.tup l) (.ref a) := by rw [RD]; exact ⟨a, vs, rfl, h, r⟩
theorem RD.tupNew {l : List D} {p : Addr} {o : Obj} {vs : List V} (e : H p = none) (ho : o.dict = none) (r : RDs K H l vs) : RD K (L2.upd H p (.frz o (.tup vs))) (.tup l) (.ref p) := .tup (.inl ⟨o, upd_same, ho⟩) (r.ext (.new e))
end
theorem strOk_append {a b : Str} (ha : PyData.strOk a = true) (hb : PyData.strOk b = true) : PyData.strOk (a ++ b) = true := by
  unfold PyData.strOk at ha hb ⊢
  show ((Str.append a b).cps.all fun x => decide (x < 0x110000)) = true
  unfold Str.append
  simp only [Array.all_append, ha, hb, Bool.and_self]
theorem Rel.lst {K : PySem.W.Frag} {S : Sto} {F H : Hp} {a : Addr} {l : List D} (r : Rel K S F H) (h : S a = some (.lst l)) : ∃ vs, H a = some (.lst vs) ∧ RDs K H l vs := r.cell a _ h
theorem Rel.rls {K : PySem.W.Frag} {S : Sto} {F H : Hp} {a : Addr} {l : List D} (r : Rel K S F H) (h : S a = some (.rls l)) : ∃ o vs, H a = some (.frz o (.lst vs)) ∧ RDs K H l vs := r.cell a _ h
theorem Rel.dct {K : PySem.W.Frag} {S : Sto} {F H : Hp} {a : Addr} {kvs : List (D × D)} (r : Rel K S F H) (h : S a = some (.dct kvs)) : ∃ ws, H a = some (.dK ws) ∧ RK K H kvs ws := r.cell a _ h
theorem Rel.fdc {K : PySem.W.Frag} {S : Sto} {F H : Hp} {a : Addr} {kvs : List (D × D)} (r : Rel K S F H) (h : S a = some (.fdc kvs)) : ∃ o ws, H a = some (.frz o (.dK ws)) ∧ RK K H kvs ws := r.cell a _ h
theorem Rel.newLst {K : PySem.W.Frag} {S : Sto} {F H : Hp} {l : List D} {vs : List V} {p : Addr} (r : Rel K S F H) (e : H p = none) (h : RDs K H l vs) : Rel K (S.upd p (.lst l)) F (L2.upd H p (.lst vs)) :=
  r.new e ⟨vs, upd_same, h.ext (.new e)⟩
theorem Rel.setLst {K : PySem.W.Frag} {S : Sto} {F H : Hp} {l m : List D} {vs ws : List V} {p : Addr} (r : Rel K S F H) (h : S p = some (.lst l)) (hH : H p = some (.lst vs)) (hm : RDs K H m ws) :
    Ext H (L2.upd H p (.lst ws)) ∧ Rel K (S.upd p (.lst m)) F (L2.upd H p (.lst ws)) := by
  have x : Ext H (L2.upd H p (.lst ws)) := .write hH (fun _ z => nomatch z) fun _ _ z => nomatch z
  exact ⟨x, r.write h x ⟨ws, upd_same, hm.ext x⟩⟩
theorem Inv.laidT {X : Cx} {pins : List (Addr × Obj)} {σ : L2.St} {H : Hp} {s : Shared} {xs : List V} {us : List Value} {h' : Heap} {t' : Nat} (I : L2.Inv X pins σ H s) (k : ∀ b u, s.heap.get? b = some u → h'.get? b = some u) {p : Addr} (hp : s.heap.objs.size ≤ p)
    (e : h'.get? p = some { cls := .type "tuple", data := .seq us.toArray }) (r : Vals xs us) (z : xs.length ≤ sizeLine) :
    L2.Inv X pins σ (L2.upd H p (.frz { cls := .type "tuple", data := .seq us.toArray } (.tup xs))) { s with heap := h', toks := t' } :=
  I.laid k hp (show ObjOk X.prog X.w _ _ _ (.frz _ (.tup xs)) from ⟨e, z, us, r, ⟨_, e, rfl, _, rfl⟩⟩)
section
variable {X : Cx} {es : List PySem.Expr} {t : TA} {pos : Pos}
def NewT (xs : List V) (H : Hp) (Q : VK) : Prop := ∀ p o, H p = none → Obj.dict o = none → Q (.ref p) (L2.upd H p (.frz o (.tup xs)))
def tTupF (t : TA) : TE := fun σ H Q => t σ H fun xs H1 => xs.length ≤ sizeLine ∧ NewT xs H1 Q
theorem pe_tupF {x1} (h : PA X es t) : PE X (.Tuple es x1 pos) (tTupF t) := by
  refine ⟨fun pins s σ H Q I hq => ?_⟩
  refine wpAny_Tuple_spliced (thn (h.run pos pins s σ H _ I hq) fun us s1 ⟨xs, H1, I1, r, z, q⟩ => ⟨by rw [← r.length]; exact z, ?_⟩)
  exact ⟨.ref s1.heap.objs.size, _, Inv.laidT (t' := s1.toks) I1 (fun b u e => Heap.get?_push_of_some _ e) (Nat.le_refl _) (Heap.get?_push_size _ rfl) r z, rfl, q _ _ (I1.hok.fresh (Nat.le_refl _)) rfl⟩
def rCatF (K : PySem.W.Frag) : R2 := fun x y H Q => ∃ a b xs ys, x = .ref a ∧ y = .ref b ∧ SqT K H a xs ∧ SqT K H b ys ∧ xs.length + ys.length ≤ sizeLine ∧
  (xs = [] → Q (.ref b) H) ∧ (xs ≠ [] → ys = [] → Q (.ref a) H) ∧ NewT (xs ++ ys) H Q
theorem op_catF : OpR X (binaryOp .Add) (rCatF X.K) := by
  intro pins s σ H x y v u Q I rx ry h
  obtain ⟨a, b, xs, ys, rfl, rfl, ha, hb, hz, q0, q1, q2⟩ := h
  cases rx
  cases ry
  obtain ⟨its, r1, p1, _⟩ := I.tuple ha
  obtain ⟨its2, r2, p2, _⟩ := I.tuple hb
  by_cases hx : xs = []
  · subst hx
    cases r1
    exact cat_tup0 p1 p2 ⟨.ref b, H, I, rfl, q0 rfl⟩
  · refine HT.cat_tup p1 p2 (fun z => hx (r1.nil_iff.mp z)) (fun z => ⟨.ref a, H, I, rfl, q1 hx (r2.nil_iff.mp z)⟩) (fun z => ?_) (by rw [← r1.length, ← r2.length]; exact hz)
    exact ⟨.ref s.heap.objs.size, _, Inv.laidT (t' := s.toks) I (fun b ob q => Heap.get?_push_of_some _ q) (Nat.le_refl _) (Heap.get?_push_size _ rfl) (r1.append r2) (by rw [List.length_append]; exact hz), rfl, q2 _ _ (I.hok.fresh (Nat.le_refl _)) rfl⟩
def rSlF (K : PySem.W.Frag) : V → Option Int → Option Int → Hp → VK → Prop := fun x lo hi H Q => ∃ a xs, x = .ref a ∧ SqT K H a xs ∧
  (HT.sIx xs.length 0 lo = 0 ∧ HT.sIx xs.length xs.length hi = xs.length → Q (.ref a) H) ∧ NewT (cutV xs lo hi) H Q
theorem sl_tupF : SlR X (rSlF X.K) := by
  intro pins s σ H x v vl vu lo hi sl Q I rx hs pl pu h
  obtain ⟨a, xs, rfl, hx, q1, q2⟩ := h
  by_cases hw : HT.sIx xs.length 0 lo = 0 ∧ HT.sIx xs.length xs.length hi = xs.length
  · exact sl_tupA pins s σ H _ v vl vu lo hi sl Q I rx hs pl pu ⟨a, xs, rfl, hx, q1, fun z => absurd hw z⟩
  · cases rx
    obtain ⟨its, r, ht, hz⟩ := I.tuple hx
    have hlen : its.toArray.size = xs.length := by rw [List.size_toArray]; exact r.length.symm
    refine ⟨"tuple", _, PyProof.Rows.slot_tuple_getitem.lookup, ht.typeIs, ?_⟩
    refine HT.getItem_tuple_cut ht hs pl pu (by rw [hlen]; exact hw) ?_ (by rw [hlen]; exact hz)
    rw [hlen]
    exact ⟨.ref s.heap.objs.size, _, Inv.laidT (t' := s.toks) I (fun b ob q => Heap.get?_push_of_some _ q) (Nat.le_refl _) (Heap.get?_push_size _ rfl) ((r.drop (HT.sIx xs.length 0 lo)).take (HT.sIx xs.length xs.length hi - HT.sIx xs.length 0 lo)) (Nat.le_trans (cutV_length xs lo hi) hz), rfl, q2 _ _ (I.hok.fresh (Nat.le_refl _)) rfl⟩
theorem call_tupleF : CallR X (.type "tuple") (fun xs H Q => ∃ p ys, xs = [.ref p] ∧ SqL X.K H p ys ∧ NewT ys H Q) := by
  intro pins s σ H xs us Q I r h
  obtain ⟨p, ys, rfl, hq, q⟩ := h
  obtain ⟨u, rfl, rx⟩ := vals1 r
  cases rx
  obtain ⟨its, r', pl, hz⟩ := I.list hq
  have hlen := r'.length
  refine call_tuple_list pl.isList (fun h' kp => ?_) (by simp only [List.size_toArray] <;> omega)
  have I1 : L2.Inv X pins σ H { s with heap := h' } := I.kept (t' := s.toks) kp
  exact ⟨.ref h'.objs.size, _, Inv.laidT (t' := s.toks) I1 (fun b o e => Heap.get?_push_of_some _ e) (Nat.le_refl _) (Heap.get?_push_size _ rfl) r' hz, rfl, q _ _ (I1.hok.fresh (Nat.le_refl _)) rfl⟩
end
variable {X : Cx}
def opO : Op → Operator
  | .add => .Add | .sub => .Sub | .mul => .Mult | .fdiv => .FloorDiv | .mod => .Mod | .pow => .Pow
theorem opOf_opO {o : Operator} {p : Op} (h : opOf o = some p) : o = opO p := by
  cases o <;> simp only [opOf, Option.some.injEq, reduceCtorEq] at h <;> subst h <;> rfl
theorem intint {C : Int → Int → Prop} {f : Value → Value → Sem Value} {g : Int → Int → V} {w : D → D → Sto → KD → Prop} (h : OpR X f (rI C g))
    (hw : ∀ d e S Q, w d e S Q → ∃ i j r, d = .int i ∧ e = .int j ∧ C i j ∧ Q r S ∧ ∀ H, RD X.K H r (g i j)) : OpR X f (LO X.K w) := by
  refine opR_imp h fun x y H Q ⟨d, e, S, F, Qd, rel, rd, re, hq, kv⟩ => ?_
  obtain ⟨i, j, r, rfl, rfl, hc, q, hr⟩ := hw d e S Qd hq
  exact ⟨i, j, rd.inti, re.inti, hc, kv _ _ _ _ q .refl rel (hr H)⟩
theorem intint0 {f : Value → Value → Sem Value} {g : Int → Int → V} {w : D → D → Sto → KD → Prop} (h : OpR X f (rI0 g))
    (hw : ∀ d e S Q, w d e S Q → ∃ i j r, d = .int i ∧ e = .int j ∧ Q r S ∧ ∀ H, RD X.K H r (g i j)) : OpR X f (LO X.K w) := by
  refine opR_imp h fun x y H Q ⟨d, e, S, F, Qd, rel, rd, re, hq, kv⟩ => ?_
  obtain ⟨i, j, r, rfl, rfl, q, hr⟩ := hw d e S Qd hq
  exact ⟨i, j, rd.inti, re.inti, kv _ _ _ _ q .refl rel (hr H)⟩
theorem rdInt {K : PySem.W.Frag} {i : Int} : ∀ H, RD K H (.int i) (.int i) := fun _ => .int
theorem RDs.nil_of {K : PySem.W.Frag} {H : Hp} {l : List D} (h : RDs K H l []) : l = [] := List.eq_nil_of_length_eq_zero h.length.symm
theorem add_sound : OpR X (binaryOp .Add) (LO X.K (opR .add)) := by
  intro pins s σ H x y v u Q I rx ry ⟨d, e, S, F, Qd, rel, rd, re, hq, kv⟩
  cases d <;> cases e <;> simp only [opR] at hq
  case int.int i j => exact op_add pins s σ H x y v u Q I rx ry ⟨i, j, rd.inti, re.inti, kv _ _ _ _ hq .refl rel .int⟩
  case str.str a b => exact op_add_str pins s σ H x y v u Q I rx ry ⟨a, b, rd.stri.1, re.stri.1, hq.1, kv _ _ _ _ hq.2 .refl rel (.str (strOk_append rd.stri.2 re.stri.2))⟩
  case tup.tup l m =>
    obtain ⟨a, vs, ea, ha, hl⟩ := rd.tupk
    obtain ⟨b, ws, eb, hb, hm⟩ := re.tupk
    refine op_catF pins s σ H x y v u Q I rx ry ⟨a, b, vs, ws, ea, eb, ha.sq, hb.sq, by rw [hl.length, hm.length]; exact hq.1, fun h0 => ?_, fun h0 h1 => ?_, fun p o hp ho => ?_⟩
    · subst h0
      obtain rfl := hl.nil_of
      exact kv _ _ _ _ hq.2 .refl rel (.tup hb hm)
    · subst h1
      obtain rfl := hm.nil_of
      rw [List.append_nil] at hq
      exact kv _ _ _ _ hq.2 .refl rel (.tup ha hl)
    · exact kv _ _ _ _ hq.2 (.new hp) (rel.tup hp) (.tupNew hp ho (hl.append hm))
  case ref.ref a b =>
    split at hq
    case h_1 l m h1 h2 =>
      obtain ⟨vs, e1, r1⟩ := rel.lst h1
      obtain ⟨ws, e2, r2⟩ := rel.lst h2
      refine op_cat pins s σ H x y v u Q I rx ry ⟨a, b, vs, ws, rd.refi, re.refi, e1, e2, by rw [r1.length, r2.length]; exact hq.1, fun p hp => ?_⟩
      exact kv _ _ _ _ (hq.2 p (rel.free hp)) (.new hp) (rel.newLst hp (r1.append r2)) .ref
    case h_2 => exact hq.elim
theorem sub_sound : OpR X (binaryOp .Sub) (LO X.K (opR .sub)) := intint0 op_sub fun d e S Q h => by
  cases d <;> cases e <;> simp only [opR] at h
  exact ⟨_, _, _, rfl, rfl, h, rdInt⟩
theorem fdiv_sound : OpR X (binaryOp .FloorDiv) (LO X.K (opR .fdiv)) := intint op_fdivW fun d e S Q h => by
  cases d <;> cases e <;> simp only [opR] at h
  exact ⟨_, _, _, rfl, rfl, h.1, h.2, rdInt⟩
theorem mod_sound : OpR X (binaryOp .Mod) (LO X.K (opR .mod)) := intint op_mod fun d e S Q h => by
  cases d <;> cases e <;> simp only [opR] at h
  exact ⟨_, _, _, rfl, rfl, h.1, h.2, rdInt⟩
theorem pow_sound : OpR X (binaryOp .Pow) (LO X.K (opR .pow)) := intint op_pow fun d e S Q h => by
  cases d <;> cases e <;> simp only [opR] at h
  exact ⟨_, _, _, rfl, rfl, h.1, h.2, rdInt⟩
theorem mul_sound : OpR X (binaryOp .Mult) (LO X.K (opR .mul)) := intint op_mulW fun d e S Q h => by
  cases d <;> cases e <;> simp only [opR] at h
  exact ⟨_, _, _, rfl, rfl, h.1, h.2, rdInt⟩
theorem op_sound : ∀ o : Op, OpR X (binaryOp (opO o)) (LO X.K (opR o))
  | .add => add_sound | .sub => sub_sound | .mul => mul_sound | .fdiv => fdiv_sound | .mod => mod_sound | .pow => pow_sound
theorem inplace_eq {o : Op} : True := trivial
end Mi
namespace Mi
open PySem PySem.Spec PyProof.Rows L2
variable {X : Cx}
mutual
theorem RD.dp {K : PySem.W.Frag} {H : Hp} : ∀ (d : D) (v : V), D.pure d = true → RD K H d v → Dp K H v (D.py d) ∧ (D.py d).canLay0 = true
  | .non, v, _, h => by rw [h.noni]; exact ⟨.non, rfl⟩
  | .bl b, v, _, h => by rw [h.bli]; exact ⟨.bl b, rfl⟩
  | .int i, v, _, h => by rw [h.inti]; exact ⟨.int i, rfl⟩
  | .str s, v, _, h => by
    obtain ⟨e, ok⟩ := h.stri
    rw [e]; exact ⟨.str s, ok⟩
  | .ref a, v, p, _ => by simp [D.pure] at p
  | .tup l, v, p, h => by
    obtain ⟨a, vs, e, hs, hl⟩ := h.tupi
    rw [D.pure] at p
    have q := RDs.dp l vs p hl
    rw [e]
    exact ⟨.tup hs q.1, q.2⟩
theorem RDs.dp {K : PySem.W.Frag} {H : Hp} : ∀ (l : List D) (vs : List V), D.pures l = true → RDs K H l vs → DpAll K H vs (D.pys l) ∧ PyData.canLayAll0 (D.pys l) = true
  | [], vs, _, h => by rw [RDs] at h; rw [h]; exact ⟨.nil, rfl⟩
  | d :: l, vs, p, h => by
    rw [RDs] at h
    obtain ⟨v, r, e, h1, h2⟩ := h
    rw [D.pures, Bool.and_eq_true] at p
    have q1 := RD.dp d v p.1 h1
    have q2 := RDs.dp l r p.2 h2
    rw [e]
    refine ⟨.cons q1.1 q2.1, ?_⟩
    show (PyData.canLay0 _ && PyData.canLayAll0 _) = true
    rw [q1.2, q2.2]; rfl
end
def asL : Bool → PyData → PyData
  | true, .tuple l => .list l
  | _, p => p
def LB (K : PySem.W.Frag) (w : D → D → Sto → (Bool → Prop) → Prop) : R2 := fun x y H Q => ∃ d e S F Qb, Rel K S F H ∧ RD K H d x ∧ RD K H e y ∧ w d e S Qb ∧ ∀ b, Qb b → Q (.bl b) H
theorem plain_dp {K : PySem.W.Frag} {S : Sto} {F H : Hp} {d x : D} {v : V} {b : Bool} (rel : Rel K S F H) (rd : RD K H d v) (h : plainR S d = some (b, x)) :
    ∃ p : PyData, Dp K H v p ∧ p.canLay0 = true ∧ D.pure x = true ∧ p = asL b (D.py x) ∧ (b = true → ∃ l, x = .tup l) := by
  cases d with
  | ref a =>
    have e := rd.refi
    unfold plainR at h
    simp only at h
    split at h
    case h_1 l hl =>
      split at h
      case isTrue hp =>
        cases h
        obtain ⟨vs, h1, h2⟩ := rel.lst hl
        have q := RDs.dp l vs hp h2
        rw [e]
        exact ⟨.list (D.pys l), .lst (.inl (.inl h1)) q.1, q.2, hp, rfl, fun _ => ⟨l, rfl⟩⟩
      case isFalse => cases h
    case h_2 l hl =>
      split at h
      case isTrue hp =>
        cases h
        obtain ⟨o, vs, h1, h2⟩ := rel.rls hl
        have q := RDs.dp l vs hp h2
        rw [e]
        exact ⟨.list (D.pys l), .lst (.inl (.inr ⟨o, h1⟩)) q.1, q.2, hp, rfl, fun _ => ⟨l, rfl⟩⟩
      case isFalse => cases h
    case h_3 => cases h
  | _ =>
    unfold plainR at h
    simp only at h
    split at h
    case isTrue hp =>
      cases h
      have q := RD.dp _ v hp rd
      exact ⟨_, q.1, q.2, hp, rfl, fun z => nomatch z⟩
    case isFalse => cases h
theorem depth_list (l : List PyData) : (PyData.list l).depth = (PyData.tuple l).depth := by simp [PyData.depth]
theorem eqv_kinds {b c : Bool} {x y : D} {p q : PyData} (hx : D.pure x = true) (hy : D.pure y = true) (ep : p = asL b (D.py x)) (eq : q = asL c (D.py y))
    (lb : b = true → ∃ l, x = .tup l) (lc : c = true → ∃ l, y = .tup l) : PyData.eqv p q = (b == c && D.eqv x y) ∧ p.depth = x.dep ∧ q.depth = y.dep := by
  have dx := D.dep_py x
  have dy := D.dep_py y
  have e := D.eqv_py x y hx hy
  cases b <;> cases c
  · subst ep eq
    simp only [asL]
    exact ⟨by rw [e]; simp, dx, dy⟩
  · obtain ⟨m, rfl⟩ := lc rfl
    subst ep eq
    simp only [D.py, asL] at dx dy e ⊢
    refine ⟨?_, dx, by rw [depth_list]; exact dy⟩
    cases x <;> simp [D.pure] at hx <;> simp [D.py, PyData.eqv]
  · obtain ⟨m, rfl⟩ := lb rfl
    subst ep eq
    simp only [D.py, asL] at dx dy e ⊢
    refine ⟨?_, by rw [depth_list]; exact dx, dy⟩
    cases y <;> simp [D.pure] at hy <;> simp [D.py, PyData.eqv]
  · obtain ⟨l, rfl⟩ := lb rfl
    obtain ⟨m, rfl⟩ := lc rfl
    subst ep eq
    simp only [D.py, asL] at dx dy e ⊢
    refine ⟨?_, by rw [depth_list]; exact dx, by rw [depth_list]; exact dy⟩
    simp only [PyData.eqv] at e ⊢
    rw [e]; simp
theorem eq_sound (hu : X.A.units + 64 < cLine) : OpR X (compareOp .Eq) (LB X.K eqR) := by
  intro pins s σ H x y v u Q I rx ry ⟨d, e, S, F, Qb, rel, rd, re, hq, kv⟩
  unfold eqR at hq
  split at hq
  case h_1 b x' c y' h1 h2 =>
    obtain ⟨p, dp, cp, px, ep, lp⟩ := plain_dp rel rd h1
    obtain ⟨q, dq, cq, py', eq', lq⟩ := plain_dp rel re h2
    obtain ⟨e1, e2, e3⟩ := eqv_kinds px py' ep eq' lp lq
    obtain ⟨as, r1⟩ := Dp.reads I p x v dp rx
    obtain ⟨bs, r2⟩ := Dp.reads I q y u dq ry
    refine SeqAt.compareEq_reads r1 r2 cp cq (by rw [e2, e3]; have := hq.1; omega) ⟨.bl _, H, I, rfl, ?_⟩
    rw [e1]; exact kv _ hq.2
  case h_2 => exact hq.elim
theorem ne_sound (hu : X.A.units + 64 < cLine) : OpR X (compareOp .NotEq) (LB X.K fun x y S Q => eqR x y S fun b => Q (!b)) := by
  intro pins s σ H x y v u Q I rx ry ⟨d, e, S, F, Qb, rel, rd, re, hq, kv⟩
  have hq : eqR d e S fun b => Qb (!b) := hq
  unfold eqR at hq
  split at hq
  case h_1 b x' c y' h1 h2 =>
    obtain ⟨p, dp, cp, px, ep, lp⟩ := plain_dp rel rd h1
    obtain ⟨q, dq, cq, py', eq', lq⟩ := plain_dp rel re h2
    obtain ⟨e1, e2, e3⟩ := eqv_kinds px py' ep eq' lp lq
    obtain ⟨as, r1⟩ := Dp.reads I p x v dp rx
    obtain ⟨bs, r2⟩ := Dp.reads I q y u dq ry
    refine SeqAt.compareNe_reads r1 r2 cp cq (by rw [e2, e3]; have := hq.1; omega) ⟨.bl _, H, I, rfl, ?_⟩
    rw [e1]; exact kv _ hq.2
  case h_2 => exact hq.elim
end Mi
namespace Mi
open PySem PySem.Spec PyProof.Rows L2
variable {X : Cx}
theorem intcmp {op : CmpOp} {g : Int → Int → Bool} {w : D → D → Sto → (Bool → Prop) → Prop} (h : OpR X (compareOp op) (rI0 fun i j => .bl (g i j)))
    (hw : ∀ d e S Q, w d e S Q → ∃ i j, d = .int i ∧ e = .int j ∧ Q (g i j)) : OpR X (compareOp op) (LB X.K w) := by
  refine opR_imp h fun x y H Q ⟨d, e, S, F, Qb, rel, rd, re, hq, kv⟩ => ?_
  obtain ⟨i, j, rfl, rfl, q⟩ := hw d e S Qb hq
  exact ⟨i, j, rd.inti, re.inti, kv _ q⟩
theorem is_bool_gen {v : V} {u : Value} {b : Bool} {E : Value → Shared → Prop} {s : Shared} {Q : Value → Shared → Prop} {M : Model} {A : Around} (r : RelV v u) (h : Q (.bool (decide (v = .bl b))) s) : wpAny M A (compareOp .Is u (.bool b)) Q E s := by
  cases v with
  | bl c =>
    cases r
    by_cases e : c = b
    · subst e; exact wpAny_is_self rfl (by simpa using h)
    · exact wpAny_is_other rfl (fun z => e (Value.bool.inj z)) (by simpa [e] using h)
  | non => cases r; exact wpAny_is_other rfl (fun z => nomatch z) (by simpa using h)
  | int i => obtain ⟨t, rfl⟩ := r; exact wpAny_is_other rfl (fun z => nomatch z) (by simpa using h)
  | str i => obtain ⟨t, rfl⟩ := r; exact wpAny_is_other rfl (fun z => nomatch z) (by simpa using h)
  | byt i => obtain ⟨t, rfl⟩ := r; exact wpAny_is_other rfl (fun z => nomatch z) (by simpa using h)
  | flt i => obtain ⟨t, rfl⟩ := r; exact wpAny_is_other rfl (fun z => nomatch z) (by simpa using h)
  | ref a => cases r; exact wpAny_is_other rfl (fun z => nomatch z) (by simpa using h)
  | ty n => cases r; exact wpAny_is_other rfl (fun z => nomatch z) (by simpa using h)
end Mi
namespace Mi
open PySem PySem.Spec PyProof.Rows L2
variable {X : Cx}
section
variable {K : PySem.W.Frag} {H : Hp}
theorem flat_of {d : D} {v : V} (h : flatD d = true) (r : RD K H d v) : flatV v = true := by
  cases d with
  | non => rw [r.noni]; rfl
  | bl b => rw [r.bli]; rfl
  | int i => rw [r.inti]; rfl
  | str s => rw [r.stri.1]; rfl
  | tup l => simp [flatD] at h
  | ref a => simp [flatD] at h
  | rl l => simp [flatD] at h
theorem eqV_of {d e : D} {v w : V} (hd : flatD d = true) (he : flatD e = true) (r : RD K H d v) (q : RD K H e w) : eqV v w = D.eqv d e := by
  cases d <;> simp only [flatD, Bool.false_eq_true] at hd <;> cases e <;> simp only [flatD, Bool.false_eq_true] at he <;>
    (first | rw [r.noni] | rw [r.bli] | rw [r.inti] | rw [r.stri.1]) <;> (first | rw [q.noni] | rw [q.bli] | rw [q.inti] | rw [q.stri.1]) <;> simp [eqV, D.eqv]
theorem all_flat : ∀ {l : List D} {vs : List V}, l.all flatD = true → RDs K H l vs → vs.all flatV = true
  | [], vs, _, h => by rw [RDs] at h; rw [h]; rfl
  | d :: l, vs, p, h => by
    rw [RDs] at h
    obtain ⟨v, r, e, h1, h2⟩ := h
    rw [List.all_cons, Bool.and_eq_true] at p
    rw [e, List.all_cons, flat_of p.1 h1, all_flat p.2 h2]; rfl
theorem inV_of {x : D} {xv : V} (hx : flatD x = true) (rx : RD K H x xv) : ∀ {l : List D} {vs : List V}, l.all flatD = true → RDs K H l vs → inV xv vs = inD x l
  | [], vs, _, h => by rw [RDs] at h; rw [h]; rfl
  | d :: l, vs, p, h => by
    rw [RDs] at h
    obtain ⟨v, r, e, h1, h2⟩ := h
    rw [List.all_cons, Bool.and_eq_true] at p
    rw [e]
    show (eqV v xv || inV xv r) = (D.eqv d x || inD x l)
    rw [eqV_of p.1 hx h1 rx, inV_of hx rx p.2 h2]
theorem keyD_kV {d : D} {k : Key} {v : V} (h : keyD d = some k) (r : RD K H d v) : v = kV k := by
  cases d with
  | int i => simp only [keyD, Option.some.injEq] at h; subst h; exact r.inti
  | str s => simp only [keyD, Option.some.injEq] at h; subst h; exact r.stri.1
  | _ => simp [keyD] at h
theorem keyD_inj {d e : D} {k : Key} (h : keyD d = some k) (g : keyD e = some k) : d = e := by
  cases d <;> simp only [keyD, Option.some.injEq, reduceCtorEq] at h <;> cases e <;> simp only [keyD, Option.some.injEq, reduceCtorEq] at g <;> subst h <;> cases g <;> rfl
theorem keyD_eq {d e : D} {k j : Key} (h : keyD d = some k) (g : keyD e = some j) : (k = j) ↔ (d = e) :=
  ⟨fun z => by subst z; exact keyD_inj h g, fun z => by subst z; rw [h] at g; exact Option.some.inj g⟩
theorem RK.get {k : D} {k' : Key} (hk : keyD k = some k') : ∀ {kvs : List (D × D)} {ws : List (Key × V)}, RK K H kvs ws →
    (∀ d, dget kvs k = some d → ∃ v, valV ws k' = some v ∧ RD K H d v) ∧ (dget kvs k = none → valV ws k' = none)
  | [], ws, h => by
    rw [RK] at h; subst h
    exact ⟨fun d e => by simp [dget] at e, fun _ => rfl⟩
  | (j, d) :: l, ws, h => by
    rw [RK] at h
    obtain ⟨j', v, r, e, hj, h1, h2⟩ := h
    subst e
    have ih := RK.get hk h2
    by_cases hjk : j = k
    · have e' : j' = k' := (keyD_eq hj hk).mpr hjk
      have e1 : dget ((j, d) :: l) k = some d := by simp [dget, hjk]
      have e2 : valV ((j', v) :: r) k' = some v := valV_pos e'
      rw [e1, e2]
      exact ⟨fun x z => by cases z; exact ⟨v, rfl, h1⟩, fun z => by cases z⟩
    · have e' : ¬ j' = k' := fun z => hjk ((keyD_eq hj hk).mp z)
      have e1 : dget ((j, d) :: l) k = dget l k := by simp [dget, List.find?_cons, hjk]
      have e2 : valV ((j', v) :: r) k' = valV r k' := valV_neg e'
      rw [e1, e2]
      exact ih
theorem RK.isSome {k : D} {k' : Key} (hk : keyD k = some k') {kvs : List (D × D)} {ws : List (Key × V)} (h : RK K H kvs ws) : (valV ws k').isSome = (dget kvs k).isSome := by
  have q := RK.get hk h
  cases e : dget kvs k with
  | none => rw [q.2 e]; rfl
  | some d => obtain ⟨v, e', _⟩ := q.1 d e; rw [e']; rfl
theorem RK.length : ∀ {kvs : List (D × D)} {ws : List (Key × V)}, RK K H kvs ws → ws.length = kvs.length
  | [], ws, h => by rw [RK] at h; rw [h]; rfl
  | (j, d) :: l, ws, h => by
    rw [RK] at h
    obtain ⟨j', v, r, e, hj, h1, h2⟩ := h
    rw [e, List.length_cons, List.length_cons, RK.length h2]
theorem RK.any {k : D} {k' : Key} (hk : keyD k = some k') : ∀ {kvs : List (D × D)} {ws : List (Key × V)}, RK K H kvs ws → (ws.any fun kv => decide (kv.1 = k')) = (kvs.any fun kv => decide (kv.1 = k))
  | [], ws, h => by rw [RK] at h; rw [h]; rfl
  | (j, d) :: l, ws, h => by
    rw [RK] at h
    obtain ⟨j', v, r, e, hj, h1, h2⟩ := h
    subst e
    rw [List.any_cons, List.any_cons, RK.any hk h2]
    congr 1
    exact decide_eq_decide.mpr (keyD_eq hj hk)
theorem RK.map {k d : D} {k' : Key} {v : V} (hk : keyD k = some k') (hd : RD K H d v) : ∀ {kvs : List (D × D)} {ws : List (Key × V)}, RK K H kvs ws →
    RK K H (kvs.map fun kv => if kv.1 = k then (kv.1, d) else kv) (ws.map fun kv => if kv.1 = k' then (kv.1, v) else kv)
  | [], ws, h => by rw [RK] at h; subst h; rw [List.map_nil, List.map_nil, RK]
  | (j, x) :: l, ws, h => by
    rw [RK] at h
    obtain ⟨j', y, r, e, hj, h1, h2⟩ := h
    subst e
    have ih := RK.map hk hd h2
    rw [List.map_cons, List.map_cons]
    by_cases hjk : j = k
    · have e' : j' = k' := (keyD_eq hj hk).mpr hjk
      simp only [hjk, e', if_true]
      rw [RK]
      exact ⟨k', v, _, rfl, hk, hd, ih⟩
    · have e' : ¬ j' = k' := fun z => hjk ((keyD_eq hj hk).mp z)
      simp only [hjk, e', if_false]
      rw [RK]
      exact ⟨j', y, _, rfl, hj, h1, ih⟩
theorem RK.snoc {k d : D} {k' : Key} {v : V} (hk : keyD k = some k') (hd : RD K H d v) : ∀ {kvs : List (D × D)} {ws : List (Key × V)}, RK K H kvs ws → RK K H (kvs ++ [(k, d)]) (ws ++ [(k', v)])
  | [], ws, h => by
    rw [RK] at h; subst h
    show RK K H [(k, d)] [(k', v)]
    rw [RK]
    exact ⟨k', v, [], rfl, hk, hd, by rw [RK]⟩
  | (j, x) :: l, ws, h => by
    rw [RK] at h
    obtain ⟨j', y, r, e, hj, h1, h2⟩ := h
    subst e
    show RK K H ((j, x) :: (l ++ [(k, d)])) ((j', y) :: (r ++ [(k', v)]))
    rw [RK]
    exact ⟨j', y, _, rfl, hj, h1, RK.snoc hk hd h2⟩
theorem RK.put {k d : D} {k' : Key} {v : V} (hk : keyD k = some k') (hd : RD K H d v) {kvs : List (D × D)} {ws : List (Key × V)} (h : RK K H kvs ws) : RK K H (dput kvs k d) (putK ws k' v) := by
  unfold dput putK
  rw [RK.any hk h]
  split
  · exact RK.map hk hd h
  · exact RK.snoc hk hd h
theorem Rel.setDct {S : Sto} {F : Hp} {l m : List (D × D)} {vs ws : List (Key × V)} {p : Addr} (r : Rel K S F H) (h : S p = some (.dct l)) (hH : H p = some (.dK vs)) (hm : RK K H m ws) :
    Ext H (L2.upd H p (.dK ws)) ∧ Rel K (S.upd p (.dct m)) F (L2.upd H p (.dK ws)) := by
  have x : Ext H (L2.upd H p (.dK ws)) := .write hH (fun _ z => nomatch z) fun _ _ z => nomatch z
  exact ⟨x, r.write h x ⟨ws, upd_same, hm.ext x⟩⟩
end
theorem in_gen (hu : X.A.units + 1 < cLine) (neg : Bool) {op : CmpOp} (hop : op = (if neg then .NotIn else .In)) : OpR X (compareOp op) (LB X.K fun x y S Q => inR x y S fun b => Q (if neg then !b else b)) := by
  intro pins s σ H x y v u Q I rx ry ⟨d, e, S, F, Qb, rel, rd, re, hq, kv⟩
  have hq : inR d e S fun b => Qb (if neg then !b else b) := hq
  cases e with
  | tup l =>
    obtain ⟨f1, f2, q⟩ := hq
    obtain ⟨a, vs, ea, ha, hl⟩ := re.tupi
    have g := kv _ q
    rw [← inV_of f1 rd f2 hl] at g
    cases neg with
    | false => subst hop; exact op_in_seq pins s σ H x y v u Q I rx ry ⟨a, vs, ea, .inr ha, flat_of f1 rd, all_flat f2 hl, g⟩
    | true => subst hop; exact op_notIn_seq pins s σ H x y v u Q I rx ry ⟨a, vs, ea, .inr ha, flat_of f1 rd, all_flat f2 hl, g⟩
  | str t =>
    cases d with
    | str z =>
      have g := kv _ hq
      cases neg with
      | false => subst hop; exact op_in_str pins s σ H x y v u Q I rx ry ⟨z, t, rd.stri.1, re.stri.1, g⟩
      | true => subst hop; exact op_notIn_str pins s σ H x y v u Q I rx ry ⟨z, t, rd.stri.1, re.stri.1, g⟩
    | _ => exact (show False from hq).elim
  | ref a =>
    unfold inR at hq
    simp only at hq
    split at hq
    case h_1 l hl =>
      obtain ⟨f1, f2, q⟩ := hq
      obtain ⟨vs, h1, h2⟩ := rel.lst hl
      have g := kv _ q
      rw [← inV_of f1 rd f2 h2] at g
      cases neg with
      | false => subst hop; exact op_in_seq pins s σ H x y v u Q I rx ry ⟨a, vs, re.refi, .inl (.of h1), flat_of f1 rd, all_flat f2 h2, g⟩
      | true => subst hop; exact op_notIn_seq pins s σ H x y v u Q I rx ry ⟨a, vs, re.refi, .inl (.of h1), flat_of f1 rd, all_flat f2 h2, g⟩
    case h_2 kvs hl =>
      obtain ⟨f1, q⟩ := hq
      obtain ⟨ws, h1, h2⟩ := rel.dct hl
      obtain ⟨k', hk⟩ := Option.isSome_iff_exists.mp (show (keyD d).isSome = true from f1)
      have g := kv _ q
      rw [← RK.isSome hk h2] at g
      have ey := re.refi
      subst ey
      obtain rfl : u = Value.ref a := ry
      have ex := keyD_kV hk rd
      subst ex
      cases neg with
      | false => subst hop; exact d_in hu I (DGet.k h1) rx fun s' I' => ⟨.bl _, H, I', rfl, g⟩
      | true => subst hop; exact d_notIn hu I (DGet.k h1) rx fun s' I' => ⟨.bl _, H, I', rfl, g⟩
    case h_3 kvs hl =>
      obtain ⟨f1, q⟩ := hq
      obtain ⟨o, ws, h1, h2⟩ := rel.fdc hl
      obtain ⟨k', hk⟩ := Option.isSome_iff_exists.mp (show (keyD d).isSome = true from f1)
      have g := kv _ q
      rw [← RK.isSome hk h2] at g
      have ey := re.refi
      subst ey
      obtain rfl : u = Value.ref a := ry
      have ex := keyD_kV hk rd
      subst ex
      have dg : DGet H a (kV k') (valV ws k') := .inl ⟨ws, k', .inr ⟨o, h1⟩, rfl, rfl⟩
      cases neg with
      | false => subst hop; exact d_in hu I dg rx fun s' I' => ⟨.bl _, H, I', rfl, g⟩
      | true => subst hop; exact d_notIn hu I dg rx fun s' I' => ⟨.bl _, H, I', rfl, g⟩
    case h_4 => exact hq.elim
  | _ => exact (show False from hq).elim
theorem is_gen (neg : Bool) {op : CmpOp} (hop : op = (if neg then .IsNot else .Is)) : OpR X (compareOp op) (LB X.K fun x y S Q => isR x y fun b => Q (if neg then !b else b)) := by
  intro pins s σ H x y v u Q I rx ry ⟨d, e, S, F, Qb, rel, rd, re, hq, kv⟩
  have hq : isR d e fun b => Qb (if neg then !b else b) := hq
  cases e with
  | bl b =>
    have ey := re.bli
    subst ey
    obtain rfl : u = Value.bool b := ry
    have g : Qb (if neg then !(decide (x = .bl b)) else decide (x = .bl b)) := by
      cases d <;> simp only [isR] at hq
      case bl c => rw [rd.bli]; simpa [Bool.beq_eq_decide_eq] using hq
      case non => rw [rd.noni]; simpa using hq
      case int i => rw [rd.inti]; simpa using hq
      case str i => rw [rd.stri.1]; simpa using hq
      case tup i => obtain ⟨a, vs, e, _⟩ := rd.tupi; rw [e]; simpa using hq
      case ref i => rw [rd.refi]; simpa using hq
      case rl i => obtain ⟨a, vs, e, _⟩ := rd.rli; rw [e]; simpa using hq
    cases neg with
    | false => subst hop; exact is_bool_gen rx ⟨.bl _, H, I, rfl, kv _ g⟩
    | true =>
      subst hop
      cases hx : decide (x = V.bl b) with
      | true =>
        rw [hx] at g
        have e := of_decide_eq_true hx
        subst e
        obtain rfl : v = Value.bool b := rx
        exact wpAny_isNot_self rfl ⟨.bl _, H, I, rfl, kv _ g⟩
      | false =>
        rw [hx] at g
        have e := of_decide_eq_false hx
        refine wpAny_isNot_other (by rcases x with _ | _ | _ | _ | _ | _ | _ | _ <;> first | (cases rx; rfl) | (obtain ⟨t, rfl⟩ := rx; rfl)) (fun z => ?_) ⟨.bl _, H, I, rfl, kv _ g⟩
        subst z
        exact e (rx.inj (show RelV (V.bl b) (Value.bool b) from rfl))
  | non =>
    have ey := re.noni
    subst ey
    have g : Qb (if neg then !(decide (x = .non)) else decide (x = .non)) := by
      cases d <;> simp only [isR] at hq
      case bl c => rw [rd.bli]; simpa using hq
      case non => rw [rd.noni]; simpa using hq
      case int i => rw [rd.inti]; simpa using hq
      case str i => rw [rd.stri.1]; simpa using hq
      case tup i => obtain ⟨a, vs, e, _⟩ := rd.tupi; rw [e]; simpa using hq
      case ref i => rw [rd.refi]; simpa using hq
      case rl i => obtain ⟨a, vs, e, _⟩ := rd.rli; rw [e]; simpa using hq
    cases neg with
    | false => subst hop; exact op_isN pins s σ H x _ v u Q I rx ry ⟨rfl, kv _ g⟩
    | true => subst hop; exact op_notN pins s σ H x _ v u Q I rx ry ⟨rfl, kv _ g⟩
  | _ => exact (show False from hq).elim
theorem cm_sound {k : Nat} (hr : Room k X.A) : ∀ o : CmpOp, OpR X (compareOp o) (LB X.K (cmR (cmOf o)))
  | .Eq => eq_sound hr.units
  | .NotEq => ne_sound hr.units
  | .Lt => intcmp op_lt fun d e S Q h => by
    cases d <;> cases e <;> simp only [cmR, cmOf] at h
    exact ⟨_, _, rfl, rfl, h⟩
  | .LtE => intcmp op_le fun d e S Q h => by
    cases d <;> cases e <;> simp only [cmR, cmOf] at h
    exact ⟨_, _, rfl, rfl, h⟩
  | .Gt => intcmp op_gt fun d e S Q h => by
    cases d <;> cases e <;> simp only [cmR, cmOf] at h
    exact ⟨_, _, rfl, rfl, h⟩
  | .GtE => intcmp op_ge fun d e S Q h => by
    cases d <;> cases e <;> simp only [cmR, cmOf] at h
    exact ⟨_, _, rfl, rfl, h⟩
  | .Is => opR_imp (is_gen false rfl) fun x y H Q h => h
  | .IsNot => opR_imp (is_gen true rfl) fun x y H Q h => h
  | .In => opR_imp (in_gen (hu_of hr) false rfl) fun x y H Q h => h
  | .NotIn => opR_imp (in_gen (hu_of hr) true rfl) fun x y H Q h => h
end Mi
namespace Mi
open PySem PySem.Spec PyProof.Rows L2
variable {X : Cx}
theorem RDs.atI {K : PySem.W.Frag} {H : Hp} {l : List D} {vs : List V} {i : Int} {d : D} (h : RDs K H l vs) (e : L2.atI l i = some d) : ∃ v, L2.atI vs i = some v ∧ RD K H d v := by
  unfold L2.atI at e ⊢
  rw [h.length]
  cases q : ixN l.length i with
  | none => rw [q] at e; cases e
  | some j =>
    rw [q] at e
    exact h.get e
theorem ix_dict {k : Nat} (hr : Room k X.A) : IxR X (fun x y H Q => ∃ a v, x = .ref a ∧ DGet H a y (some v) ∧ Q v H) := by
  intro value slice pins s σ H x y v u Q I rx ry h hs
  obtain ⟨a, w, rfl, g, q⟩ := h
  obtain rfl : v = Value.ref a := rx
  have hT := dict_typeIs I g
  unfold subscriptTail
  refine wpAny_bind ?_
  rw [getitemInPython_of_ne hT.not_modules]
  refine wpAny_bind (wpAny_specialOf hT PySem.F.slot_dict_getitem.lookup ?_)
  have fin : wpAny (model X.prog X.w) X.A (subscripted slice false (.ref a) u) (fun r s₃ => wpAny (model X.prog X.w) X.A (letTemporaryGo value (.ref a) r >>= fun _ => pure r) (EP X pins σ Q) X.xe s₃) X.xe s := by
    rw [hs]
    exact wpAny_operating (d_getItem (hu_of hr) I g ry fun w' s3 I3 rw' => wpAny_bind (wpAny_letTemporaryGo (wpAny_pure ⟨w, H, I3, rw', q⟩)))
  first
    | exact wpAny_pure (wpAny_bind fin)
    | exact wpAny_bind (wpAny_pure (wpAny_bind fin))
    | exact wpAny_bind fin
theorem strOk_at {s : Str} {i : Int} {c : Nat} (h : PyData.strOk s = true) (e : L2.atI s.cps.toList i = some c) : PyData.strOk ⟨#[c]⟩ = true := by
  unfold L2.atI at e
  cases q : ixN s.cps.toList.length i with
  | none => rw [q] at e; cases e
  | some j =>
    rw [q] at e
    have hm : c ∈ s.cps := by
      have : c ∈ s.cps.toList := List.mem_of_getElem? e
      exact Array.mem_toList_iff.mp this
    unfold PyData.strOk at h ⊢
    rw [Array.all_eq_true'] at h
    have := h c hm
    simpa using this
theorem ix_sound {k : Nat} (hr : Room k X.A) : IxR X (LO X.K ixR) := by
  intro value slice pins s σ H x y v u Q I rx ry ⟨d, e, S, F, Qd, rel, rd, re, hq, kv⟩ hs
  cases d with
  | tup l =>
    cases e with
    | int i =>
      simp only [ixR] at hq
      split at hq
      case h_1 w hw =>
        obtain ⟨a, vs, ea, ha, hl⟩ := rd.tupi
        obtain ⟨z, hz, rz⟩ := hl.atI hw
        exact ix_tup value slice pins s σ H x y v u Q I rx ry ⟨a, vs, i, z, ea, re.inti, ha, hz, kv _ _ _ _ hq .refl rel rz⟩ hs
      case h_2 => exact hq.elim
    | _ => exact (show False from hq).elim
  | str t =>
    cases e with
    | int i =>
      simp only [ixR] at hq
      obtain ⟨h1, hq⟩ := hq
      split at hq
      case h_1 w hw => exact ix_str value slice pins s σ H x y v u Q I rx ry ⟨t, i, w, rd.stri.1, re.inti, h1, hw, kv _ _ _ _ hq .refl rel (.str (strOk_at rd.stri.2 hw))⟩ hs
      case h_2 => exact hq.elim
    | _ => exact (show False from hq).elim
  | ref a =>
    simp only [ixR] at hq
    split at hq
    case h_1 l hl =>
      obtain ⟨vs, h1, h2⟩ := rel.lst hl
      split at hq
      case h_1 i =>
        split at hq
        case h_1 w hw =>
          obtain ⟨z, hz, rz⟩ := h2.atI hw
          exact ix_list value slice pins s σ H x y v u Q I rx ry ⟨a, vs, i, z, rd.refi, re.inti, .of h1, hz, kv _ _ _ _ hq .refl rel rz⟩ hs
        case h_2 => exact hq.elim
      case h_2 => exact hq.elim
    case h_2 l hl =>
      obtain ⟨o, vs, h1, h2⟩ := rel.rls hl
      split at hq
      case h_1 i =>
        split at hq
        case h_1 w hw =>
          obtain ⟨z, hz, rz⟩ := h2.atI hw
          exact ix_list value slice pins s σ H x y v u Q I rx ry ⟨a, vs, i, z, rd.refi, re.inti, .inl (.inr ⟨o, h1⟩), hz, kv _ _ _ _ hq .refl rel rz⟩ hs
        case h_2 => exact hq.elim
      case h_2 => exact hq.elim
    case h_3 kvs hl =>
      obtain ⟨f1, hq⟩ := hq
      split at hq
      case h_1 w hw =>
        obtain ⟨ws, h1, h2⟩ := rel.dct hl
        obtain ⟨k', hk⟩ := Option.isSome_iff_exists.mp (show (keyD e).isSome = true from f1)
        obtain ⟨z, hz, rz⟩ := (RK.get hk h2).1 w hw
        have ey := keyD_kV hk re
        subst ey
        have g : DGet H a (kV k') (some z) := by rw [← hz]; exact DGet.k h1
        exact ix_dict hr value slice pins s σ H x _ v u Q I rx ry ⟨a, z, rd.refi, g, kv _ _ _ _ hq .refl rel rz⟩ hs
      case h_2 => exact hq.elim
    case h_4 kvs hl =>
      obtain ⟨f1, hq⟩ := hq
      split at hq
      case h_1 w hw =>
        obtain ⟨o, ws, h1, h2⟩ := rel.fdc hl
        obtain ⟨k', hk⟩ := Option.isSome_iff_exists.mp (show (keyD e).isSome = true from f1)
        obtain ⟨z, hz, rz⟩ := (RK.get hk h2).1 w hw
        have ey := keyD_kV hk re
        subst ey
        have g : DGet H a (kV k') (some z) := by rw [← hz]; exact .inl ⟨ws, k', .inr ⟨o, h1⟩, rfl, rfl⟩
        exact ix_dict hr value slice pins s σ H x _ v u Q I rx ry ⟨a, z, rd.refi, g, kv _ _ _ _ hq .refl rel rz⟩ hs
      case h_2 => exact hq.elim
    case h_5 => exact hq.elim
  | _ => exact (show False from hq).elim
def LSl (K : PySem.W.Frag) : V → Option Int → Option Int → Hp → VK → Prop := fun x lo hi H Q => ∃ d S F Qd, Rel K S F H ∧ RD K H d x ∧ slcR d lo hi S Qd ∧ KV K F H Qd Q
theorem cut_RDs {K : PySem.W.Frag} {H : Hp} {l : List D} {vs : List V} (h : RDs K H l vs) (lo hi : Option Int) : RDs K H (cutD l lo hi) (cutV vs lo hi) := by
  unfold cutD cutV
  rw [h.length]
  exact (h.drop _).take _
theorem cut_all {l : List D} {lo hi : Option Int} (h : HT.sIx l.length 0 lo = 0 ∧ HT.sIx l.length l.length hi = l.length) : cutD l lo hi = l := by
  unfold cutD
  rw [h.1, h.2]
  simp
end Mi
namespace Mi
open PySem PySem.Spec PyProof.Rows L2
variable {X : Cx}
theorem strOk_sub {l : List Nat} {s : Str} (h : PyData.strOk s = true) (hs : ∀ c ∈ l, c ∈ s.cps.toList) : PyData.strOk ⟨l.toArray⟩ = true := by
  unfold PyData.strOk at h ⊢
  rw [Array.all_eq_true'] at h ⊢
  intro c hc
  exact h c (Array.mem_toList_iff.mp (hs c (by simpa using hc)))
theorem cutS_cutD (z : Str) (lo hi : Option Int) : cutS z lo hi = ⟨(cutD z.cps.toList lo hi).toArray⟩ := by
  unfold cutS cutD
  have e : z.cps.toList.length = z.length := by simp [Str.length]
  rw [e]
theorem sl_sound : SlR X (LSl X.K) := by
  intro pins s σ H x v vl vu lo hi sl Q I rx hs pl pu ⟨d, S, F, Qd, rel, rd, hq, kv⟩
  cases d with
  | tup l =>
    obtain ⟨a, vs, ea, ha, hl⟩ := rd.tupk
    simp only [slcR] at hq
    refine sl_tupF pins s σ H x v vl vu lo hi sl Q I rx hs pl pu ⟨a, vs, ea, ha.sq, fun h => ?_, fun p o hp ho => ?_⟩
    · rw [hl.length] at h
      rw [cut_all h] at hq
      exact kv _ _ _ _ hq .refl rel (.tup ha hl)
    · exact kv _ _ _ _ hq (.new hp) (rel.tup hp) (.tupNew hp ho (cut_RDs hl lo hi))
  | str z =>
    simp only [slcR] at hq
    rw [← cutS_cutD] at hq
    refine sl_str pins s σ H x v vl vu lo hi sl Q I rx hs pl pu ⟨z, rd.stri.1, hq.1, kv _ _ _ _ hq.2 .refl rel (.str ?_)⟩
    rw [cutS_cutD]
    exact strOk_sub rd.stri.2 fun c hc => List.mem_of_mem_drop (List.mem_of_mem_take hc)
  | ref a =>
    simp only [slcR] at hq
    split at hq
    case h_1 l hl =>
      obtain ⟨vs, h1, h2⟩ := rel.lst hl
      exact sl_list pins s σ H x v vl vu lo hi sl Q I rx hs pl pu ⟨a, vs, rd.refi, .of h1, fun p hp => kv _ _ _ _ (hq p (rel.free hp)) (.new hp) (rel.newLst hp (cut_RDs h2 lo hi)) .ref⟩
    case h_2 => exact hq.elim
  | _ => exact (show False from hq).elim
def LTr (K : PySem.W.Frag) : V → Hp → (Bool → Hp → Prop) → Prop := fun x H Q => ∃ d S F Qb, Rel K S F H ∧ RD K H d x ∧ truR d S Qb ∧ ∀ b, Qb b → Q b H
theorem isEmpty_RDs {K : PySem.W.Frag} {H : Hp} {l : List D} {vs : List V} (h : RDs K H l vs) : (!vs.isEmpty) = !l.isEmpty := by
  have := h.length
  cases l <;> cases vs <;> simp at this ⊢
theorem isEmpty_RK {K : PySem.W.Frag} {H : Hp} {l : List (D × D)} {vs : List (Key × V)} (h : RK K H l vs) : (!vs.isEmpty) = !l.isEmpty := by
  have := h.length
  cases l <;> cases vs <;> simp at this ⊢
theorem tru_conv {K : PySem.W.Frag} {x : V} {H : Hp} {Q : Bool → Hp → Prop} (h : LTr K x H Q) : ∃ k, TruV K x H k ∧ Q k H := by
  obtain ⟨d, S, F, Qb, rel, rd, hq, kv⟩ := h
  cases d with
  | non => rw [rd.noni]; exact ⟨_, rfl, kv _ hq⟩
  | bl b => rw [rd.bli]; exact ⟨_, rfl, kv _ hq⟩
  | int i => rw [rd.inti]; exact ⟨_, rfl, kv _ hq⟩
  | str s => rw [rd.stri.1]; exact ⟨_, ⟨hq.1, rfl⟩, kv _ hq.2⟩
  | tup l =>
    obtain ⟨a, vs, ea, ha, hl⟩ := rd.tupi
    rw [ea]
    exact ⟨_, .inr (.inl ⟨vs, ha, (isEmpty_RDs hl).symm⟩), kv _ hq⟩
  | rl l => exact (show False from hq).elim
  | ref a =>
    rw [rd.refi]
    simp only [truR] at hq
    split at hq
    case h_1 l hl =>
      obtain ⟨vs, h1, h2⟩ := rel.lst hl
      exact ⟨_, .inl ⟨vs, .of h1, (isEmpty_RDs h2).symm⟩, kv _ hq⟩
    case h_2 l hl =>
      obtain ⟨vs, h1, h2⟩ := rel.dct hl
      exact ⟨_, .inr (.inr ⟨vs, h1, (isEmpty_RK h2).symm⟩), kv _ hq⟩
    case h_3 => exact hq.elim
def LSet (K : PySem.W.Frag) : V → V → V → Hp → (Hp → Prop) → Prop := fun o i v H Q => ∃ x y z S F Qs, Rel K S F H ∧ RD K H x o ∧ RD K H y i ∧ RD K H z v ∧ setR x y z S Qs ∧ ∀ S' H', Qs S' → Ext H H' → Rel K S' F H' → Q H'
theorem ps_setD {k : Nat} (hr : Room k X.A) : PSet X (fun o i v H Q => ∃ a H', o = .ref a ∧ DPut H a i v H' ∧ Q H') := by
  intro pins s σ H o i v ov iv u Q I ro ri rv ⟨a, H', e, g, q⟩
  subst e
  obtain rfl : ov = Value.ref a := ro
  exact d_setItem (hu_of hr) I g ri rv fun s' I' => ⟨H', I', q⟩
theorem set_sound {k : Nat} (hr : Room k X.A) : PSet X (LSet X.K) := by
  intro pins s σ H o i v ov iv u Q I ro ri rv ⟨x, y, z, S, F, Qs, rel, rx, ry, rz, hq, kv⟩
  cases x with
  | ref a =>
    simp only [setR] at hq
    split at hq
    case h_1 l hl =>
      obtain ⟨vs, h1, h2⟩ := rel.lst hl
      split at hq
      case h_1 k =>
        split at hq
        case h_1 j hj =>
          obtain ⟨e1, e2⟩ := rel.setLst hl h1 (RDs.set rz j h2)
          exact set_list pins s σ H o i v ov iv u Q I ro ri rv ⟨a, vs, k, j, rx.refi, ry.inti, h1, by rw [h2.length]; exact hj, kv _ _ hq e1 e2⟩
        case h_2 => exact hq.elim
      case h_2 => exact hq.elim
    case h_2 kvs hl =>
      obtain ⟨f1, hz, hq⟩ := hq
      obtain ⟨ws, h1, h2⟩ := rel.dct hl
      obtain ⟨k', hk⟩ := Option.isSome_iff_exists.mp (show (keyD y).isSome = true from f1)
      have ey := keyD_kV hk ry
      subst ey
      obtain ⟨e1, e2⟩ := rel.setDct hl h1 (RK.put hk rz h2)
      exact ps_setD hr pins s σ H o _ v ov iv u Q I ro ri rv ⟨a, _, rx.refi, DPut.k h1 (by rw [h2.length]; exact hz), kv _ _ hq e1 e2⟩
    case h_3 => exact hq.elim
  | _ => exact (show False from hq).elim
def LM (K : PySem.W.Frag) (m : Mt) : V → List V → Hp → VK → Prop := fun x vs H Q => ∃ d ds S F Qd, Rel K S F H ∧ RD K H d x ∧ RDs K H ds vs ∧ mthR m d ds S Qd ∧ KV K F H Qd Q
theorem RDs.one {K : PySem.W.Frag} {H : Hp} {d : D} {vs : List V} (h : RDs K H [d] vs) : ∃ v, vs = [v] ∧ RD K H d v := by
  rw [RDs] at h
  obtain ⟨v, r, e, h1, h2⟩ := h
  rw [RDs] at h2
  exact ⟨v, by rw [e, h2], h1⟩
theorem RDs.two {K : PySem.W.Frag} {H : Hp} {d e : D} {vs : List V} (h : RDs K H [d, e] vs) : ∃ v w, vs = [v, w] ∧ RD K H d v ∧ RD K H e w := by
  rw [RDs] at h
  obtain ⟨v, r, e, h1, h2⟩ := h
  obtain ⟨w, e2, h3⟩ := h2.one
  exact ⟨v, w, by rw [e, e2], h1, h3⟩
theorem append_sound : MtR X "list.append" (LM X.K .append) := by
  intro pins s σ H x vs v us Q I rx rv ⟨d, ds, S, F, Qd, rel, rd, rds, hq, kv⟩
  match d, ds, hq with
  | .ref a, [e], hq =>
    simp only [mthR] at hq
    split at hq
    case h_1 l hl =>
      obtain ⟨ws, h1, h2⟩ := rel.lst hl
      obtain ⟨w, e1, r1⟩ := rds.one
      obtain ⟨x1, x2⟩ := rel.setLst hl h1 (h2.append (.cons r1 .nil))
      exact mt_append pins s σ H x vs v us Q I rx rv ⟨a, ws, w, rd.refi, e1, h1, by rw [h2.length]; exact hq.1, kv _ _ _ _ hq.2 x1 x2 .non⟩
    case h_2 => exact hq.elim
theorem insert_sound : MtR X "list.insert" (LM X.K .insert) := by
  intro pins s σ H x vs v us Q I rx rv ⟨d, ds, S, F, Qd, rel, rd, rds, hq, kv⟩
  match d, ds, hq with
  | .ref a, [.int i, e], hq =>
    simp only [mthR] at hq
    split at hq
    case h_1 l hl =>
      obtain ⟨ws, h1, h2⟩ := rel.lst hl
      obtain ⟨w1, w2, e1, r1, r2⟩ := rds.two
      obtain ⟨x1, x2⟩ := rel.setLst hl h1 (((h2.take i.toNat).append (.cons r2 .nil)).append (h2.drop i.toNat))
      exact mt_insert pins s σ H x vs v us Q I rx rv ⟨a, ws, i, w2, rd.refi, by rw [e1, r1.inti], h1, by rw [h2.length]; exact hq.1, hq.2.1, hq.2.2.1, kv _ _ _ _ hq.2.2.2 x1 x2 .non⟩
    case h_2 => exact hq.elim
theorem list_extend_tuple (l : Addr) (items : Array Value) (n : Nat) (b : Addr) (items2 : Array Value) (n2 : Nat) (dd : Option Addr) (sl : Array (Option Value)) (hs0 : ¬(!items.isEmpty && Builtin.List.listTooLong (items.size + items2.size)) = true) (hs1 : items.size ≤ sizeLine) (hs2 : items.size + items2.size ≤ sizeLine + 1) :
    Meets (Builtin.«list.extend» ⟨[.ref l, .ref b], []⟩) (fun _ R s => s.heap.get? l = some { cls := .type "list", dict := none, data := .seq items n, slots := #[] } ∧ s.heap.get? b = some { cls := .type "tuple", dict := dd, data := .seq items2 n2, slots := sl } ∧ R (.ok (.ret Value.none)) { s with heap := s.heap.update l (Obj.mapSeq fun x => x ++ items2), toks := s.toks }) :=
  .of_wp fun prog w A R s h => by
    obtain ⟨hp, g, d, tk, os⟩ := s; obtain ⟨hl, hb, h⟩ := h; have f1 := AutoSeq1.idx_int; have f2 := AutoSeq1.sub_tuple_tuple; have f3 := AutoSeq1.sub_list_list; have f4 := AutoSeq1.sub_tuple_list; have f5 := AutoSeq1.sub_list_tuple
    have hz' : (items ++ items2).size ≤ sizeLine + 1 := by rw [Array.size_append]; exact hs2
    wp_walk using (wpAny_updateSeq hl rfl (hz := hs1) (_hz' := hz')), wpAny_loadPart' hl, wpAny_loadPart' hb; exact ⟨_, rfl, h⟩
theorem mt_extendT : MtM X "list.extend" (fun x vs H Q => ∃ l b xs zs, x = .ref l ∧ vs = [.ref b] ∧ H l = some (.lst xs) ∧ SqT X.K H b zs ∧ xs.length + zs.length ≤ sizeLine ∧ Q .non (L2.upd H l (.lst (xs ++ zs)))) := by
  intro pins s σ H x vs v us Q I rx rv h
  obtain ⟨l, b, xs, zs, rfl, rfl, hH, hB, hz, q⟩ := h
  cases rx
  obtain ⟨u, rfl, ru⟩ := rv.one
  cases ru
  obtain ⟨z, its, n, r, hl, e⟩ := I.lstM hH
  obtain ⟨its2, r2, ⟨⟨cls, dd, data, sl⟩, ho, hc, n2, hd⟩, hs⟩ := I.tuple hB
  simp only at hc hd
  subst hc hd
  have hl2 := r2.length
  have hsz : its.toArray.size + its2.toArray.size ≤ sizeLine := by rw [List.size_toArray, List.size_toArray]; omega
  have hlong : ¬ (!its.toArray.isEmpty && Builtin.List.listTooLong (its.toArray.size + its2.toArray.size)) = true := by
    rw [notLongL hsz, Bool.and_false]
    exact Bool.false_ne_true
  refine call_meets F.slot_list_extend ⟨_, e, rfl⟩ F.entry_list_extend (F.args_list_extend_2 _ _)
    (list_extend_tuple l its.toArray n b its2.toArray n2 dd sl hlong (by rw [List.size_toArray]; omega) (by omega)) ⟨e, ho, ?_⟩
  refine ⟨.non, _, I.lset (its' := its ++ its2) hH e (by simp) (r.append r2) ?_, rfl, q⟩
  rw [List.length_append]
  omega
theorem extend_sound : MtR X "list.extend" (LM X.K .extend) := by
  intro pins s σ H x vs v us Q I rx rv ⟨d, ds, S, F, Qd, rel, rd, rds, hq, kv⟩
  match d, ds, hq with
  | .ref a, [.ref b], hq =>
    simp only [mthR] at hq
    split at hq
    case h_1 l m hl hm =>
      obtain ⟨ws, h1, h2⟩ := rel.lst hl
      obtain ⟨zs, h3, h4⟩ := rel.lst hm
      obtain ⟨w, e1, r1⟩ := rds.one
      obtain ⟨x1, x2⟩ := rel.setLst hl h1 (h2.append h4)
      exact mt_extend pins s σ H x vs v us Q I rx rv ⟨a, b, ws, zs, rd.refi, by rw [e1, r1.refi], h1, h3, by rw [h2.length, h4.length]; exact hq.1, kv _ _ _ _ hq.2 x1 x2 .non⟩
    case h_2 => exact hq.elim
  | .ref a, [.tup m], hq =>
    simp only [mthR] at hq
    split at hq
    case h_1 l hl =>
      obtain ⟨ws, h1, h2⟩ := rel.lst hl
      obtain ⟨w, e1, r1⟩ := rds.one
      obtain ⟨b, zs, e2, h3, h4⟩ := r1.tupi
      obtain ⟨x1, x2⟩ := rel.setLst hl h1 (h2.append h4)
      exact mt_extendT pins s σ H x vs v us Q I rx rv ⟨a, b, ws, zs, rd.refi, by rw [e1, e2], h1, h3, by rw [h2.length, h4.length]; exact hq.1, kv _ _ _ _ hq.2 x1 x2 .non⟩
    case h_2 => exact hq.elim
theorem pop_sound : MtR X "list.pop" (LM X.K .pop) := by
  intro pins s σ H x vs v us Q I rx rv ⟨d, ds, S, F, Qd, rel, rd, rds, hq, kv⟩
  match d, ds, hq with
  | .ref a, [], hq =>
    simp only [mthR] at hq
    split at hq
    case h_1 l hl =>
      split at hq
      case h_1 w hw =>
        obtain ⟨ws, h1, h2⟩ := rel.lst hl
        rw [RDs] at rds
        obtain ⟨z, hz, rz⟩ := h2.get hw
        rw [← h2.length] at hz
        obtain ⟨x1, x2⟩ := rel.setLst hl h1 (m := l.dropLast) (ws := ws.dropLast) (by rw [List.dropLast_eq_take, List.dropLast_eq_take, h2.length]; exact h2.take _)
        exact mt_pop pins s σ H x vs v us Q I rx rv ⟨a, ws, z, rd.refi, rds, h1, hz, kv _ _ _ _ hq x1 x2 (rz.ext x1)⟩
      case h_2 => exact hq.elim
    case h_2 => exact hq.elim
theorem get_sound {k : Nat} (hr : Room k X.A) : MtR X "dict.get" (LM X.K .get) := by
  intro pins s σ H x vs v us Q I rx rv ⟨d, ds, S, F, Qd, rel, rd, rds, hq, kv⟩
  match d, ds, hq with
  | .ref a, [k, e], hq =>
    simp only [mthR] at hq
    split at hq
    case h_1 kvs hl =>
      obtain ⟨f1, hq⟩ := hq
      obtain ⟨ws, h1, h2⟩ := rel.dct hl
      obtain ⟨k', hk⟩ := Option.isSome_iff_exists.mp (show (keyD k).isSome = true from f1)
      obtain ⟨y, z, e1, r1, r2⟩ := rds.two
      subst e1
      obtain ⟨u1, u2, rfl, ru1, ru2⟩ := rv.two
      have ex := rd.refi
      subst ex
      obtain rfl : v = Value.ref a := rx
      have ey := keyD_kV hk r1
      subst ey
      refine d_get2 (hu_of hr) I (DGet.k h1) ru1 ru2 fun w' s' I' r' => ⟨_, H, I', r', ?_⟩
      refine kv _ _ _ _ hq .refl rel ?_
      have q := RK.get hk h2
      cases e : dget kvs k with
      | none => rw [q.2 e]; exact r2
      | some d' =>
        obtain ⟨v', e', r'⟩ := q.1 d' e
        rw [e']; exact r'
    case h_2 => exact hq.elim
end Mi
namespace Mi
open PySem PySem.Spec PyProof.Rows L2
variable {X : Cx}
theorem ins_perm (a : Int) : ∀ l, (ins a l).Perm (a :: l)
  | [] => .refl _
  | b :: l => by
    unfold ins
    split
    · exact .refl _
    · exact ((ins_perm a l).cons b).trans (.swap a b l)
theorem srt_perm : ∀ l, (srt l).Perm l
  | [] => .refl _
  | a :: l => (ins_perm a (srt l)).trans ((srt_perm l).cons a)
theorem ins_sorted (a : Int) : ∀ l : List Int, l.Pairwise (· ≤ ·) → (ins a l).Pairwise (· ≤ ·)
  | [], _ => .cons (fun _ h => nomatch h) .nil
  | b :: l, h => by
    unfold ins
    cases h with
    | cons h1 h2 =>
      split
      · rename_i hab
        refine .cons (fun c hc => ?_) (.cons h1 h2)
        rcases List.mem_cons.mp hc with e | hc
        · rw [e]; exact hab
        · exact Int.le_trans hab (h1 c hc)
      · rename_i hab
        refine .cons (fun c hc => ?_) (ins_sorted a l h2)
        rcases List.mem_cons.mp ((ins_perm a l).mem_iff.mp hc) with e | hc
        · rw [e]; omega
        · exact h1 c hc
theorem srt_sorted : ∀ l : List Int, (srt l).Pairwise (· ≤ ·)
  | [] => .nil
  | a :: l => ins_sorted a _ (srt_sorted l)
theorem srt_unique {l m : List Int} (p : m.Perm l) (s : m.Pairwise (· ≤ ·)) : m = srt l := List.Perm.eq_of_pairwise (fun x y _ _ h1 h2 => Int.le_antisymm h1 h2) s (srt_sorted l) (p.trans (srt_perm l).symm)
def LC (K : PySem.W.Frag) (w : List D → Sto → KD → Prop) : List V → Hp → VK → Prop := fun vs H Q => ∃ ds S F Qd, Rel K S F H ∧ RDs K H ds vs ∧ w ds S Qd ∧ KV K F H Qd Q
section
variable {K : PySem.W.Frag} {H : Hp}
theorem asInts_of : ∀ {l : List D} {ns : List Int}, asInts l = some ns → l = ns.map D.int
  | [], ns, h => by simp only [asInts, Option.some.injEq] at h; subst h; rfl
  | .int i :: l, ns, h => by
    simp only [asInts, Option.map_eq_some_iff] at h
    obtain ⟨m, h1, h2⟩ := h
    subst h2
    rw [List.map_cons, ← asInts_of h1]
  | .non :: l, _, h => by simp [asInts] at h
  | .bl _ :: l, _, h => by simp [asInts] at h
  | .str _ :: l, _, h => by simp [asInts] at h
  | .tup _ :: l, _, h => by simp [asInts] at h
  | .ref _ :: l, _, h => by simp [asInts] at h
theorem asBls_of : ∀ {l : List D} {ns : List Bool}, asBls l = some ns → l = ns.map D.bl
  | [], ns, h => by simp only [asBls, Option.some.injEq] at h; subst h; rfl
  | .bl i :: l, ns, h => by
    simp only [asBls, Option.map_eq_some_iff] at h
    obtain ⟨m, h1, h2⟩ := h
    subst h2
    rw [List.map_cons, ← asBls_of h1]
  | .non :: l, _, h => by simp [asBls] at h
  | .int _ :: l, _, h => by simp [asBls] at h
  | .str _ :: l, _, h => by simp [asBls] at h
  | .tup _ :: l, _, h => by simp [asBls] at h
  | .ref _ :: l, _, h => by simp [asBls] at h
theorem RDs.ints : ∀ {ns : List Int} {vs : List V}, RDs K H (ns.map D.int) vs → vs = ns.map V.int
  | [], vs, h => by rw [List.map_nil, RDs] at h; rw [h]; rfl
  | n :: ns, vs, h => by
    rw [List.map_cons, RDs] at h
    obtain ⟨v, r, e, h1, h2⟩ := h
    rw [e, h1.inti, RDs.ints h2]; rfl
theorem RDs.bls : ∀ {ns : List Bool} {vs : List V}, RDs K H (ns.map D.bl) vs → vs = ns.map V.bl
  | [], vs, h => by rw [List.map_nil, RDs] at h; rw [h]; rfl
  | n :: ns, vs, h => by
    rw [List.map_cons, RDs] at h
    obtain ⟨v, r, e, h1, h2⟩ := h
    rw [e, h1.bli, RDs.bls h2]; rfl
theorem RDs.ofInts : ∀ ns : List Int, RDs K H (ns.map D.int) (ns.map V.int)
  | [] => .nil
  | n :: ns => .cons .int (RDs.ofInts ns)
theorem bll_ints {b : Bl} {l : List D} {vs : List V} {ns : List Int} (h : asInts l = some ns) (r : RDs K H l vs) : vs = ns.map V.int := by
  have e := asInts_of h
  subst e
  exact r.ints
theorem RK.keysI : ∀ {kvs : List (D × D)} {ws : List (Key × V)} {ns : List Int}, RK K H kvs ws → kvs.map (·.1) = ns.map D.int → ws.map (·.1) = ns.map Sum.inl
  | [], ws, ns, h, e => by
    rw [RK] at h; subst h
    cases ns with
    | nil => rfl
    | cons n ns => simp at e
  | (k, d) :: l, ws, ns, h, e => by
    rw [RK] at h
    obtain ⟨k', v, r, e1, hk, h1, h2⟩ := h
    subst e1
    cases ns with
    | nil => simp at e
    | cons n ns =>
      simp only [List.map_cons, List.cons.injEq] at e ⊢
      obtain ⟨e2, e3⟩ := e
      subst e2
      simp only [keyD, Option.some.injEq] at hk
      exact ⟨hk.symm, RK.keysI h2 e3⟩
end
def blV : Bl → Value
  | .len => .builtin "len" | .abs => .builtin "abs" | .max => .builtin "max" | .min => .builtin "min" | .sum => .builtin "sum" | .all => .builtin "all" | .any => .builtin "any"
  | .int => .type "int" | .str => .type "str" | .tuple => .type "tuple" | .list => .type "list" | .dict => .type "dict" | .sorted => .builtin "sorted" | .gcd => .builtin "math.gcd" | .lcm => .builtin "math.lcm"
theorem bll_sound (hc : X.calm = true) (b : Bl) : CallR X (blV b) (fun vs H Q => ∃ a l ws S F Qd, vs = [.ref a] ∧ Rel X.K S F H ∧ H a = some (.lst ws) ∧ RDs X.K H l ws ∧ bllR b l S Qd ∧ KV X.K F H Qd Q) := by
  intro pins s σ H vs us Q I rv ⟨a, l, ws, S, F, Qd, ev, rel, hH, hl, hq, kv⟩
  subst ev
  cases b <;> simp only [bllR] at hq
  case len => exact call_len_seq pins s σ H _ us Q I rv ⟨a, ws, rfl, .inl (.of hH), by rw [hl.length]; exact kv _ _ _ _ hq .refl rel .int⟩
  case tuple => exact call_tupleF pins s σ H _ us Q I rv ⟨a, ws, rfl, .of hH, fun p o hp ho => kv _ _ _ _ hq (.new hp) (rel.tup hp) (.tupNew hp ho hl)⟩
  case all =>
    split at hq
    case h_1 bs hb =>
      have e := asBls_of hb
      subst e
      exact cr_all hc pins s σ H _ us Q I rv ⟨a, bs, rfl, .of (by rw [hH, hl.bls]), kv _ _ _ _ hq .refl rel .bl⟩
    case h_2 => exact hq.elim
  case any =>
    split at hq
    case h_1 bs hb =>
      have e := asBls_of hb
      subst e
      exact cr_any hc pins s σ H _ us Q I rv ⟨a, bs, rfl, .of (by rw [hH, hl.bls]), kv _ _ _ _ hq .refl rel .bl⟩
    case h_2 => exact hq.elim
  case sum =>
    split at hq
    case h_1 ns hb =>
      have e := asInts_of hb
      subst e
      exact cr_sum hc pins s σ H _ us Q I rv ⟨a, ns, rfl, .of (by rw [hH, hl.ints]), kv _ _ _ _ hq .refl rel .int⟩
    case h_2 => exact hq.elim
  case max =>
    split at hq
    case h_1 ns hb =>
      have e := asInts_of hb
      subst e
      exact cr_max hc pins s σ H _ us Q I rv ⟨a, ns, rfl, .of (by rw [hH, hl.ints]), hq.1, fun m h1 h2 => kv _ _ _ _ (hq.2 m h1 h2) .refl rel .int⟩
    case h_2 => exact hq.elim
  case min =>
    split at hq
    case h_1 ns hb =>
      have e := asInts_of hb
      subst e
      exact cr_min hc pins s σ H _ us Q I rv ⟨a, ns, rfl, .of (by rw [hH, hl.ints]), hq.1, fun m h1 h2 => kv _ _ _ _ (hq.2 m h1 h2) .refl rel .int⟩
    case h_2 => exact hq.elim
  case sorted =>
    split at hq
    case h_1 ns hb =>
      have e := asInts_of hb
      subst e
      refine cr_sorted pins s σ H _ us Q I rv ⟨a, ns, rfl, .of (by rw [hH, hl.ints]), hq.1, fun ns' p h1 h2 hp => ?_⟩
      rw [srt_unique h1 h2]
      exact kv _ _ _ _ (hq.2 p (rel.free hp)) (.new hp) (rel.newLst hp (RDs.ofInts _)) .ref
    case h_2 => exact hq.elim
theorem RDs.pairs {K : PySem.W.Frag} {H : Hp} : ∀ {l : List D} {kvs : List (D × D)} {vs : List V}, asPairs l = some kvs → kvs.all (fun kv => (keyD kv.1).isSome) = true → RDs K H l vs →
    ∃ (ps : List Addr) (ws : List (Key × V)), vs = ps.map V.ref ∧ RK K H kvs ws ∧ Paired (fun p kv => TupK K H p [kV kv.1, kv.2]) ps ws
  | [], kvs, vs, h, _, r => by
    simp only [asPairs, Option.some.injEq] at h
    subst h
    rw [RDs] at r
    exact ⟨[], [], r, by rw [RK], .nil⟩
  | .tup [k, v] :: l, kvs, vs, h, hk, r => by
    simp only [asPairs, Option.map_eq_some_iff] at h
    obtain ⟨m, h1, h2⟩ := h
    subst h2
    rw [List.all_cons, Bool.and_eq_true] at hk
    rw [RDs] at r
    obtain ⟨w, r', e, r1, r2⟩ := r
    obtain ⟨a, xs, ea, ht, hx⟩ := r1.tupk
    obtain ⟨x, y, ex, q1, q2⟩ := hx.two
    obtain ⟨ps, ws, e1, e2, e3⟩ := RDs.pairs h1 hk.2 r2
    obtain ⟨k', hk'⟩ := Option.isSome_iff_exists.mp hk.1
    have := keyD_kV hk' q1
    subst this ex e ea e1
    refine ⟨a :: ps, (k', y) :: ws, rfl, ?_, .cons ht e3⟩
    rw [RK]
    exact ⟨k', y, ws, rfl, hk', q2, e2⟩
  | .tup [] :: l, _, _, h, _, _ => by simp [asPairs] at h
  | .tup [_] :: l, _, _, h, _, _ => by simp [asPairs] at h
  | .tup (_ :: _ :: _ :: _) :: l, _, _, h, _, _ => by simp [asPairs] at h
  | .non :: l, _, _, h, _, _ => by simp [asPairs] at h
  | .bl _ :: l, _, _, h, _, _ => by simp [asPairs] at h
  | .int _ :: l, _, _, h, _, _ => by simp [asPairs] at h
  | .str _ :: l, _, _, h, _, _ => by simp [asPairs] at h
  | .ref _ :: l, _, _, h, _, _ => by simp [asPairs] at h
theorem RK.merge {K : PySem.W.Frag} {H : Hp} : ∀ {ms : List (D × D)} {ws : List (Key × V)} {kvs : List (D × D)} {xs : List (Key × V)}, RK K H ms ws → RK K H kvs xs → RK K H (dmerge kvs ms) (mergeK xs ws)
  | [], ws, kvs, xs, h, g => by rw [RK] at h; subst h; exact g
  | (k, d) :: l, ws, kvs, xs, h, g => by
    rw [RK] at h
    obtain ⟨k', v, r, e1, hk, h1, h2⟩ := h
    subst e1
    show RK K H (dmerge (dput kvs k d) l) (mergeK (putK xs k' v) r)
    exact RK.merge h2 (RK.put hk h1 g)
theorem tupK_plain {pins : List (Addr × Obj)} {s : Shared} {σ : L2.St} {H : Hp} {a : Addr} {xs : List V} (I : L2.Inv X pins σ H s) (h : TupK X.K H a xs) : ∃ (o : Obj) (its : List Value) (n : Nat), Vals xs its ∧ s.heap.get? a = some o ∧ o.cls = .type "tuple" ∧ o.dict = none ∧ o.data = .seq its.toArray n ∧ xs.length ≤ sizeLine := by
  rcases h with ⟨o, h, d⟩ | ⟨o, its, n, hk, hc, hd, ho, hz, r⟩
  · obtain ⟨e, z, its, r, o', e', c, n, dt⟩ := I.hok a _ h
    rw [e] at e'; cases e'
    exact ⟨o, its, n, r, e, c, d, dt, z⟩
  · refine ⟨o, its.toList, n, r, I.kIn a o hk, hc, hd, by simpa using ho, ?_⟩
    have e := r.length
    simp only [Array.length_toList] at e
    omega
theorem pairsV {pins : List (Addr × Obj)} {σ : L2.St} {H : Hp} {s : Shared} (I : L2.Inv X pins σ H s) : ∀ {ps : List Addr} {kvs : List (Key × V)}, Paired (fun p kv => SqT X.K H p [kV kv.1, kv.2]) ps kvs →
    ∃ (zs : List (Value × Value)) (prs : List (Key × Value)), zs.length = ps.length ∧ L2.KV kvs prs ∧ prs.length = ps.length ∧ ∀ (j : Nat) (u y : Value), zs[j]? = some (u, y) → ∃ (b : Addr) (q : Key × Value), ps[j]? = some b ∧ prs[j]? = some q ∧ q.2 = y ∧ IsTup s.heap b #[u, y] ∧ keyIs q.1 u = true
  | _, _, .nil => ⟨[], [], rfl, .nil, rfl, fun j u y e => by simp at e⟩
  | _, _, .cons (a := p) (b := kv) h t => by
    obtain ⟨zs, prs, hz, r, hl, hp⟩ := pairsV I t
    obtain ⟨its, rv, ht, _⟩ := I.tuple h
    obtain ⟨u, y, ei, ru, ry⟩ := vals2 rv
    subst ei
    refine ⟨(u, y) :: zs, (kv.1, y) :: prs, by rw [List.length_cons, List.length_cons, hz], .cons ⟨rfl, ry⟩ r, by rw [List.length_cons, List.length_cons, hl], fun j u' y' e => ?_⟩
    cases j with
    | zero =>
      have e' : (u, y) = (u', y') := Option.some.inj e
      cases e'
      exact ⟨p, (kv.1, y), rfl, rfl, rfl, ht, kV_is (P := X.prog) (w := X.w) ru⟩
    | succ j =>
      obtain ⟨b, q, e1, e2, e3, e4, e5⟩ := hp j u' y' (by simpa using e)
      exact ⟨b, q, by simpa using e1, by simpa using e2, e3, e4, e5⟩
theorem call_dictT (hcalm : X.calm = true) : CallR X (.type "dict") (fun xs H Q => ∃ (a : Addr) (ps : List Addr) (kvs : List (Key × V)), xs = [.ref a] ∧ TupK X.K H a (ps.map V.ref) ∧ Paired (fun p kv => TupK X.K H p [kV kv.1, kv.2]) ps kvs ∧
    ∀ p, H p = none → Q (.ref p) (L2.upd H p (.dK (mergeK [] kvs)))) := by
  intro pins s σ H xs us Q I r q
  obtain ⟨a, ps, kvs, ex, hq, hp, q⟩ := q
  subst ex
  obtain ⟨u, eu, rx⟩ := vals1 r
  subst eu
  cases rx
  obtain ⟨o, its, n, rv, ho, hcl, hdi, hda, hz⟩ := tupK_plain I hq
  have ei := refs_at rv
  subst ei
  rw [List.length_map] at hz
  obtain ⟨zs, prs, hzl, rel, hl, hpr⟩ := pairsV I (Paired.mapP hp fun _ _ h => h.sq)
  have hsz : prs.length ≤ sizeLine := by rw [hl]; exact hz
  have ok : PlainSeq "tuple" s.heap a (ps.map Value.ref).toArray ∧ PairItems s.heap (ps.map Value.ref).toArray (fun j => ps.getD j 0) zs := by
    refine ⟨⟨o, n, ho, hcl, hdi, hda⟩, by simp [hzl], fun j k v hj => ?_⟩
    obtain ⟨b, q, e1, e2, e3, e4, e5⟩ := hpr j k v hj
    have e1' : ps.getD j 0 = b := by rw [List.getD_eq_getElem?_getD, e1]; rfl
    refine ⟨by simp [e1], ?_⟩
    show PairAt s.heap (ps.getD j 0) k v
    rw [e1', ← e3]
    exact .inl (by rw [e3]; exact e4)
  have P := PairArg.tuple (prog := X.prog) (w := X.w) a (ps.map Value.ref).toArray (fun j => ps.getD j 0) zs
  have hc : PairsHave (mixKind X.prog X.w) zs.length (PairRel zs) prs := by
    refine ⟨by rw [hl, hzl], fun i key v hi => ?_⟩
    obtain ⟨b, q, e1, e2, e3, e4, e5⟩ := hpr i key v hi
    exact ⟨q.1, by rw [e2, ← e3], e5⟩
  refine PySem.call_dict_pairs (knd := mixKind X.prog X.w) (kvs := prs) P (I.ok.hd hcalm) ok hc (by rw [hzl]; exact hz) fun h' tk hd' k => ?_
  have hm : (s.heap.objs.size == sysModules) = false := beq_eq_false_iff_ne.mpr (Nat.ne_of_gt I.big)
  have hlen : (mergeK [] kvs).length ≤ sizeLine := by
    refine Nat.le_trans (length_mergeK kvs []) ?_
    rw [List.length_nil, Nat.zero_add, rel.length]
    exact hsz
  exact ⟨.ref s.heap.objs.size, L2.upd H s.heap.objs.size (.dK (mergeK [] kvs)), I.laid (t' := tk) (fun b u e => k b u (by simp) e) (Nat.le_refl _) (show ObjOk X.prog X.w _ _ _ (.dK (mergeK [] kvs)) from ⟨hlen, hm, merged [] prs, KV.merge rel .nil, hd'⟩), rfl, q _ (I.hok.fresh (Nat.le_refl _))⟩
def rLcm : List V → Hp → VK → Prop := fun vs H Q => ∃ a b : Int, vs = [.int a, .int b] ∧ a.natAbs < 2 ^ 64 ∧ b.natAbs < 2 ^ 64 ∧ Q (.int ((Nat.lcm a.natAbs b.natAbs : Nat) : Int)) H
theorem cr_lcm : CallR X (.builtin "math.lcm") rLcm := by
  intro pins s σ H vs us Q I r h
  obtain ⟨a, b, rfl, ha, hb, q⟩ := h
  obtain ⟨t, u, rfl⟩ := Vals.int2 r
  exact PySem.W.mc_lcm ha hb fun _ => ⟨.int _, H, I.tok _, ⟨_, rfl⟩, q⟩
theorem reads_ints {h : Heap} : ∀ {ns : List Int} {us : List Value}, Vals (ns.map V.int) us → ∃ as, ReadsAll h us (ns.map PyData.int) as
  | [], _, r => by cases r; exact ⟨_, .nil⟩
  | n :: ns, _, r => by
    cases r with
    | cons r1 r2 =>
      obtain ⟨t, rfl⟩ := r1
      obtain ⟨as, h2⟩ := reads_ints r2
      exact ⟨_, .cons (.int n t) h2⟩
theorem alike_ints (ns : List Int) : PySem.W.AlikeAll (ns.map PyData.int) := by
  refine ⟨fun x hx y hy => ?_, fun x hx => ?_⟩
  · obtain ⟨i, _, rfl⟩ := List.mem_map.mp hx
    obtain ⟨j, _, rfl⟩ := List.mem_map.mp hy
    rfl
  · obtain ⟨i, _, rfl⟩ := List.mem_map.mp hx
    exact fun z => nomatch z
theorem foldl_max : ∀ (ns : List Int) (n : Int), (ns.foldl max n = n ∨ ns.foldl max n ∈ ns) ∧ n ≤ ns.foldl max n ∧ ∀ y ∈ ns, y ≤ ns.foldl max n
  | [], n => ⟨.inl rfl, Int.le_refl _, fun _ h => by cases h⟩
  | m :: ns, n => by
    obtain ⟨h1, h2, h3⟩ := foldl_max ns (max n m)
    rw [List.foldl_cons]
    refine ⟨?_, by omega, fun y hy => ?_⟩
    · rcases h1 with h1 | h1
      · rw [h1]
        by_cases q : n < m
        · right; rw [show max n m = m by omega]; exact List.mem_cons_self
        · left; omega
      · exact .inr (List.mem_cons_of_mem _ h1)
    · rcases List.mem_cons.mp hy with rfl | hy
      · omega
      · exact h3 y hy
def rMaxT (K : PySem.W.Frag) : List V → Hp → VK → Prop := fun vs H Q => ∃ (a : Addr) (ns : List Int), vs = [V.ref a] ∧ SqT K H a (ns.map V.int) ∧ 0 < ns.length ∧ ∀ m, m ∈ ns → (∀ y, y ∈ ns → y ≤ m) → Q (.int m) H
theorem cr_maxT {k : Nat} (hc : X.calm = true) (hr : Room k X.A) : CallR X (.builtin "max") (rMaxT X.K) := by
  intro pins s σ H vs us Q I r h
  obtain ⟨a, ns, rfl, hs, hne, q⟩ := h
  obtain ⟨its, rv, p, hz⟩ := I.tuple hs
  rw [Vals.ref1 r]
  cases ns with
  | nil => exact absurd hne (by decide)
  | cons n ns =>
    obtain ⟨as, ra⟩ := reads_ints (h := s.heap) rv
    refine PySem.W.max_tuple_data (x := .int n) (xs := ns.map .int) (I.ok.hd hc) (show s.heap.IsTuple a its.toArray from p) (by simpa using ra) (alike_ints (n :: ns)) (by rw [show PyData.int n :: ns.map PyData.int = (n :: ns).map PyData.int from rfl, PySem.W.ke_depthAll]; exact hu_of hr) fun i v h' tk bs hv hrd hk => ?_
    rw [PySem.W.maxD_ints] at hrd
    obtain ⟨h1, h2, h3⟩ := foldl_max ns n
    cases hrd with
    | int j t =>
      refine ⟨.int _, H, I.kept (t' := tk) hk, ⟨t, rfl⟩, q _ ?_ fun y hy => ?_⟩
      · rcases h1 with h1 | h1
        · rw [h1]; exact List.mem_cons_self
        · exact List.mem_cons_of_mem _ h1
      · rcases List.mem_cons.mp hy with rfl | hy
        · exact h2
        · exact h3 y hy
theorem blt_sound {k : Nat} (hc : X.calm = true) (hroom : Room k X.A) : ∀ b : Bl, CallR X (blV b) (LC X.K (bltR b)) := by
  intro b pins s σ H vs us Q I rv ⟨ds, S, F, Qd, rel, rds, hq, kv⟩
  match ds, rds, hq with
  | [.tup l], rds, hq =>
    obtain ⟨v, e, r⟩ := rds.one
    obtain ⟨a, ws, ea, ha, hl⟩ := r.tupk
    subst e ea
    cases b <;> simp only [bltR] at hq
    case len => exact call_len_seq pins s σ H _ us Q I rv ⟨a, ws, rfl, .inr ha.sq, by rw [hl.length]; exact kv _ _ _ _ hq .refl rel .int⟩
    case tuple => exact call_tupleT pins s σ H _ us Q I rv ⟨a, ws, rfl, ha.sq, kv _ _ _ _ hq .refl rel (.tup ha hl)⟩
    case list => exact call_list_of pins s σ H _ us Q I rv ⟨a, ws, rfl, .inr ha.sq, fun p hp => kv _ _ _ _ (hq p (rel.free hp)) (.new hp) (rel.newLst hp hl) .ref⟩
    case max =>
      simp only [bllR] at hq
      split at hq
      case h_1 ns hb =>
        have e := asInts_of hb
        subst e
        exact cr_maxT hc hroom pins s σ H _ us Q I rv ⟨a, ns, rfl, by rw [← hl.ints]; exact ha.sq, hq.1, fun m h1 h2 => kv _ _ _ _ (hq.2 m h1 h2) .refl rel .int⟩
      case h_2 => exact hq.elim
    case dict =>
      split at hq
      case h_1 kvs hk =>
        obtain ⟨h1, hq⟩ := hq
        obtain ⟨ps, zs, e1, e2, e3⟩ := RDs.pairs hk h1 hl
        subst e1
        refine call_dictT hc pins s σ H _ us Q I rv ⟨a, ps, zs, rfl, ha, e3, fun p hp => ?_⟩
        have e4 : RK X.K H (dmerge [] kvs) (mergeK [] zs) := RK.merge e2 (by rw [RK])
        exact kv _ _ _ _ (hq p (rel.free hp)) (.new hp) (rel.new hp ⟨_, upd_same, e4.ext (.new hp)⟩) .ref
      case h_2 => exact hq.elim
  | [.rl l], rds, hq =>
    obtain ⟨v, e, r⟩ := rds.one
    obtain ⟨a, ws, ea, ha, hl⟩ := r.rli
    subst e ea
    cases b <;> simp only [bltR] at hq
    case len => exact call_len_seq pins s σ H _ us Q I rv ⟨a, ws, rfl, .inl ha.sq, by rw [hl.length]; exact kv _ _ _ _ hq .refl rel .int⟩
    case list => exact call_list_of pins s σ H _ us Q I rv ⟨a, ws, rfl, .inl ha.sq, fun p hp => kv _ _ _ _ (hq p (rel.free hp)) (.new hp) (rel.newLst hp hl) .ref⟩
  | .rl _ :: _ :: _, _, hq => cases b <;> exact (show False from hq).elim
  | .int _ :: .rl _ :: _, _, hq => cases b <;> exact (show False from hq).elim
  | [.str t], rds, hq =>
    obtain ⟨v, e, r⟩ := rds.one
    obtain ⟨ev, ok⟩ := r.stri
    subst e ev
    cases b <;> simp only [bltR] at hq
    case len => exact call_len_str pins s σ H _ us Q I rv ⟨t, rfl, hq.1, kv _ _ _ _ hq.2 .refl rel .int⟩
  | [.int i], rds, hq =>
    obtain ⟨v, e, r⟩ := rds.one
    have ev := r.inti
    subst e ev
    cases b <;> simp only [bltR] at hq
    case abs => exact call_abs pins s σ H _ us Q I rv ⟨i, rfl, kv _ _ _ _ hq .refl rel .int⟩
    case int => exact call_int1 pins s σ H _ us Q I rv (.inl ⟨i, rfl, kv _ _ _ _ hq .refl rel .int⟩)
  | [.bl i], rds, hq =>
    obtain ⟨v, e, r⟩ := rds.one
    have ev := r.bli
    subst e ev
    cases b <;> simp only [bltR] at hq
    case int => exact call_int1 pins s σ H _ us Q I rv (.inr ⟨i, rfl, by cases i <;> exact kv _ _ _ _ hq .refl rel .int⟩)
  | [.int i, .int j], rds, hq =>
    obtain ⟨v, w, e, r1, r2⟩ := rds.two
    have e1 := r1.inti
    have e2 := r2.inti
    subst e e1 e2
    cases b <;> simp only [bltR] at hq
    case max => exact call_max2 hc pins s σ H _ us Q I rv ⟨i, j, rfl, kv _ _ _ _ hq .refl rel .int⟩
    case min => exact call_min2 hc pins s σ H _ us Q I rv ⟨i, j, rfl, kv _ _ _ _ hq .refl rel .int⟩
    case gcd => exact cr_gcd pins s σ H _ us Q I rv ⟨i, j, rfl, kv _ _ _ _ hq .refl rel .int⟩
    case lcm => exact cr_lcm pins s σ H _ us Q I rv ⟨i, j, rfl, hq.1, hq.2.1, kv _ _ _ _ hq.2.2 .refl rel .int⟩
  | [.ref a], rds, hq =>
    obtain ⟨v, e, r⟩ := rds.one
    have ev := r.refi
    subst e ev
    by_cases hb : b = .sorted
    · subst hb
      simp only [bltR] at hq
      split at hq
      case h_1 l hl =>
        obtain ⟨ws, h1, h2⟩ := rel.lst hl
        exact bll_sound hc .sorted pins s σ H _ us Q I rv ⟨a, l, ws, S, F, Qd, rfl, rel, h1, h2, hq, kv⟩
      case h_2 kvs hl =>
        obtain ⟨ws, h1, h2⟩ := rel.dct hl
        simp only [bllR] at hq
        split at hq
        case h_1 ns hn =>
          refine call_sortedDI hc pins s σ H _ us Q I rv ⟨a, ws, ns, rfl, .inl h1, RK.keysI h2 (asInts_of hn), hq.1, fun ys p g1 g2 hp => ?_⟩
          rw [srt_unique g1 g2]
          exact kv _ _ _ _ (hq.2 p (rel.free hp)) (.new hp) (rel.newLst hp (RDs.ofInts _)) .ref
        case h_2 => exact hq.elim
      case h_3 => exact hq.elim
    · by_cases hb2 : b = .list
      · subst hb2
        simp only [bltR] at hq
        split at hq
        case h_1 l hl =>
          obtain ⟨ws, h1, h2⟩ := rel.lst hl
          exact call_list_of pins s σ H _ us Q I rv ⟨a, ws, rfl, .inl (.of h1), fun p hp => kv _ _ _ _ (hq p (rel.free hp)) (.new hp) (rel.newLst hp h2) .ref⟩
        case h_2 l hl =>
          obtain ⟨o, ws, h1, h2⟩ := rel.rls hl
          exact call_list_of pins s σ H _ us Q I rv ⟨a, ws, rfl, .inl (.inl (.inr ⟨o, h1⟩)), fun p hp => kv _ _ _ _ (hq p (rel.free hp)) (.new hp) (rel.newLst hp h2) .ref⟩
        case h_3 => exact hq.elim
      · by_cases hb3 : b = .dict
        · subst hb3
          simp only [bltR] at hq
          split at hq
          case h_2 => exact hq.elim
          case h_1 l hl =>
          obtain ⟨ws, h1, h2⟩ := rel.lst hl
          split at hq
          case h_1 kvs hk =>
            obtain ⟨h3, hq⟩ := hq
            obtain ⟨ps, zs, e1, e2, e3⟩ := RDs.pairs hk h3 h2
            subst e1
            refine call_dictP hc pins s σ H _ us Q I rv ⟨a, ps, zs, rfl, .of h1, Paired.mapP e3 fun _ _ h => h.sq, fun p hp => ?_⟩
            have e4 : RK X.K H (dmerge [] kvs) (mergeK [] zs) := RK.merge e2 (by rw [RK])
            exact kv _ _ _ _ (hq p (rel.free hp)) (.new hp) (rel.new hp ⟨_, upd_same, e4.ext (.new hp)⟩) .ref
          case h_2 => exact hq.elim
        have hq2 : (match S a with
          | some (.lst l) => bllR b l S Qd
          | some (.rls l) => b = .len ∧ Qd (.int l.length) S
          | _ => False) := by cases b <;> first | exact hq | exact absurd rfl hb | exact absurd rfl hb2 | exact absurd rfl hb3
        split at hq2
        case h_1 l hl =>
          obtain ⟨ws, h1, h2⟩ := rel.lst hl
          exact bll_sound hc b pins s σ H _ us Q I rv ⟨a, l, ws, S, F, Qd, rfl, rel, h1, h2, hq2, kv⟩
        case h_2 l hl =>
          obtain ⟨o, ws, h1, h2⟩ := rel.rls hl
          obtain ⟨eb, hq2⟩ := hq2
          subst eb
          exact call_len_seq pins s σ H _ us Q I rv ⟨a, ws, rfl, .inl (.inl (.inr ⟨o, h1⟩)), by rw [h2.length]; exact kv _ _ _ _ hq2 .refl rel .int⟩
        case h_3 => exact hq2.elim
  | [], _, hq => cases b <;> exact (show False from hq).elim
  | .non :: _, _, hq => cases b <;> exact (show False from hq).elim
  | .bl _ :: _ :: _, _, hq => cases b <;> exact (show False from hq).elim
  | .str _ :: _ :: _, _, hq => cases b <;> exact (show False from hq).elim
  | .tup _ :: _ :: _, _, hq => cases b <;> exact (show False from hq).elim
  | .ref _ :: _ :: _, _, hq => cases b <;> exact (show False from hq).elim
  | .int _ :: .non :: _, _, hq => cases b <;> exact (show False from hq).elim
  | .int _ :: .bl _ :: _, _, hq => cases b <;> exact (show False from hq).elim
  | .int _ :: .str _ :: _, _, hq => cases b <;> exact (show False from hq).elim
  | .int _ :: .tup _ :: _, _, hq => cases b <;> exact (show False from hq).elim
  | .int _ :: .ref _ :: _, _, hq => cases b <;> exact (show False from hq).elim
  | .int _ :: .int _ :: _ :: _, _, hq => cases b <;> exact (show False from hq).elim
theorem index_sound : MtR X "list.index" (LM X.K .index) := by
  intro pins s σ H x vs v us Q I rx rv ⟨d, ds, S, F, Qd, rel, rd, rds, hq, kv⟩
  match d, ds, hq with
  | .ref a, [.int y], hq =>
    simp only [mthR] at hq
    split at hq
    case h_1 l hl =>
      split at hq
      case h_1 ns hn =>
        have e := asInts_of hn
        subst e
        obtain ⟨j, h0, hno, hq⟩ := hq
        obtain ⟨ws, h1, h2⟩ := rel.lst hl
        obtain ⟨w, e1, r1⟩ := rds.one
        have ew := h2.ints
        subst ew
        refine mt_index pins s σ H x vs v us Q I rx rv ⟨a, ns.map V.int, .int y, j, .int y, rd.refi, by rw [e1, r1.inti], .of h1, rfl, List.all_eq_true.mpr fun z hz => ?_, ?_, ?_, ?_, kv _ _ _ _ hq .refl rel .int⟩
        · obtain ⟨i, _, rfl⟩ := List.mem_map.mp hz
          rfl
        · rw [List.getElem?_map, h0]; rfl
        · show decide (y = y) = true
          simp
        · intro m z hm hz
          rw [List.getElem?_map, Option.map_eq_some_iff] at hz
          obtain ⟨i, hi, rfl⟩ := hz
          have : i ≠ y := fun q => hno m hm (by rw [hi, q])
          show decide (i = y) = false
          simp [this]
      case h_2 => exact hq.elim
    case h_2 => exact hq.elim
end Mi
set_option maxHeartbeats 2000000
namespace Mi
open PySem PySem.Spec PyProof.Rows L2 NdefX
structure NfFacts (P : Program) (K : PySem.W.Frag) (mg : Str → Option Value) (C f : Addr) (F : NF) : Prop where
  T : OexC K C
  hno : PySem.W.findIn K (.ref C) "word" = some none
  lk : ∃ oc od doc pm ctv osl, K.lookup f = some ⟨oc, od, .func (F.fd doc pm ctv), osl⟩
  hcd : PySem.W.codeIn K (.ref F.c) F.qual = true
  cl : ∃ cc ccl ccd ccs, F.cl = [(("__class__" : Str), cc)] ∧ K.lookup cc = some ⟨ccl, ccd, .cell (some (.ref C)), ccs⟩
  code : ∃ vcl vcd vs vcs file tf, K.lookup F.c = some ⟨vcl, vcd, .fields vs, vcs⟩ ∧ vs[2]? = some (.str file tf) ∧ ((P.main.file : Str) == file) = true
  S : NScope ["self", "word", "__class__"] ["self", "word"] ["__class__"] F.scope
  sup : F.scope.names.lookup ("super" : Str) = some .globalImplicit
  htop : (P.main.scope.names.lookup ("super" : Str)).isSome = false
  mgs : mg "super" = none
  opq : PySem.W.nsIn K PySem.cStatics "thirdparty.any" = some none
  ini : PySem.W.ks_superIn K C C "__init__" = some (some (.builtin "ValueError.__init__"))
  subV : PySem.W.subIn K (.ref C) (.type "ValueError") = some true
  mroC : PySem.W.mroIn K C (.ref C) = some true
  body : ∃ (q1 q2 q3 q4 p0 p1 p2 p3 p4 p5 q5 q6 q7 : Pos) (j : Nat) (m : Str), F.body = [.Assign [.Attribute (.Name "self" q1) "word" q2] (.Name "word" q3) q4,
    .Expr (.Call (.Attribute (.Call (.Name "super" p0) [] [] p1) "__init__" p2) [.JoinedStr [.Constant (.str m) j q5, .FormattedValue (.Name "word" q6) (-1) none q7] p3] [] p4) p5] ∧ m.length ≤ 1000 ∧ ∃ pl : Sem Bool, ∀ env : Env, eval (.Call (.Attribute (.Call (.Name "super" p0) [] [] p1) "__init__" p2) [.JoinedStr [.Constant (.str m) j q5, .FormattedValue (.Name "word" q6) (-1) none q7] p3] [] p4) env = (do
      let ov ← attributeBase (.Call (.Name "super" p0) [] [] p1) "__init__" env (eval (.Call (.Name "super" p0) [] [] p1) env)
      standAt p2.atName
      let (f, first) ← holding [ov] (getMethod ov "__init__" pl)
      callWith p4 f first (backTo p4 (starEach [.JoinedStr [.Constant (.str m) j q5, .FormattedValue (.Name "word" q6) (-1) none q7] p3] env)) [])
  par : ∃ ar, (F.params.posonlyargs ++ F.params.args).head? = some ar ∧ ar.arg = ("self" : Str)
  bnd : ∀ (doc pm ctv : Value) (us : List Value), us.length = 2 → bindArgs (F.fd doc pm ctv) ⟨us, []⟩ = pure ((["self", "word"] : List Str).zip us)
theorem lookup1 {k y : Str} {c c' : Addr} (h : [(k, c)].lookup y = some c') : y = k ∧ c' = c := by
  rw [List.lookup_cons] at h
  cases e : y == k with
  | true => rw [e] at h; exact ⟨eq_of_beq e, (Option.some.inj h).symm⟩
  | false => rw [e] at h; cases h
def spNF (C : Addr) : Sp := fun vs H Q _ => ∃ (a : Addr) (z : Str), vs = [.ref a, .str z] ∧ z.length ≤ 1000000 ∧ H a = some (exo a C none) ∧ ∀ dx, H dx = none → dx ≠ a → Q .non (upd (upd H dx (exd dx [("word", .str z)])) a (exo a C (some dx)))
theorem fn_nf {P : Program} {w : World} {K : PySem.W.Frag} {mg : Str → Option Value} {base : Heap} {CX : CXT} {k : Nat} {C f : Addr} {F : NF} (N : NfFacts P K mg C f F) {oc : Value} {od : Option Addr} {doc pm ctv : Value} {osl : Array (Option Value)} (lk : K.lookup f = some ⟨oc, od, .func (F.fd doc pm ctv), osl⟩) :
    FnOk P w K mg base CX (k + 1) f (F.fd doc pm ctv) ["self", "word"] (spNF C) := by
  obtain ⟨cc, ccl, ccd, ccs, hcl, lkc⟩ := N.cl
  obtain ⟨vcl, vcd, cvs, vcs, file, tf, lkv, hvs, hfile⟩ := N.code
  obtain ⟨q1, q2, q3, q4, p0, p1, p2, p3, p4, p5, q5, q6, q7, j, m, hbody, hm, pl, heval⟩ := N.body
  obtain ⟨ar, hpar, harg⟩ := N.par
  refine ⟨fun vs H Q E h => by obtain ⟨a, z, rfl, _⟩ := h; rfl, fun A outer s H args us vs Q E hr e0 hb r hsp => ?_⟩
  obtain ⟨a, z, rfl, hz, ha, hQ⟩ := hsp
  have KX : K.In s.heap := e0.mod.kin.keeps fun b o e => (e0.bs b o e).1
  have lim : s.heap.NoLimit := e0.mod.nolimit.keeps fun b o e => (e0.bs b o e).1
  have bcc := e0.bs cc _ (e0.mod.kin _ _ lkc)
  have Cs : CellsAt F.cl ["__class__"] [some (.ref C)] s.heap H := by
    rw [hcl]
    refine ⟨rfl, fun y c e => ?_, fun x y c e1 e2 => ?_, fun i y e => ?_⟩
    · obtain ⟨_, rfl⟩ := lookup1 e
      exact ⟨bcc.2, _, _, bcc.1, rfl⟩
    · exact (lookup1 e1).1.trans (lookup1 e2).1.symm
    · cases i with
      | zero =>
        simp only [List.getElem?_cons_zero, Option.some.injEq] at e
        subst e
        exact ⟨cc, by simp, fun v ev => by
          simp only [List.getElem?_cons_zero, Option.some.injEq] at ev
          subst ev
          exact ⟨.ref C, rfl, _, bcc.1, rfl⟩⟩
      | succ i => simp at e
  refine PySem.ks_codeAny_call_defAt (fd := F.fd doc pm ctv) (body := F.body) hr.depth (KX _ _ lk) rfl lim (PySem.W.codeRec_of KX N.hcd) rfl hb N.S.nocell (fun x hx => N.S.par x.1 (List.of_mem_zip hx).1) (fun h₁ hns kp => ?_) N.S.co N.S.gen N.S.kind
  have I : L2.Inv (ncx CX P w K mg base ["self", "word", "__class__"] F f A outer s H E) [] (startF ["self", "word", "__class__"] [.ref a, .str z] [some (.ref C)]) H { s with heap := h₁, toks := s.toks + ((["self", "word"] : List Str).zip us).length } :=
    inv_startN N.S hr.hd e0 rfl r Cs hns kp
  rw [hbody]
  have kself : F.scope.names.lookup ("self" : Str) = some .local := N.S.par "self" (by simp)
  have kword : F.scope.names.lookup ("word" : Str) = some .local := N.S.par "word" (by simp)
  refine PySem.ks_wpAt_execs_cons (PySem.ks_wpAt_Assign_Attr (wpAt_of_wpAny (thn ((pe_var (X := ncx CX P w K mg base ["self", "word", "__class__"] F f A outer s H E) (i := 1) (x := "word") (pos := q3) rfl (.inl kword)).run [] _ _ H (fun x H' => x = .str z ∧ H' = H) I ⟨.str z, rfl, rfl, rfl⟩) fun u s1 ⟨x, H1, I1, r1, ex, eH⟩ => ?_)))
  subst ex eH
  refine thn ((pe_var (X := ncx CX P w K mg base ["self", "word", "__class__"] F f A outer s H1 E) (i := 0) (x := "self") (pos := q1) rfl (.inl kself)).run [] _ _ H1 (fun x H' => x = .ref a ∧ H' = H1) I1 ⟨.ref a, rfl, rfl, rfl⟩) fun u2 s2 ⟨x2, H2, I2, r2, ex2, eH2⟩ => ?_
  subst ex2 eH2
  obtain rfl : u2 = Value.ref a := r2
  refine ost_new N.T I2 ha N.hno r1 fun dx s3 hdx hdxa I3 => ?_
  have K3 : K.In s3.heap := I3.kIn
  obtain ⟨nm, qn, Nn, bs, bm, sn, sb, ab, col, dd, k0, k1, k2, k3, k5, hC, hbm⟩ := N.T.cls
  have hD := K3 _ _ hC
  obtain ⟨t1, hx⟩ := exo_at (e := a) I3.hok upd_same
  obtain ⟨mA, ⟨oD, esD, epD, hoD, _⟩, _⟩ := exd_at (dx := dx) I3.hok (by rw [upd_ne hdxa]; exact upd_same)
  have hcd : PySem.W.clsIn K C = some { name := nm, bases := bs, mro := .ref C :: bm, ns := Nn, qualname := qn, hasDict := true, slotNames := sn, subclasses := sb, abstract := ab, collection := col, hasDel := false } := by unfold PySem.W.clsIn; rw [hC] <;> rfl
  refine PySem.ks_wpAt_execs_cons (PySem.ks_wpAt_Expr_any (PySem.ks_wpAt_MethodCall (PySem.ks_wpAt_super_base (f := f) (cc := F.c) N.sup (N.S.frk "__class__" (by simp)) rfl rfl (K3 _ _ lk) rfl hpar rfl (K3 _ _ lkv) rfl hvs hfile N.htop ?_) (heval _)) I3.quiet)
  obtain ⟨mb, hb1, hb2⟩ := I3.mod.blt
  refine PySem.W.ks_loadName_global N.S.kind N.sup (Calls.loadGlobal_builtin (I3.mod.glob.keeps I3.bk) N.mgs (hb1.keeps I3.bk) ((hb2 "super" (by decide)).trans (show bootBuiltins "super" = some (.type "super") by decide +kernel)) ⟨rfl, ?_⟩)
  refine wpAny_loadName_free N.S.kind (N.S.frk "__class__" (by simp)) (c := cc) (v := .ref C) (show F.cl.lookup ("__class__" : Str) = some cc by rw [hcl]; rfl) ⟨_, K3 _ _ lkc, rfl⟩ ?_
  obtain ⟨mL, hnL, hlL⟩ := I3.loc
  obtain ⟨us0, rs0, hs0⟩ := hlL 0 "self" (.ref a) rfl rfl (.inl kself)
  obtain rfl : us0 = Value.ref a := rs0
  have hmL : mL "self" = some (.ref a) := by
    rcases hs0 with ⟨_, h⟩ | ⟨h, _⟩
    · exact h
    · have h : F.scope.names.lookup ("self" : Str) = some .cell ∨ F.scope.names.lookup ("self" : Str) = some .free := h
      rw [kself] at h
      rcases h with h | h <;> cases h
  rw [harg]
  refine wpAny_loadName_local N.S.kind kself hnL hmL ?_
  obtain ⟨hp3, g3, d3, tk3, os3⟩ := s3
  refine PySem.ks_wpAny_isType_cls hD rfl ⟨rfl, ?_⟩
  have hsub : PySem.W.Looks (model P w) hp3 (isSubtype (.ref C) (.ref C)) true := PySem.W.looks_mroIn K3 N.mroC
  refine PySem.ks_wpAny_call_super hD rfl hx rfl (fun c e => by cases e) hsub (fun h4 hso kp4 => ?_)
  have I4 := I3.kept (t' := tk3) kp4
  have K4 : K.In h4 := I4.kIn
  have hx4 := kp4 _ _ hx
  have hxC : a ≠ C := fun e => by
    rw [e] at hx
    have z := hx.symm.trans hD
    cases z
  have hI4 : PySem.W.Looks (model P w) h4 (isInstance (.ref a) (.type "ValueError")) true := by
    have I : PySem.W.InstAt h4 a { cls := .ref C, dict := some dx, data := .fields #[.ref t1, .none, .none, .none, .bool false, .none] } C (some oD) := ⟨hx4, rfl, rfl, kp4 _ _ hoD⟩
    exact I.type.andThen (PySem.W.looks_subIn K4 N.subV)
  refine PySem.W.kxs_getMethod PySem.W.kxs_ValueError hso (PySem.W.looks_opaque K4 N.opq) (l₀ := .ref C :: bm) ?_ rfl K4 (by have := N.ini; unfold PySem.W.ks_superIn at this; rw [hcd] at this; exact this) hI4 hxC rfl ?_
  · exact (PySem.W.looks_clsIn K4 hcd).andThen .now
  have I5 : L2.Inv _ [] _ _ ({ heap := h4.push (PySem.W.kxs_mw "ValueError.__init__" a), gens := g3, drawn := d3, toks := tk3 + 1, os := os3 } : Shared) := I4.kept (t' := tk3 + 1) fun b o e => Heap.get?_push_of_some _ e
  have fp := I4.fpOk (Nat.le_refl _) (I4.hok.fresh (Nat.le_refl h4.objs.size))
  have I6 := I5.pins_of (pins' := [(h4.objs.size, PySem.W.kxs_mw "ValueError.__init__" a)]) (by
    intro p hp
    have e : p = (h4.objs.size, PySem.W.kxs_mw "ValueError.__init__" a) := by simpa using hp
    subst e
    exact ⟨Heap.get?_push_size _ rfl, fp.1, fp.2.1, fp.2.2.1, fun v e => by cases e⟩)
  refine PySem.W.kxs_callWith (i := "ValueError.__init__") (x := a) rfl (Calls.evalArgs_plain ?_)
  have ha4 : (upd (upd H2 dx (exd dx [(("word" : Str), V.str z)])) a (exo a C (some dx))) a = some (exo a C (some dx)) := upd_same
  have pj : PJ (ncx CX P w K mg base ["self", "word", "__class__"] F f A outer s H2 E) [.Constant (.str m) j q5, .FormattedValue (.Name "word" q6) (-1) none q7] [tC (.str m), tFmt (tVar 1)] :=
    .cons pe_str (.cons (pe_fmt (pe_var (i := 1) (x := "word") rfl (.inl kword))) .nil)
  have hmz : (Str.empty ++ m).length ≤ sizeLine := by
    rw [sizeLine_eq]
    show (Str.append Str.empty m).length ≤ _
    unfold Str.append Str.length
    rw [Array.size_append]
    have : m.cps.size ≤ 1000 := hm
    have e : Str.empty.cps.size = 0 := rfl
    omega
  have hmz2 : ((Str.empty ++ m) ++ z).length ≤ sizeLine := by
    rw [sizeLine_eq]
    show (Str.append (Str.append Str.empty m) z).length ≤ _
    unfold Str.append Str.length
    rw [Array.size_append, Array.size_append]
    have h1 : m.cps.size ≤ 1000 := hm
    have h2 : z.cps.size ≤ 1000000 := hz
    have e : Str.empty.cps.size = 0 := rfl
    omega
  have hzl : z.length ≤ sizeLine := by rw [sizeLine_eq]; omega
  refine thn ((pa_cons (pe_joined (pos := p3) pj) pa_nil rfl).run p4 _ _ _ _ (fun vs H' => ∃ out, vs = [.str out] ∧ H' = upd (upd H2 dx (exd dx [(("word" : Str), V.str z)])) a (exo a C (some dx))) I6 ⟨m, rfl, hmz, .str z, rfl, .inl ⟨z, rfl, hzl, z, rfl, hmz2, _, rfl, rfl⟩⟩) fun us6 s6 ⟨vs6, H6, I7, r6, out, ev6, eH6⟩ => ?_
  subst ev6 eH6
  have hmw := (I7.pin (h4.objs.size, PySem.W.kxs_mw "ValueError.__init__" a) (by simp)).1
  refine ⟨hmw, ?_⟩
  obtain ⟨t6, hx6⟩ := exo_at (e := a) I7.hok ha4
  have hus : us6.length ≤ sizeLine := by
    have := r6.length
    rw [← this, sizeLine_eq]
    exact (show (1 : Nat) ≤ 16777216 by decide)
  obtain ⟨h6, g6, d6, tk6, os6⟩ := s6
  refine wpAny_call (codeAny_of_tree ?_)
  show wpAny _ _ (callAny (.ref h4.objs.size) ⟨us6, []⟩) _ _ _
  simp only [callAny]
  refine wpAny_bind (wpAny_load hmw ?_)
  simp only [PySem.W.kxs_mw, show (Value.type "method-wrapper" == Value.type "method" || Value.type "method-wrapper" == Value.type "builtin_function_or_method" || Value.type "method-wrapper" == Value.type "method-wrapper") = true by decide, if_true]
  refine PySem.W.KFB.if_so (by decide) ?_
  have hC6 := I7.kIn _ _ hC
  refine wpAny_bind (PySem.W.check_bound_init PySem.F.excBase_ValueError.toExcCallFacts hC6 hx6 rfl ?_)
  refine wpAny_bind (wpAny_pure (wpAny_pure ?_))
  refine ⟨plainId_quiet PySem.F.excBase_ValueError.init.plain _, codeAny_builtin PySem.F.excBase_ValueError.initEntry ?_⟩
  refine PySem.W.exc_init_tree hx6 hus fun h7 k7 hx7 _ => ?_
  have I8 := I7.write (t' := tk6) (x := a) (e := a) (o := exo a C (some dx)) (by rw [ha4]; exact True.intro) (.inl rfl) k7 ⟨_, hx7⟩ (exo_ok hx7)
  have eu : upd (upd (upd H2 dx (exd dx [(("word" : Str), V.str z)])) a (exo a C (some dx))) a (exo a C (some dx)) = upd (upd H2 dx (exd dx [(("word" : Str), V.str z)])) a (exo a C (some dx)) := by
    funext b
    by_cases hb : b = a
    · rw [hb, upd_same, upd_same]
    · rw [upd_ne hb]
  rw [eu] at I8
  refine wpAt_of_wpAny (wpAny_execs_nil ?_)
  exact ⟨.non, _, I8.os, I8.bare, I8.base, I8.hok, rfl, hQ dx hdx hdxa⟩
theorem pmk_nf {X : Cx} {C fI : Addr} {F : NF} {k : Nat} {x : Str} {e : PySem.Expr} {te : TE} {p pos : Pos} (N : NfFacts X.prog X.K X.mg C fI F) (iC : PySem.W.findIn X.K (.ref C) "__init__" = some (some (.ref fI))) (tI : PySem.W.typeIn X.K (.ref fI) = some (.type "function"))
    (hr : Room (k + 2) X.A) (mono : ∀ σ H (Q Q' : VK), (∀ v H', Q v H' → Q' v H') → te σ H Q → te σ H Q') (hg : Gl X x) (hm : X.mg x = some (.ref C)) (he : PE X e te) (hdb : (x == ("__debug__" : Str)) = false) (hs : starEach [e] X.env = [(false, eval e X.env)]) :
    PMk X (.Call (.Name x p) [e] [] pos) (fun σ H Q => te σ H fun v H1 => ∃ z : Str, v = .str z ∧ z.length ≤ 1000000 ∧ ∀ d, H1 d = none → Q (.ref C) (some d) (upd H1 d (.xd [("word", .str z)]))) := by
  obtain ⟨oc, od, doc, pm, ctv, osl, lk⟩ := N.lk
  have F1 : FnOk X.prog X.w X.K X.mg X.base (L2.CX X.prog X.w) (0 + 1) fI (F.fd doc pm ctv) ["self", "word"] (spNF C) := fn_nf N lk
  have q := pmk_oex (X := X) (CX := L2.CX X.prog X.w) (pos := pos) (p := p) (k := 0 + 1) (ds := []) (dvs := []) N.T iC tI F1 (hr.mono (show 0 + 1 + 1 ≤ k + 2 by omega)) (.all (N.bnd doc pm ctv)) .nil (fun _ _ _ _ _ _ _ c => by
    obtain ⟨_, _, _, _, _, _, _, _, _, _, _, _, z⟩ := c
    exact z.elim) hg hm (pa_cons he pa_nil (by rw [hs]; rfl)) hdb (by rw [hs]; rfl) rfl
  intro pins s σ H Q I h
  refine q pins s σ H Q I ?_
  refine mono _ _ _ _ (fun v H1 ⟨z, hv, hz, hQ⟩ => ?_) h
  refine ⟨by simp, fun a ha => ?_⟩
  refine ⟨a, z, by rw [hv]; rfl, hz, upd_same, fun dx hd hda => ?_⟩
  have hd1 : H1 dx = none := by rw [upd_ne hda] at hd; exact hd
  refine ⟨rfl, dx, [("word", .str z)], upd_same, by rw [upd_ne hda, upd_same], hd1, ?_⟩
  have e : upd (del (upd (upd (upd H1 a (exo a C none)) dx (exd dx [("word", .str z)])) a (exo a C (some dx))) a) dx (.xd [("word", .str z)]) = upd H1 dx (.xd [("word", .str z)]) := by
    funext b
    by_cases hb : b = dx
    · rw [hb, upd_same, upd_same]
    · rw [upd_ne hb, upd_ne hb]
      by_cases hb2 : b = a
      · rw [hb2, del_same, ha]
      · rw [del_ne hb2, upd_ne hb2, upd_ne hb, upd_ne hb2]
  rw [e]
  exact hQ dx hd1
end Mi
set_option maxHeartbeats 2000000
namespace Mi
open PySem PySem.Spec PyProof.Rows L2 NdefX
theorem fn_nfH {P : Program} {w : World} {K : PySem.W.Frag} {mg : Str → Option Value} {base : Heap} {CX : CXT} {k : Nat} {C f : Addr} {F : NF} (N : NfFacts P K mg C f F) {oc : Value} {od : Option Addr} {doc pm ctv : Value} {osl : Array (Option Value)} (lk : K.lookup f = some ⟨oc, od, .func (F.fd doc pm ctv), osl⟩) :
    L2H.FnH P w K mg base CX (k + 1) f (F.fd doc pm ctv) ["self", "word"] (spNF C) := by
  obtain ⟨cc, ccl, ccd, ccs, hcl, lkc⟩ := N.cl
  obtain ⟨vcl, vcd, cvs, vcs, file, tf, lkv, hvs, hfile⟩ := N.code
  obtain ⟨q1, q2, q3, q4, p0, p1, p2, p3, p4, p5, q5, q6, q7, j, m, hbody, hm, pl, heval⟩ := N.body
  obtain ⟨ar, hpar, harg⟩ := N.par
  refine ⟨fun vs H Q E h => by obtain ⟨a, z, rfl, _⟩ := h; rfl, fun A outer s H args us vs Q E pp hr hot hpin e0 hb r hsp => ?_⟩
  obtain ⟨a, z, rfl, hz, ha, hQ⟩ := hsp
  have KX : K.In s.heap := e0.mod.kin.keeps fun b o e => (e0.bs b o e).1
  have lim : s.heap.NoLimit := e0.mod.nolimit.keeps fun b o e => (e0.bs b o e).1
  have bcc := e0.bs cc _ (e0.mod.kin _ _ lkc)
  have Cs : CellsAt F.cl ["__class__"] [some (.ref C)] s.heap H := by
    rw [hcl]
    refine ⟨rfl, fun y c e => ?_, fun x y c e1 e2 => ?_, fun i y e => ?_⟩
    · obtain ⟨_, rfl⟩ := lookup1 e
      exact ⟨bcc.2, _, _, bcc.1, rfl⟩
    · exact (lookup1 e1).1.trans (lookup1 e2).1.symm
    · cases i with
      | zero =>
        simp only [List.getElem?_cons_zero, Option.some.injEq] at e
        subst e
        exact ⟨cc, by simp, fun v ev => by
          simp only [List.getElem?_cons_zero, Option.some.injEq] at ev
          subst ev
          exact ⟨.ref C, rfl, _, bcc.1, rfl⟩⟩
      | succ i => simp at e
  refine PySem.ks_codeAny_call_defAt (fd := F.fd doc pm ctv) (body := F.body) hr.depth (KX _ _ lk) rfl lim (PySem.W.codeRec_of KX N.hcd) rfl hb N.S.nocell (fun x hx => N.S.par x.1 (List.of_mem_zip hx).1) (fun h₁ hns kp => ?_) N.S.co N.S.gen N.S.kind
  have I : L2.Inv (ncxH CX P w K mg base ["self", "word", "__class__"] F f A outer s H E pp) [] (startF ["self", "word", "__class__"] [.ref a, .str z] [some (.ref C)]) H { s with heap := h₁, toks := s.toks + ((["self", "word"] : List Str).zip us).length } :=
    inv_startNH N.S hpin e0 rfl r Cs hns kp
  rw [hbody]
  have kself : F.scope.names.lookup ("self" : Str) = some .local := N.S.par "self" (by simp)
  have kword : F.scope.names.lookup ("word" : Str) = some .local := N.S.par "word" (by simp)
  refine PySem.ks_wpAt_execs_cons (PySem.ks_wpAt_Assign_Attr (wpAt_of_wpAny (thn ((pe_var (X := ncxH CX P w K mg base ["self", "word", "__class__"] F f A outer s H E pp) (i := 1) (x := "word") (pos := q3) rfl (.inl kword)).run [] _ _ H (fun x H' => x = .str z ∧ H' = H) I ⟨.str z, rfl, rfl, rfl⟩) fun u s1 ⟨x, H1, I1, r1, ex, eH⟩ => ?_)))
  subst ex eH
  refine thn ((pe_var (X := ncxH CX P w K mg base ["self", "word", "__class__"] F f A outer s H1 E pp) (i := 0) (x := "self") (pos := q1) rfl (.inl kself)).run [] _ _ H1 (fun x H' => x = .ref a ∧ H' = H1) I1 ⟨.ref a, rfl, rfl, rfl⟩) fun u2 s2 ⟨x2, H2, I2, r2, ex2, eH2⟩ => ?_
  subst ex2 eH2
  obtain rfl : u2 = Value.ref a := r2
  refine ost_new N.T I2 ha N.hno r1 fun dx s3 hdx hdxa I3 => ?_
  have K3 : K.In s3.heap := I3.kIn
  obtain ⟨nm, qn, Nn, bs, bm, sn, sb, ab, col, dd, k0, k1, k2, k3, k5, hC, hbm⟩ := N.T.cls
  have hD := K3 _ _ hC
  obtain ⟨t1, hx⟩ := exo_at (e := a) I3.hok upd_same
  obtain ⟨mA, ⟨oD, esD, epD, hoD, _⟩, _⟩ := exd_at (dx := dx) I3.hok (by rw [upd_ne hdxa]; exact upd_same)
  have hcd : PySem.W.clsIn K C = some { name := nm, bases := bs, mro := .ref C :: bm, ns := Nn, qualname := qn, hasDict := true, slotNames := sn, subclasses := sb, abstract := ab, collection := col, hasDel := false } := by unfold PySem.W.clsIn; rw [hC] <;> rfl
  refine PySem.ks_wpAt_execs_cons (PySem.ks_wpAt_Expr_any (PySem.ks_wpAt_MethodCall (PySem.ks_wpAt_super_base (f := f) (cc := F.c) N.sup (N.S.frk "__class__" (by simp)) rfl rfl (K3 _ _ lk) rfl hpar rfl (K3 _ _ lkv) rfl hvs hfile N.htop ?_) (heval _)) I3.quiet)
  obtain ⟨mb, hb1, hb2⟩ := I3.mod.blt
  refine PySem.W.ks_loadName_global N.S.kind N.sup (Calls.loadGlobal_builtin (I3.mod.glob.keeps I3.bk) N.mgs (hb1.keeps I3.bk) ((hb2 "super" (by decide)).trans (show bootBuiltins "super" = some (.type "super") by decide +kernel)) ⟨rfl, ?_⟩)
  refine wpAny_loadName_free N.S.kind (N.S.frk "__class__" (by simp)) (c := cc) (v := .ref C) (show F.cl.lookup ("__class__" : Str) = some cc by rw [hcl]; rfl) ⟨_, K3 _ _ lkc, rfl⟩ ?_
  obtain ⟨mL, hnL, hlL⟩ := I3.loc
  obtain ⟨us0, rs0, hs0⟩ := hlL 0 "self" (.ref a) rfl rfl (.inl kself)
  obtain rfl : us0 = Value.ref a := rs0
  have hmL : mL "self" = some (.ref a) := by
    rcases hs0 with ⟨_, h⟩ | ⟨h, _⟩
    · exact h
    · have h : F.scope.names.lookup ("self" : Str) = some .cell ∨ F.scope.names.lookup ("self" : Str) = some .free := h
      rw [kself] at h
      rcases h with h | h <;> cases h
  rw [harg]
  refine wpAny_loadName_local N.S.kind kself hnL hmL ?_
  obtain ⟨hp3, g3, d3, tk3, os3⟩ := s3
  refine PySem.ks_wpAny_isType_cls hD rfl ⟨rfl, ?_⟩
  have hsub : PySem.W.Looks (model P w) hp3 (isSubtype (.ref C) (.ref C)) true := PySem.W.looks_mroIn K3 N.mroC
  refine PySem.ks_wpAny_call_super hD rfl hx rfl (fun c e => by cases e) hsub (fun h4 hso kp4 => ?_)
  have I4 := I3.kept (t' := tk3) kp4
  have K4 : K.In h4 := I4.kIn
  have hx4 := kp4 _ _ hx
  have hxC : a ≠ C := fun e => by
    rw [e] at hx
    have z := hx.symm.trans hD
    cases z
  have hI4 : PySem.W.Looks (model P w) h4 (isInstance (.ref a) (.type "ValueError")) true := by
    have I : PySem.W.InstAt h4 a { cls := .ref C, dict := some dx, data := .fields #[.ref t1, .none, .none, .none, .bool false, .none] } C (some oD) := ⟨hx4, rfl, rfl, kp4 _ _ hoD⟩
    exact I.type.andThen (PySem.W.looks_subIn K4 N.subV)
  refine PySem.W.kxs_getMethod PySem.W.kxs_ValueError hso (PySem.W.looks_opaque K4 N.opq) (l₀ := .ref C :: bm) ?_ rfl K4 (by have := N.ini; unfold PySem.W.ks_superIn at this; rw [hcd] at this; exact this) hI4 hxC rfl ?_
  · exact (PySem.W.looks_clsIn K4 hcd).andThen .now
  have I5 : L2.Inv _ [] _ _ ({ heap := h4.push (PySem.W.kxs_mw "ValueError.__init__" a), gens := g3, drawn := d3, toks := tk3 + 1, os := os3 } : Shared) := I4.kept (t' := tk3 + 1) fun b o e => Heap.get?_push_of_some _ e
  have fp := I4.fpOk (Nat.le_refl _) (I4.hok.fresh (Nat.le_refl h4.objs.size))
  have I6 := I5.pins_of (pins' := [(h4.objs.size, PySem.W.kxs_mw "ValueError.__init__" a)]) (by
    intro p hp
    have e : p = (h4.objs.size, PySem.W.kxs_mw "ValueError.__init__" a) := by simpa using hp
    subst e
    exact ⟨Heap.get?_push_size _ rfl, fp.1, fp.2.1, fp.2.2.1, fun v e => by cases e⟩)
  refine PySem.W.kxs_callWith (i := "ValueError.__init__") (x := a) rfl (Calls.evalArgs_plain ?_)
  have ha4 : (upd (upd H2 dx (exd dx [(("word" : Str), V.str z)])) a (exo a C (some dx))) a = some (exo a C (some dx)) := upd_same
  have pj : PJ (ncxH CX P w K mg base ["self", "word", "__class__"] F f A outer s H2 E pp) [.Constant (.str m) j q5, .FormattedValue (.Name "word" q6) (-1) none q7] [tC (.str m), tFmt (tVar 1)] :=
    .cons pe_str (.cons (pe_fmt (pe_var (i := 1) (x := "word") rfl (.inl kword))) .nil)
  have hmz : (Str.empty ++ m).length ≤ sizeLine := by
    rw [sizeLine_eq]
    show (Str.append Str.empty m).length ≤ _
    unfold Str.append Str.length
    rw [Array.size_append]
    have : m.cps.size ≤ 1000 := hm
    have e : Str.empty.cps.size = 0 := rfl
    omega
  have hmz2 : ((Str.empty ++ m) ++ z).length ≤ sizeLine := by
    rw [sizeLine_eq]
    show (Str.append (Str.append Str.empty m) z).length ≤ _
    unfold Str.append Str.length
    rw [Array.size_append, Array.size_append]
    have h1 : m.cps.size ≤ 1000 := hm
    have h2 : z.cps.size ≤ 1000000 := hz
    have e : Str.empty.cps.size = 0 := rfl
    omega
  have hzl : z.length ≤ sizeLine := by rw [sizeLine_eq]; omega
  refine thn ((pa_cons (pe_joined (pos := p3) pj) pa_nil rfl).run p4 _ _ _ _ (fun vs H' => ∃ out, vs = [.str out] ∧ H' = upd (upd H2 dx (exd dx [(("word" : Str), V.str z)])) a (exo a C (some dx))) I6 ⟨m, rfl, hmz, .str z, rfl, .inl ⟨z, rfl, hzl, z, rfl, hmz2, _, rfl, rfl⟩⟩) fun us6 s6 ⟨vs6, H6, I7, r6, out, ev6, eH6⟩ => ?_
  subst ev6 eH6
  have hmw := (I7.pin (h4.objs.size, PySem.W.kxs_mw "ValueError.__init__" a) (by simp)).1
  refine ⟨hmw, ?_⟩
  obtain ⟨t6, hx6⟩ := exo_at (e := a) I7.hok ha4
  have hus : us6.length ≤ sizeLine := by
    have := r6.length
    rw [← this, sizeLine_eq]
    exact (show (1 : Nat) ≤ 16777216 by decide)
  obtain ⟨h6, g6, d6, tk6, os6⟩ := s6
  refine wpAny_call (codeAny_of_tree ?_)
  show wpAny _ _ (callAny (.ref h4.objs.size) ⟨us6, []⟩) _ _ _
  simp only [callAny]
  refine wpAny_bind (wpAny_load hmw ?_)
  simp only [PySem.W.kxs_mw, show (Value.type "method-wrapper" == Value.type "method" || Value.type "method-wrapper" == Value.type "builtin_function_or_method" || Value.type "method-wrapper" == Value.type "method-wrapper") = true by decide, if_true]
  refine PySem.W.KFB.if_so (by decide) ?_
  have hC6 := I7.kIn _ _ hC
  refine wpAny_bind (PySem.W.check_bound_init PySem.F.excBase_ValueError.toExcCallFacts hC6 hx6 rfl ?_)
  refine wpAny_bind (wpAny_pure (wpAny_pure ?_))
  refine ⟨plainId_quiet PySem.F.excBase_ValueError.init.plain _, codeAny_builtin PySem.F.excBase_ValueError.initEntry ?_⟩
  refine PySem.W.exc_init_tree hx6 hus fun h7 k7 hx7 _ => ?_
  have I8 := I7.write (t' := tk6) (x := a) (e := a) (o := exo a C (some dx)) (by rw [ha4]; exact True.intro) (.inl rfl) k7 ⟨_, hx7⟩ (exo_ok hx7)
  have eu : upd (upd (upd H2 dx (exd dx [(("word" : Str), V.str z)])) a (exo a C (some dx))) a (exo a C (some dx)) = upd (upd H2 dx (exd dx [(("word" : Str), V.str z)])) a (exo a C (some dx)) := by
    funext b
    by_cases hb : b = a
    · rw [hb, upd_same, upd_same]
    · rw [upd_ne hb]
  rw [eu] at I8
  refine wpAt_of_wpAny (wpAny_execs_nil ?_)
  exact ⟨.non, _, I8.os, I8.bare, I8.base, I8.hok, rfl, hQ dx hdx hdxa⟩
theorem pmk_oexN {Y : Cx} {cxt : CXT} {nm : Str} {C g : Addr} {n : Nat} {fu : FuncData} {pl : List Str} {spec : Sp} {e1 : PySem.Expr} {er : List PySem.Expr} {tArgs : TA} {p0 ps0 : Pos} (oc : OexC Y.K C) (iN : PySem.W.findIn Y.K (.ref C) "__init__" = some (some (.ref g))) (tN : PySem.W.typeIn Y.K (.ref g) = some (.type "function"))
    (fo : FnOk Y.prog Y.w Y.K Y.mg Y.base cxt n g fu pl spec) (ro : Room (n + 1) Y.A) (bi : Binds Y.K fu pl []) (no : Passes cxt Y (fun _ _ _ => False)) (gl : Gl Y nm) (mgC : Y.mg nm = some (.ref C)) (pa : PA Y (e1 :: er) tArgs)
    (dbg : (nm == ("__debug__" : Str)) = false) (st1 : starEach (e1 :: er) Y.env = (false, eval e1 Y.env) :: starEach er Y.env) (st2 : (backTo ps0 (starEach er Y.env)).any (·.1) = false) :
    L2N.PMk Y (.Call (.Name nm p0) (e1 :: er) [] ps0) (tMkO C spec [] tArgs) := by
  intro pinned sh st hp0 QQ Iv hh
  obtain ⟨cn, cq, cN, cbs, cbm, csn, csub, cab, ccol, cdd, c0, c1, c2, c3, c5, hCls, hBm⟩ := oc.cls
  refine wpAny_Call_Name_kw (ld_glob Iv gl mgC ?_ dbg)
  refine PySem.W.callWith_K (h₀ := Y.base) Iv.ok.mod.kin oc.kC (thn (pa.run ps0 pinned sh st hp0 _ Iv hh) fun uu sh1 ⟨vv, hpA, IA, rA, _, qA⟩ => ⟨IA.kIn, ?_⟩) st1 st2
  show wpAny _ _ (call (.ref C) uu) _ _ _
  obtain ⟨hea, gns, drw, tks, oss⟩ := sh1
  have big : hea.objs.size ≤ hea.objs.size + 1 := Nat.le_add_right _ 1
  have free1 : hpA (hea.objs.size + 1) = none := IA.hok.fresh big
  have qB := qA (hea.objs.size + 1) free1
  rw [List.append_nil] at qB
  have keep : ∀ b o, hea.get? b = some o → ((hea.push (PySem.W.kdv_tup uu)).push (PySem.HandSPX.excO C hea.objs.size)).get? b = some o := fun b o z => Heap.get?_push_of_some _ (Heap.get?_push_of_some _ z)
  have atN : ((hea.push (PySem.W.kdv_tup uu)).push (PySem.HandSPX.excO C hea.objs.size)).get? (hea.objs.size + 1) = some (PySem.HandSPX.excO C hea.objs.size) := by heap_get
  have IB : L2.Inv Y pinned st (upd hpA (hea.objs.size + 1) (exo (hea.objs.size + 1) C none)) ⟨(hea.push (PySem.W.kdv_tup uu)).push (PySem.HandSPX.excO C hea.objs.size), gns, drw, tks, oss⟩ :=
    IA.laid (t' := tks) (a := hea.objs.size + 1) (o := exo (hea.objs.size + 1) C none) (h' := (hea.push (PySem.W.kdv_tup uu)).push (PySem.HandSPX.excO C hea.objs.size)) keep big (exo_ok atN)
  have rB : Vals (V.ref (hea.objs.size + 1) :: vv) (Value.ref (hea.objs.size + 1) :: uu) := .cons rfl rA
  have lenB : (Value.ref (hea.objs.size + 1) :: uu ++ []).length = pl.length := by
    have z := rB.length
    rw [fo.len _ _ _ _ qB] at z
    rw [List.append_nil]
    exact z.symm
  have small : uu.length ≤ sizeLine := by
    rw [← Paired.length rA, sizeLine_eq]
    omega
  have bnd2 := bi _ (Value.ref (hea.objs.size + 1) :: uu) IB.kIn lenB
  rw [List.append_nil] at bnd2
  refine wpAny_call (PySem.HandSPX.call_own F.excBase_ValueError (fun Z => PySem.HandSPX.refsVE_contains Z cbm hBm) (IA.kIn _ _ hCls) (PySem.W.looks_findIn IA.kIn iN) (fun me => PySem.W.bind_fn IA.kIn me tN) small
    (codeAny_mono (fo.run _ Y.stack _ _ ⟨Value.ref (hea.objs.size + 1) :: uu, []⟩ (Value.ref (hea.objs.size + 1) :: uu) _ _ (fun _ _ _ => False) (ro.make C uu []) (IB.env0.make C uu []) bnd2 rB qB) fun r s' hq' => ?_))
  cases r with
  | error er => exact no pinned st _ _ er s' IB hq'
  | ok fl =>
    cases fl with
    | ret u =>
      obtain ⟨v, hp2, os2, bar2, un2, hok2, rv, ev, dd, flds, ea, ed, fresh2, q2⟩ := hq'
      subst ev
      obtain ⟨h2, g2, d2, t2, os'⟩ := s'
      obtain ⟨t0, GG, JJ, kG, gone, hoe, na⟩ := mk_end0 (d2 := d2) (t2 := t2) IA big keep un2 hok2 os2 bar2 ea ed fresh2
      refine ⟨rv, hea.objs.size + 1, _, _, ⟨GG, g2, d2, t2, os'⟩, _, .ref C, some dd, rfl, JJ, kG, gone, hoe, ⟨rfl, rfl, fun vs hv => ?_⟩, rfl, rfl, na, rfl, bar2, raises_own oc.exC oc.tyC, q2⟩
      cases hv
      rfl
    | next => exact False.elim hq'
    | brk => exact False.elim hq'
    | cont => exact False.elim hq'
theorem nf_clean {H1 : Hp} {a dx C : Addr} {z : Str} (ha : H1 a = none) : upd (del (upd (upd (upd H1 a (exo a C none)) dx (exd dx [("word", .str z)])) a (exo a C (some dx))) a) dx (.xd [("word", .str z)]) = upd H1 dx (.xd [("word", .str z)]) := by
  funext b
  by_cases hb : b = dx
  · rw [hb, upd_same, upd_same]
  · rw [upd_ne hb, upd_ne hb]
    by_cases hb2 : b = a
    · rw [hb2, del_same, ha]
    · rw [del_ne hb2, upd_ne hb2, upd_ne hb, upd_ne hb2]
theorem tmk_nf {C : Addr} {te : TE} {ta : TA} {σ : L2.St} {H : Hp} {Q : XK} (h : te σ H fun v H1 => ∃ z : Str, v = .str z ∧ z.length ≤ 1000000 ∧ ∀ d, H1 d = none → Q (.ref C) (some d) (upd H1 d (.xd [("word", .str z)])))
    (mono : ∀ σ H (Q Q' : VK), (∀ v H', Q v H' → Q' v H') → te σ H Q → te σ H Q') (hta : ∀ Qa : List V → Hp → Prop, te σ H (fun v H1 => Qa [v] H1) → ta σ H Qa) : tMkO C (spNF C) [] ta σ H Q := by
  refine hta _ (mono _ _ _ _ (fun v H1 ⟨z, hv, hz, hQ⟩ => ?_) h)
  refine ⟨by simp, fun a ha => ?_⟩
  refine ⟨a, z, by rw [hv]; rfl, hz, upd_same, fun dx hd hda => ?_⟩
  have hd1 : H1 dx = none := by rw [upd_ne hda] at hd; exact hd
  refine ⟨rfl, dx, [("word", .str z)], upd_same, by rw [upd_ne hda, upd_same], hd1, ?_⟩
  rw [nf_clean ha]
  exact hQ dx hd1
theorem pmk_nfN {X : Cx} {C fI : Addr} {F : NF} {k : Nat} {x : Str} {e : PySem.Expr} {te : TE} {p pos : Pos} (N : NfFacts X.prog X.K X.mg C fI F) (iC : PySem.W.findIn X.K (.ref C) "__init__" = some (some (.ref fI))) (tI : PySem.W.typeIn X.K (.ref fI) = some (.type "function"))
    (hr : Room (k + 2) X.A) (mono : ∀ σ H (Q Q' : VK), (∀ v H', Q v H' → Q' v H') → te σ H Q → te σ H Q') (hg : Gl X x) (hm : X.mg x = some (.ref C)) (he : PE X e te) (hdb : (x == ("__debug__" : Str)) = false) (hs : starEach [e] X.env = [(false, eval e X.env)]) :
    L2N.PMk X (.Call (.Name x p) [e] [] pos) (fun σ H Q => te σ H fun v H1 => ∃ z : Str, v = .str z ∧ z.length ≤ 1000000 ∧ ∀ d, H1 d = none → Q (.ref C) (some d) (upd H1 d (.xd [("word", .str z)]))) := by
  obtain ⟨oc, od, doc, pm, ctv, osl, lk⟩ := N.lk
  have F1 : FnOk X.prog X.w X.K X.mg X.base (L2.CX X.prog X.w) (0 + 1) fI (F.fd doc pm ctv) ["self", "word"] (spNF C) := fn_nf N lk
  have q := pmk_oexN (Y := X) (cxt := L2.CX X.prog X.w) (ps0 := pos) (p0 := p) (n := 0 + 1) N.T iC tI F1 (hr.mono (show 0 + 1 + 1 ≤ k + 2 by omega)) (.all (N.bnd doc pm ctv)) (fun _ _ _ _ _ _ _ c => by
    obtain ⟨_, _, _, _, _, _, _, _, _, _, _, _, z⟩ := c
    exact z.elim) hg hm (pa_cons he pa_nil (by rw [hs]; rfl)) hdb (by rw [hs]; rfl) rfl
  exact fun pins s σ H Q I h => q pins s σ H Q I (tmk_nf h mono fun Qa w => w)
theorem pmk5_nfH {X : Cx} {C fI : Addr} {F : NF} {k : Nat} {x : Str} {e : PySem.Expr} {te : TE} {p pos : Pos} (N : NfFacts X.prog X.K X.mg C fI F) (iC : PySem.W.findIn X.K (.ref C) "__init__" = some (some (.ref fI))) (tI : PySem.W.typeIn X.K (.ref fI) = some (.type "function"))
    (hr : L2H.RoomH (k + 2) X.A) (hot : L2H.HotC X) (mono : ∀ σ H (Q Q' : VK), (∀ v H', Q v H' → Q' v H') → te σ H Q → te σ H Q') (hg : Gl X x) (hm : X.mg x = some (.ref C)) (he : PE X e te) (hdb : (x == ("__debug__" : Str)) = false) (hs : starEach [e] X.env = [(false, eval e X.env)]) :
    L2H.PMk5 X (.Call (.Name x p) [e] [] pos) (fun σ H Q => te σ H fun v H1 => ∃ z : Str, v = .str z ∧ z.length ≤ 1000000 ∧ ∀ d, H1 d = none → Q (.ref C) (some d) (upd H1 d (.xd [("word", .str z)]))) := by
  obtain ⟨oc, od, doc, pm, ctv, osl, lk⟩ := N.lk
  have F1 : L2H.FnH X.prog X.w X.K X.mg X.base (L2.CX X.prog X.w) (0 + 1) fI (F.fd doc pm ctv) ["self", "word"] (spNF C) := fn_nfH N lk
  have q := L2H.pmk5_oexH (X := X) (CX := L2.CX X.prog X.w) (pos := pos) (p := p) (k := 0 + 1) N.T iC tI F1 (hr.mono (show 0 + 1 + 1 ≤ k + 2 by omega)) hot (.all (N.bnd doc pm ctv)) (fun _ _ _ _ _ _ _ c => by
    obtain ⟨_, _, _, _, _, _, _, _, _, _, _, _, z⟩ := c
    exact z.elim) hg hm (pa_cons he pa_nil (by rw [hs]; rfl)) hdb (by rw [hs]; rfl) rfl
  exact fun pins s σ H Q I h => q pins s σ H Q I (tmk_nf h mono fun Qa w => w)
end Mi
namespace Mi
open PySem PySem.Spec PyProof.Rows L2
def RX (K : PySem.W.Frag) (H : Hp) (x : Exc) (c : Value) (dx : Option Addr) : Prop := c = .ref (gAd K x.cls) ∧ (match dx with
  | none => x.fs = []
  | some d => ∃ ws, H d = some (.xd ws) ∧ RF K H x.fs ws)
def KXs (K : PySem.W.Frag) (F H : Hp) (Xd : KX) (E : XK) : Prop := ∀ x S' c dx H', Xd x S' → Ext H H' → Rel K S' F H' → RX K H' x c dx → E c dx H'
theorem KXs.ext {K : PySem.W.Frag} {F H H1 : Hp} {Xd : KX} {E : XK} (h : KXs K F H Xd E) (e : Ext H H1) : KXs K F H1 Xd E := fun x S' c dx H' q e' r rx => h x S' c dx H' q (e.trans e') r rx
theorem KXs.no {K : PySem.W.Frag} {F H : Hp} {E : XK} : KXs K F H (fun _ _ => False) E := fun _ _ _ _ _ q => q.elim
abbrev WE1 := En → Sto → KD → KX → Prop
def LE (K : PySem.W.Frag) (W : WX) (w : WE1) : TE := fun τ H Q => ∃ σ S F Qd Xd, Rel K S F H ∧ RS K H σ τ ∧ w σ S Qd Xd ∧ KV K F H Qd Q ∧ KXs K F H Xd (WE W τ)
def LT (K : PySem.W.Frag) (W : WX) (w : En → Sto → (Bool → Sto → Prop) → KX → Prop) : TT := fun τ H Q => ∃ σ S F Qd Xd, Rel K S F H ∧ RS K H σ τ ∧ w σ S Qd Xd ∧ (∀ b S' H', Qd b S' → Ext H H' → Rel K S' F H' → Q b H') ∧ KXs K F H Xd (WE W τ)
def LA (K : PySem.W.Frag) (W : WX) (w : En → Sto → (List D → Sto → Prop) → KX → Prop) : TA := fun τ H Q => ∃ σ S F Qd Xd, Rel K S F H ∧ RS K H σ τ ∧ w σ S Qd Xd ∧ (∀ ds S' vs H', Qd ds S' → Ext H H' → Rel K S' F H' → RDs K H' ds vs → Q vs H') ∧ KXs K F H Xd (WE W τ)
def LOp (K : PySem.W.Frag) (W : WX) (w : En → Sto → (Option Int → Sto → Prop) → KX → Prop) : TO := fun τ H Q => ∃ σ S F Qd Xd, Rel K S F H ∧ RS K H σ τ ∧ w σ S Qd Xd ∧ (∀ o S' H', Qd o S' → Ext H H' → Rel K S' F H' → Q o H') ∧ KXs K F H Xd (WE W τ)
def RDw (K : PySem.W.Frag) (H : Hp) (wk : Bool) (d : D) (v : V) : Prop := match wk with
  | false => RD K H d v
  | true => ∃ l a vs, d = .tup l ∧ v = .ref a ∧ SqT K H a vs ∧ RDs K H l vs
def Off (sl : List Nat) (τ τ' : L2.St) : Prop := τ'.length = τ.length ∧ ∀ i, i ∉ sl → τ'[i]? = τ[i]?
theorem Off.refl {sl : List Nat} {τ : L2.St} : Off sl τ τ := ⟨rfl, fun _ _ => rfl⟩
theorem Off.trans {a b : List Nat} {τ τ1 τ2 : L2.St} (h : Off a τ τ1) (g : Off b τ1 τ2) : Off (a ++ b) τ τ2 := ⟨g.1.trans h.1, fun i hi => by
  rw [List.mem_append, not_or] at hi
  rw [g.2 i hi.2, h.2 i hi.1]⟩
theorem Off.set {i : Nat} {τ : L2.St} {v : Option V} : Off [i] τ (τ.set i v) := ⟨by simp, fun j hj => by
  rw [List.getElem?_set_ne]
  intro e; subst e; simp at hj⟩
def LG (K : PySem.W.Frag) (wk : Bool) (sl : List Nat) (w : D → En → (En → Prop) → Prop) : TG := fun v τ H Q => ∃ d σ Qd, RDw K H wk d v ∧ RS K H σ τ ∧ w d σ Qd ∧ ∀ σ' τ', Qd σ' → RS K H σ' τ' → Off sl τ τ' → Q τ' H
def LGs (K : PySem.W.Frag) (sl : List Nat) (w : List D → En → (En → Prop) → Prop) : TGs := fun vs τ H Q => ∃ ds σ Qd, RDs K H ds vs ∧ RS K H σ τ ∧ w ds σ Qd ∧ ∀ σ' τ', Qd σ' → RS K H σ' τ' → Off sl τ τ' → Q τ' H
structure WalkOk (K : PySem.W.Frag) (wk : Bool) (H0 : Hp) (J : It) (l : List D) (chk : Sto → Prop) : Prop where
  go : ∀ (F : Hp) (i : Nat) (d : D) (S : Sto) (H : Hp), l[i]? = some d → Rel K S F H → chk S → Ext H0 H → J.go i H ∧ ∀ x H', J.yld i H x H' → Ext H H' ∧ Rel K S F H' ∧ RDw K H' wk d x
  stop : ∀ (F : Hp) (S : Sto) (H : Hp), Rel K S F H → chk S → Ext H0 H → J.stop l.length H
def LI (K : PySem.W.Frag) (wk : Bool) (W : WX) (w : En → Sto → KI → KX → Prop) : TI := fun τ H R => ∃ σ S F Qd Xd, Rel K S F H ∧ RS K H σ τ ∧ w σ S Qd Xd ∧ (∀ l chk S' J H', Qd l chk S' → Ext H H' → Rel K S' F H' → WalkOk K wk H' J l chk → R J H') ∧ KXs K F H Xd (WE W τ)
structure Lk (K : PySem.W.Frag) (W : WX) (F H : Hp) (N : De) (D : Ends) : Prop where
  nx : ∀ σ S τ H', N.nx σ S → Ext H H' → Rel K S F H' → RS K H' σ τ → D.nx τ H'
  rt : ∀ d S v H', N.rt d S → Ext H H' → Rel K S F H' → RD K H' d v → D.rt v H'
  bk : ∀ σ S τ H', N.bk σ S → Ext H H' → Rel K S F H' → RS K H' σ τ → D.bk τ H'
  ct : ∀ σ S τ H', N.ct σ S → Ext H H' → Rel K S F H' → RS K H' σ τ → D.ct τ H'
  xr : ∀ x σ S τ c dx H', N.xr x σ S → Ext H H' → Rel K S F H' → RS K H' σ τ → RX K H' x c dx → W c dx τ H'
theorem Lk.ext {K : PySem.W.Frag} {W : WX} {F H H1 : Hp} {N : De} {D : Ends} (h : Lk K W F H N D) (e : Ext H H1) : Lk K W F H1 N D :=
  ⟨fun σ S τ H' q e' => h.nx σ S τ H' q (e.trans e'), fun d S v H' q e' => h.rt d S v H' q (e.trans e'), fun σ S τ H' q e' => h.bk σ S τ H' q (e.trans e'), fun σ S τ H' q e' => h.ct σ S τ H' q (e.trans e'),
   fun x σ S τ c dx H' q e' => h.xr x σ S τ c dx H' q (e.trans e')⟩
def LS (K : PySem.W.Frag) (W : WX) (w : De → En → Sto → Prop) : TS := fun D τ H => ∃ σ S F N, Rel K S F H ∧ RS K H σ τ ∧ w N σ S ∧ Lk K W F H N D
def LF (K : PySem.W.Frag) (g : FS) : Sp := fun vs H Q E => ∃ ds S F Qd Xd, Rel K S F H ∧ RDs K H ds vs ∧ g ds S Qd Xd ∧ KV K F H Qd Q ∧ KXs K F H Xd E
def cvOf (mg : Str → Option Value) (c : Str) : Value := match mg c with
  | some v => v
  | none => (bootBuiltins c).getD .none
structure SubC (K : PySem.W.Frag) (C : Addr) : Prop where
  ec : ExcC K C
  xf : XfC K C
  hno : PySem.W.findIn K (.ref C) "word" = some none
structure SubF (K : PySem.W.Frag) (mg : Str → Option Value) (x c : Str) (b : Bool) : Prop where
  nm : mg c = some (cvOf mg c) ∨ (mg c = none ∧ bootBuiltins c = some (cvOf mg c))
  rel : ∃ v, RelV v (cvOf mg c) ∧ ∀ u, RelV v u → u = cvOf mg c
  exm : PySem.W.exmOne K (.ref (gAd K x)) (cvOf mg c) = some b
  kit : PySem.W.kitOne K (.ref (gAd K x)) (cvOf mg c) = some b
  sc : SubC K (gAd K x)
structure ExcF (P : Program) (K : PySem.W.Frag) (mg : Str → Option Value) (x : Str) : Prop where
  mgx : mg x = some (.ref (gAd K x))
  ini : ∃ fI F, NfFacts P K mg (gAd K x) fI F ∧ PySem.W.findIn K (.ref (gAd K x)) "__init__" = some (some (.ref fI)) ∧ PySem.W.typeIn K (.ref fI) = some (.type "function")
def TkM (md : Bool) (X : Cx) (W : WX) : Prop := match md with
  | true => L2N.Takes X W
  | false => L2.Takes X W
def CXM (md : Bool) (P : Program) (w : World) : CXT := match md with
  | true => L2N.CX P w
  | false => L2.CX P w
theorem passM {md : Bool} {X : Cx} {W : WX} (tk : TkM md X W) (σ : L2.St) : PassesAt (CXM md X.prog X.w) X σ (WE W σ) := by
  cases md
  · exact passAt tk σ
  · exact L2N.passAt tk σ
theorem tk0 {md : Bool} {X : Cx} : TkM md X (fun _ _ _ _ => False) := by
  cases md
  · exact takes0
  · intro _ _ x
    obtain ⟨_, _, _, _, _, _, _, _, _, _, _, _, _, _, _, _, z⟩ := x
    exact z.elim
structure Link (P : Program) (w : World) (K : PySem.W.Frag) (mg : Str → Option Value) (base : Heap) (T : Tb) (Γ : Str → FS) (G : Str → Option D) (k : Nat) : Prop where
  free : ∀ x : Str, T.free.contains x = true → mg x = none
  mfn : ∀ (x : Str) (b : Bl), T.mfn.contains x = true → mfOf x = some b → mg x = some (blV b)
  glob : ∀ (x : Str) (d : D), T.glob.contains x = true → G x = some d → ∃ v u, mg x = some u ∧ RelV v u ∧ ∀ H, RD K H d v
  fns : ∀ x : Str, T.fns.contains x = true → ∃ f fd ps, mg x = some (.ref f) ∧ PySem.W.keepIn K (.ref f) = true ∧ Binds K fd ps [] ∧ FnOk P w K mg base (CXM T.md P w) k f fd ps (LF K (Γ x))
  cln : ∀ x : Str, T.cln.contains x = true → ∃ f fd ps, mg x = some (.ref f) ∧ PySem.W.keepIn K (.ref f) = true ∧ Binds K fd ps [] ∧ FnOk P w K mg base (L2N.CX P w) k f fd ps (LF K (Γ x))
  exc : ∀ x : Str, T.exc.contains x = true → ExcF P K mg x
  sub : ∀ (x c : Str) (b : Bool), (x, c, b) ∈ T.sub → SubF K mg x c b
  fld : ∀ C f : Str, (C, f) ∈ T.fld → Cls K (gAd K C) ∧ NoAttr K (gAd K C) f
  mth : ∀ C m key : Str, (C, m, key) ∈ T.mth → Cls K (gAd K C) ∧ ∃ f fd ps, Meth K (gAd K C) m f ∧ Binds K fd ps [] ∧ FnOk P w K mg base (CXM T.md P w) k f fd ps (LF K (Γ key))
  mks : ∀ C key : Str, (C, key) ∈ T.mks → mg C = some (.ref (gAd K C)) ∧ ∃ f fd ps, Mk K (gAd K C) f ∧ Binds K fd ps [] ∧ FnOk P w K mg base (CXM T.md P w) k f fd ps (LF K (Γ key))
structure Gd (T : Tb) (N : List Str) (Γ : Str → FS) (G : Str → Option D) (X : Cx) (W : WX) (sc : Scope) (own : Str → Bool) (k : Nat) : Prop where
  N_eq : X.N = N
  sc_eq : X.env.scope = sc
  nd : N.Nodup
  kd : sc.kind = .function
  room : Room k X.A
  room1 : Room (k + 1) X.A
  k2 : 2 ≤ k
  calm : X.calm = true
  tk : TkM T.md X W
  po : PassesOwn (model X.prog X.w) X.A X.env X.xe
  own : ∀ x, own x = true → X.fn x = true
  lk : Link X.prog X.w X.K X.mg X.base T Γ G k
structure Stk (X : Cx) : Prop where
  stk : X.stack = X.env :: X.outer
  frm : X.env.frame = some X.env.locals
def PoA (X : Cx) : Prop := ∀ hd : Option Value, PassesOwnAt (model X.prog X.w) (X.A.mark hd) X.A X.env X.xe
end Mi
namespace Mi
open PySem PySem.Spec PyProof.Rows L2
variable {X : Cx} {T : Tb} {N : List Str} {Γ : Str → FS} {G : Str → Option D} {W : WX} {sc : Scope} {own : Str → Bool} {k : Nat}
theorem locIx_ok {fnc : Str → Bool} {x : Str} {i : Nat} (h : locIx N sc fnc x = some i) : N[i]? = some x ∧ (sc.names.lookup x = some .local ∨ (sc.names.lookup x = some .cell ∧ fnc x = true)) := by
  unfold locIx at h
  split at h
  case h_1 e => exact ⟨ixOf_get h, .inl e⟩
  case h_2 e =>
    split at h
    case isTrue f => exact ⟨ixOf_get h, .inr ⟨e, f⟩⟩
    case isFalse => cases h
  case h_3 => cases h
theorem cG_plain {n : Nat} {fnc : Str → Bool} {e : PySem.Expr} {t : Tg} (h : cG N n sc fnc e = some t) {env : Env} {es : List PySem.Expr} : assignEach (e :: es) env = (false, assign e env) :: assignEach es env := by
  cases n with
  | zero => simp [cG] at h
  | succ n => cases e <;> first | rfl | simp [cG] at h
theorem cGs_each {env : Env} : ∀ {n : Nat} {fnc : Str → Bool} {es : List PySem.Expr} {ts : Tgs}, cGs N n sc fnc es = some ts → (assignEach es env).length = es.length ∧ (assignEach es env).findIdx? (·.1) = none
  | 0, _, _, _, h => by simp [cGs] at h
  | _ + 1, _, [], _, h => ⟨rfl, rfl⟩
  | n + 1, fnc, e :: es, _, h => by
    simp only [cGs, bind, Option.bind_eq_some_iff, pure, Option.some.injEq] at h
    obtain ⟨t, h1, ts, h2, h3⟩ := h
    have ih := cGs_each (env := env) h2
    rw [cG_plain h1]
    exact ⟨by rw [List.length_cons, ih.1, List.length_cons], by rw [List.findIdx?_cons]; simp [ih.2]⟩
mutual
theorem sG (g : Gd T N Γ G X W sc own k) : ∀ (n : Nat) (e : PySem.Expr) (t : Tg) (wk : Bool), cG N n sc own e = some t → (wk = true → ∃ ts, t = .tup ts) → PG X e (LG X.K wk (tgSlots t) (wG t))
  | 0, _, _, _, h, _ => by simp [cG] at h
  | n + 1, e, t, wk, h, hw => by
    cases e with
    | Name x p =>
      simp only [cG, Option.map_eq_some_iff] at h
      obtain ⟨i, hi, rfl⟩ := h
      cases wk with
      | true => obtain ⟨ts, e⟩ := hw rfl; cases e
      | false =>
        obtain ⟨h1, h2⟩ := locIx_ok hi
        have hx : Loc X.env.scope x := by rw [g.sc_eq]; rcases h2 with h2 | h2; exact .inl h2; exact .inr h2.1
        have hf : X.fn x = true ∨ X.env.scope.names.lookup x = some .local := by
          rw [g.sc_eq]; rcases h2 with h2 | h2; exact .inr h2; exact .inl (g.own x h2.2)
        have q := pg_name (X := X) (pos := p) (i := i) (x := x) (by rw [g.N_eq]; exact g.nd) (by rw [g.N_eq]; exact h1) hx hf
        refine ⟨fun pins s τ H v u Q I r hq => q.run pins s τ H v u Q I r ?_⟩
        obtain ⟨d, σ, Qd, rd, rs, hw', fin⟩ := hq
        exact fin _ _ hw' (rs.set i rd) .set
    | Tuple es kk p =>
      simp only [cG, Option.map_eq_some_iff] at h
      obtain ⟨ts, hts, rfl⟩ := h
      have q := pg_tup (k := kk) (pos := p) g.calm (sGs g n es ts hts) (cGs_each hts).1 (cGs_each hts).2
      refine ⟨fun pins s τ H v u Q I r hq => q.run pins s τ H v u Q I r ?_⟩
      obtain ⟨d, σ, Qd, rd, rs, hw', fin⟩ := hq
      obtain ⟨l, a, vs, ed, ev, hs, hl⟩ : ∃ l a vs, d = .tup l ∧ v = .ref a ∧ SqT X.K H a vs ∧ RDs X.K H l vs := by
        cases wk with
        | true => exact rd
        | false =>
          have rd : RD X.K H d v := rd
          cases d with
          | tup l => obtain ⟨a, vs, e1, e2, e3⟩ := rd.tupi; exact ⟨l, a, vs, rfl, e1, e2, e3⟩
          | _ => exact (show False from hw').elim
      subst ed ev
      have hw' : wGs ts l σ Qd := hw'
      refine ⟨a, vs, rfl, hs, ?_, l, σ, Qd, hl, rs, hw', fin⟩
      rw [hl.length]
      exact wGs_len hts hw'
    | _ => simp [cG] at h
theorem sGs (g : Gd T N Γ G X W sc own k) : ∀ (n : Nat) (es : List PySem.Expr) (ts : Tgs), cGs N n sc own es = some ts → PGs X es (LGs X.K (tgsSlots ts) (wGs ts))
  | 0, _, _, h => by simp [cGs] at h
  | n + 1, es, ts, h => by
    cases es with
    | nil =>
      simp only [cGs, Option.some.injEq] at h
      subst h
      refine ⟨fun pins s τ H vs us Q I r hq => pgs_nil.run pins s τ H vs us Q I r ?_⟩
      obtain ⟨ds, σ, Qd, rd, rs, hw', fin⟩ := hq
      cases ds with
      | nil => rw [RDs] at rd; exact ⟨rd, fin _ _ hw' rs .refl⟩
      | cons d ds => exact (show False from hw').elim
    | cons e es =>
      simp only [cGs, bind, Option.bind_eq_some_iff, pure, Option.some.injEq] at h
      obtain ⟨t, h1, ts', h2, rfl⟩ := h
      have q := pgs_cons (sG g n e t false h1 (fun z => nomatch z)) (sGs g n es ts' h2) (by rw [cG_plain h1]; rfl)
      refine ⟨fun pins s τ H vs us Q I r hq => q.run pins s τ H vs us Q I r ?_⟩
      obtain ⟨ds, σ, Qd, rd, rs, hw', fin⟩ := hq
      cases ds with
      | nil => exact (show False from hw').elim
      | cons d ds =>
        rw [RDs] at rd
        obtain ⟨v, r', e1, r1, r2⟩ := rd
        have hw' : wG t d σ fun σ' => wGs ts' ds σ' Qd := hw'
        exact ⟨v, r', e1, d, σ, _, r1, rs, hw', fun σ' τ' q' rs' o => ⟨ds, σ', Qd, r2, rs', q', fun σ2 τ2 q2 r2 o2 => fin σ2 τ2 q2 r2 (o.trans o2)⟩⟩
theorem wGs_len : ∀ {n : Nat} {es : List PySem.Expr} {ts : Tgs} {l : List D} {σ : En} {Q : En → Prop}, cGs N n sc own es = some ts → wGs ts l σ Q → l.length = es.length
  | 0, _, _, _, _, _, h, _ => by simp [cGs] at h
  | n + 1, [], _, l, σ, Q, h, w => by
    simp only [cGs, Option.some.injEq] at h
    subst h
    cases l with
    | nil => rfl
    | cons d l => exact (show False from w).elim
  | n + 1, e :: es, _, l, σ, Q, h, w => by
    simp only [cGs, bind, Option.bind_eq_some_iff, pure, Option.some.injEq] at h
    obtain ⟨t, h1, ts', h2, rfl⟩ := h
    cases l with
    | nil => exact (show False from w).elim
    | cons d l =>
      have w : wG t d σ fun σ' => wGs ts' l σ' Q := w
      obtain ⟨σ', w'⟩ := wG_ex w
      rw [List.length_cons, List.length_cons, wGs_len h2 w']
theorem wG_ex : ∀ {t : Tg} {d : D} {σ : En} {Q : En → Prop}, wG t d σ Q → ∃ σ', Q σ'
  | .nm i, _, _, _, w => ⟨_, w⟩
  | .tup ts, d, σ, Q, w => by
    cases d with
    | tup l => exact wGs_ex (show wGs ts l σ Q from w)
    | _ => exact (show False from w).elim
theorem wGs_ex : ∀ {ts : Tgs} {l : List D} {σ : En} {Q : En → Prop}, wGs ts l σ Q → ∃ σ', Q σ'
  | .nil, l, σ, Q, w => by
    cases l with
    | nil => exact ⟨_, w⟩
    | cons d l => exact (show False from w).elim
  | .cons t ts, l, σ, Q, w => by
    cases l with
    | nil => exact (show False from w).elim
    | cons d l =>
      have w : wG t d σ fun σ' => wGs ts l σ' Q := w
      obtain ⟨σ', w'⟩ := wG_ex w
      exact wGs_ex w'
end
end Mi
namespace Mi
open PySem PySem.Spec PyProof.Rows L2
variable {X : Cx} {T : Tb} {N : List Str} {Γ : Str → FS} {G : Str → Option D} {W : WX} {sc : Scope} {own : Str → Bool} {k : Nat} {K : PySem.W.Frag} {F H0 : Hp}
theorem rdw {H : Hp} {d : D} {v : V} (h : RD K H d v) : RDw K H false d v := h
theorem walkL {a : Addr} {l : List D} : WalkOk K false H0 (Itl K a) l (fun S => S a = some (.lst l)) where
  go := fun F i d S H e rel chk ext => by
    obtain ⟨vs, h1, h2⟩ := rel.lst chk
    obtain ⟨v, e1, e2⟩ := h2.get e
    refine ⟨⟨vs, v, .of h1, e1⟩, fun x H' y => ?_⟩
    obtain ⟨rfl, y⟩ := y
    have := y vs (.of h1)
    rw [e1] at this
    cases this
    exact ⟨.refl, rel, e2⟩
  stop := fun F S H rel chk ext => by
    obtain ⟨vs, h1, h2⟩ := rel.lst chk
    exact ⟨vs, .of h1, by rw [h2.length]; exact Nat.le_refl _⟩
theorem walkR {a : Addr} {l : List D} : WalkOk K false H0 (Itl K a) l (fun S => S a = some (.rls l)) where
  go := fun F i d S H e rel chk ext => by
    obtain ⟨o, vs, h1, h2⟩ := rel.rls chk
    obtain ⟨v, e1, e2⟩ := h2.get e
    have hs : SqL K H a vs := .inl (.inr ⟨o, h1⟩)
    refine ⟨⟨vs, v, hs, e1⟩, fun x H' y => ?_⟩
    obtain ⟨rfl, y⟩ := y
    have := y vs hs
    rw [e1] at this
    cases this
    exact ⟨.refl, rel, e2⟩
  stop := fun F S H rel chk ext => by
    obtain ⟨o, vs, h1, h2⟩ := rel.rls chk
    exact ⟨vs, .inl (.inr ⟨o, h1⟩), by rw [h2.length]; exact Nat.le_refl _⟩
theorem walkT {a : Addr} {l : List D} {vs : List V} (hs : SqT K H0 a vs) (hl : RDs K H0 l vs) : WalkOk K false H0 (Itt K a) l (fun _ => True) where
  go := fun F i d S H e rel chk ext => by
    obtain ⟨v, e1, e2⟩ := hl.get e
    refine ⟨⟨vs, v, ext.sqT hs, e1⟩, fun x H' y => ?_⟩
    obtain ⟨rfl, y⟩ := y
    have := y vs (ext.sqT hs)
    rw [e1] at this
    cases this
    exact ⟨.refl, rel, e2.ext ext⟩
  stop := fun F S H rel chk ext => ⟨vs, ext.sqT hs, by rw [hl.length]; exact Nat.le_refl _⟩
theorem walkS {z : Str} (hz : PyData.strOk z = true) : WalkOk K false H0 (Its z) (z.cps.toList.map fun c => D.str ⟨#[c]⟩) (fun _ => True) where
  go := fun F i d S H e rel chk ext => by
    rw [List.getElem?_map, Option.map_eq_some_iff] at e
    obtain ⟨c, e1, e2⟩ := e
    subst e2
    have hi : i < z.cps.size := by simpa using (List.getElem?_eq_some_iff.mp e1).1
    refine ⟨hi, fun x H' y => ?_⟩
    obtain ⟨rfl, c', y1, rfl⟩ := y
    have : c' = c := by
      rw [Array.getElem?_toList] at e1
      rw [e1] at y1
      exact (Option.some.inj y1).symm
    subst this
    exact ⟨.refl, rel, rdw (.str <| strOk_sub hz fun d hd => by
      have : d = c' := by simpa using hd
      subst this
      exact List.mem_of_getElem? e1)⟩
  stop := fun F S H rel chk ext => by
    show z.cps.size ≤ _
    simp
theorem walkN {lo : Int} {n : Nat} : WalkOk K false H0 (Itr lo n) (rngD lo n) (fun _ => True) where
  go := fun F i d S H e rel chk ext => by
    unfold rngD at e
    rw [List.getElem?_map, Option.map_eq_some_iff] at e
    obtain ⟨j, e1, e2⟩ := e
    subst e2
    have hi : i < n := by simpa using (List.getElem?_eq_some_iff.mp e1).1
    rw [List.getElem?_range hi] at e1
    cases e1
    refine ⟨hi, fun x H' y => ?_⟩
    obtain ⟨rfl, rfl⟩ := y
    exact ⟨.refl, rel, rdw .int⟩
  stop := fun F S H rel chk ext => by
    show n ≤ _
    unfold rngD
    simp
theorem RDs.of_idx {K : PySem.W.Frag} {H : Hp} {i : Int} {d : D} {v : V} (h : RD K H d v) : RDs K H [.int i, d] [.int i, v] := .cons .int (.cons h .nil)
theorem enumD_get {l : List D} {i : Nat} {d : D} (h : (enumD l)[i]? = some d) : ∃ hi : i < l.length, d = .tup [.int i, l[i]] := by
  unfold enumD at h
  have hi : i < l.length := by
    have := (List.getElem?_eq_some_iff.mp h).1
    simpa using this
  refine ⟨hi, ?_⟩
  rw [List.getElem?_zipWith, List.getElem?_range hi, List.getElem?_eq_getElem hi] at h
  exact (Option.some.inj h).symm
theorem enumD_len {l : List D} : (enumD l).length = l.length := by
  unfold enumD
  simp
theorem walkE {a : Addr} {l : List D} : WalkOk K true H0 (Ite K a) (enumD l) (fun S => S a = some (.lst l)) where
  go := fun F i d S H e rel chk ext => by
    obtain ⟨vs, h1, h2⟩ := rel.lst chk
    obtain ⟨hi, rfl⟩ := enumD_get e
    obtain ⟨v, e1, e2⟩ := h2.get (List.getElem?_eq_getElem hi)
    refine ⟨⟨vs, v, .of h1, e1⟩, fun x H' y => ?_⟩
    obtain ⟨T, z, rfl, hT, rfl, y⟩ := y
    have := y vs (.of h1)
    rw [e1] at this
    cases this
    exact ⟨.new hT, rel.tup hT, _, T, _, rfl, rfl, .inl (.inl upd_same), (RDs.of_idx e2).ext (.new hT)⟩
  stop := fun F S H rel chk ext => by
    obtain ⟨vs, h1, h2⟩ := rel.lst chk
    exact ⟨vs, .of h1, by rw [h2.length, enumD_len]; exact Nat.le_refl _⟩
theorem walkER {a : Addr} {l : List D} : WalkOk K true H0 (Ite K a) (enumD l) (fun S => S a = some (.rls l)) where
  go := fun F i d S H e rel chk ext => by
    obtain ⟨o, vs, h1, h2⟩ := rel.rls chk
    obtain ⟨hi, rfl⟩ := enumD_get e
    obtain ⟨v, e1, e2⟩ := h2.get (List.getElem?_eq_getElem hi)
    have hs : SqL K H a vs := .inl (.inr ⟨o, h1⟩)
    refine ⟨⟨vs, v, hs, e1⟩, fun x H' y => ?_⟩
    obtain ⟨T, z, rfl, hT, rfl, y⟩ := y
    have := y vs hs
    rw [e1] at this
    cases this
    exact ⟨.new hT, rel.tup hT, _, T, _, rfl, rfl, .inl (.inl upd_same), (RDs.of_idx e2).ext (.new hT)⟩
  stop := fun F S H rel chk ext => by
    obtain ⟨o, vs, h1, h2⟩ := rel.rls chk
    exact ⟨vs, .inl (.inr ⟨o, h1⟩), by rw [h2.length, enumD_len]; exact Nat.le_refl _⟩
def AltI (K : PySem.W.Frag) (x : V) (H1 : Hp) (R : It → Hp → Prop) : Prop := (∃ a, x = .ref a ∧ (∃ xs, SqL K H1 a xs) ∧ R (Itl K a) H1) ∨ (∃ a, x = .ref a ∧ (∃ xs, SqT K H1 a xs) ∧ R (Itt K a) H1) ∨ (∃ z, x = .str z ∧ R (Its z) H1) ∨ ∃ a o kvs, x = .ref a ∧ H1 a = some (.frz o (.dK kvs)) ∧ R (Itk a o kvs) H1
def iOf (K : PySem.W.Frag) (te : TE) : TI := fun σ H R => te σ H fun x H1 => (∃ a ws, x = .ref a ∧ H1 a = some (.dK ws) ∧ ∀ o, AltI K x (upd H1 a (.frz o (.dK ws))) R) ∨ AltI K x H1 R
theorem pi_of {tg l : PySem.Expr} {tl : TE} (hl : PE X l tl) : PI X tg l (iOf X.K tl) := by
  refine ⟨fun pins s σ H R I h => ?_⟩
  refine thn (hl.run pins s σ H _ I h) fun v s1 ⟨x, H0, I0, r1, q0⟩ => ?_
  have q1 : ∃ H1, Inv X pins σ H1 s1 ∧ AltI X.K x H1 R := by
    rcases q0 with ⟨a, ws, e, hd, q⟩ | q
    · obtain ⟨o, I1⟩ := I0.lock hd True.intro
      exact ⟨_, I1, q o⟩
    · exact ⟨_, I0, q⟩
  obtain ⟨H1, I1, q1⟩ := q1
  rcases q1 with ⟨a, e, ⟨xs, hq⟩, q⟩ | ⟨a, e, ⟨xs, hq⟩, q⟩ | ⟨z, e, q⟩ | ⟨d, o, kvs, e, hd, q⟩
  · subst e
    cases r1
    obtain ⟨its, rv, p, hz⟩ := I1.list hq
    refine wpAny_pyIter_list p.isList ?_
    refine ⟨s1.heap.objs.size, [s1.heap.objs.size], _, _, H1, rfl, I1.kept (t' := s1.toks) fun b o e => Heap.get?_push_of_some _ e, turn_list a _, ⟨_, Heap.get?_push_size _ rfl, rfl, rfl⟩, fun b hb => ?_, q⟩
    have e : b = s1.heap.objs.size := by simpa using hb
    subst e
    exact I1.fpOk (Nat.le_refl _) (I1.hok.fresh (Nat.le_refl _))
  · subst e
    cases r1
    obtain ⟨its, rv, p, hz⟩ := I1.tuple hq
    refine wpAny_pyIter_tuple (show s1.heap.IsTuple a its.toArray from p) ?_
    refine ⟨s1.heap.objs.size, [s1.heap.objs.size], _, _, H1, rfl, I1.kept (t' := s1.toks) fun b o e => Heap.get?_push_of_some _ e, turn_tuple a _, ⟨_, Heap.get?_push_size _ rfl, rfl, rfl⟩, fun b hb => ?_, q⟩
    have e : b = s1.heap.objs.size := by simpa using hb
    subst e
    exact I1.fpOk (Nat.le_refl _) (I1.hok.fresh (Nat.le_refl _))
  · subst e
    obtain ⟨t, rfl⟩ := r1
    cases ha : z.cps.all (· < 128)
    · exact wpAny_pyIter_wide ha (pi_one (tk := s1.toks) I1 _ (turn_str _ z t "str_iterator" (.inr rfl)) ⟨_, Heap.get?_push_size _ rfl, rfl, rfl⟩ q)
    · exact wpAny_pyIter_ascii ha (pi_one (tk := s1.toks) I1 _ (turn_str _ z t "str_ascii_iterator" (.inl rfl)) ⟨_, Heap.get?_push_size _ rfl, rfl, rfl⟩ q)
  · subst e
    cases r1
    obtain ⟨w1, w2, w3, es, ep, vs, w4, w5, w6, w7⟩ := I1.frzK hd
    have tk := turn_keys (P := X.prog) (w := X.w) (K := X.K) (tg := tg) (d := d) (kvs := kvs) s1.heap.objs.size w4
    exact iter_keys w1 w2 w3 w4 (pi_one (tk := s1.toks) I1 _ tk ⟨_, Heap.get?_push_size _ rfl, rfl, by rw [w5] <;> rfl⟩ q)
theorem PI.imp {tg e : PySem.Expr} {t t' : TI} (h : PI X tg e t) (i : ∀ σ H Q, t' σ H Q → t σ H Q) : PI X tg e t' := ⟨fun pins s σ H Q I q => h.run pins s σ H Q I (i σ H Q q)⟩
theorem RK.idx {H : Hp} : ∀ {kvs : List (D × D)} {ws : List (Key × V)} {i : Nat} {p : D × D}, RK K H kvs ws → kvs[i]? = some p → ∃ k v, ws[i]? = some (k, v) ∧ keyD p.1 = some k ∧ RD K H p.2 v
  | [], _, _, _, _, e => by simp at e
  | (k, d) :: l, ws, 0, p, h, e => by
    rw [RK] at h
    obtain ⟨k', v, r, rfl, h2, h3, h4⟩ := h
    simp only [List.getElem?_cons_zero, Option.some.injEq] at e
    subst e
    exact ⟨k', v, rfl, h2, h3⟩
  | (k, d) :: l, ws, i + 1, p, h, e => by
    rw [RK] at h
    obtain ⟨k', v, r, rfl, h2, h3, h4⟩ := h
    obtain ⟨k2, v2, g1, g2, g3⟩ := RK.idx (i := i) h4 (by simpa using e)
    exact ⟨k2, v2, by simpa using g1, g2, g3⟩
theorem RK.len {H : Hp} : ∀ {kvs : List (D × D)} {ws : List (Key × V)}, RK K H kvs ws → ws.length = kvs.length
  | [], ws, h => by rw [RK] at h; rw [h]; rfl
  | (k, d) :: l, ws, h => by
    rw [RK] at h
    obtain ⟨k', v, r, rfl, h2, h3, h4⟩ := h
    rw [List.length_cons, List.length_cons, RK.len h4]
theorem keyW_rd {H : Hp} {d : D} {k : Key} (hk : keyD d = some k) (hw : keyW d = true) : RD K H d (kV k) := by
  cases d with
  | int i => cases hk; exact .int
  | str z => cases hk; exact .str hw
  | _ => cases hk
theorem walkKeys {a : Addr} {o : Obj} {kvs : List (D × D)} {ws : List (Key × V)} (h1 : H0 a = some (.frz o (.dK ws))) (h2 : RK K H0 kvs ws) (hw : kvs.all (fun kv => keyW kv.1) = true) : WalkOk K false H0 (Itk a o ws) (kvs.map (·.1)) (fun S => S a = some (.fdc kvs)) where
  go := fun F i d S H e rel chk ext => by
    rw [List.getElem?_map, Option.map_eq_some_iff] at e
    obtain ⟨p, e1, rfl⟩ := e
    obtain ⟨k, v, g1, g2, g3⟩ := RK.idx h2 e1
    refine ⟨⟨ext.frz _ _ _ h1, (List.getElem?_eq_some_iff.mp g1).1⟩, fun x H' y => ?_⟩
    obtain ⟨rfl, k', v', y1, rfl⟩ := y
    rw [g1] at y1
    cases y1
    exact ⟨.refl, rel, rdw (keyW_rd g2 (List.all_eq_true.mp hw p (List.mem_of_getElem? e1)))⟩
  stop := fun F S H rel chk ext => ⟨ext.frz _ _ _ h1, by rw [List.length_map, RK.len h2]; exact Nat.le_refl _⟩
theorem walkItems {a : Addr} {o : Obj} {kvs : List (D × D)} {ws : List (Key × V)} (h1 : H0 a = some (.frz o (.dK ws))) (h2 : RK K H0 kvs ws) (hw : kvs.all (fun kv => keyW kv.1) = true) : WalkOk K true H0 (Iti a o ws) (kvs.map fun kv => D.tup [kv.1, kv.2]) (fun S => S a = some (.fdc kvs)) where
  go := fun F i d S H e rel chk ext => by
    rw [List.getElem?_map, Option.map_eq_some_iff] at e
    obtain ⟨p, e1, rfl⟩ := e
    obtain ⟨k, v, g1, g2, g3⟩ := RK.idx h2 e1
    refine ⟨⟨ext.frz _ _ _ h1, (List.getElem?_eq_some_iff.mp g1).1⟩, fun x H' y => ?_⟩
    obtain ⟨T, k', v', y1, rfl, hT, rfl⟩ := y
    rw [g1] at y1
    cases y1
    have rk : RD K H p.1 (kV k) := keyW_rd g2 (List.all_eq_true.mp hw p (List.mem_of_getElem? e1))
    exact ⟨.new hT, rel.tup hT, _, T, _, rfl, rfl, .inl (.inl upd_same), RDs.ext (.new hT) _ _ (.cons rk (.cons (g3.ext ext) .nil))⟩
  stop := fun F S H rel chk ext => ⟨ext.frz _ _ _ h1, by rw [List.length_map, RK.len h2]; exact Nat.le_refl _⟩
theorem Rel.lock {S : Sto} {H : Hp} {a : Addr} {kvs : List (D × D)} {ws : List (Key × V)} (r : Rel K S F H) (h : S a = some (.dct kvs)) (h1 : H a = some (.dK ws)) (h2 : RK K H kvs ws) (o : Obj) :
    Ext H (upd H a (.frz o (.dK ws))) ∧ Rel K (S.upd a (.fdc kvs)) F (upd H a (.frz o (.dK ws))) := by
  have x : Ext H (upd H a (.frz o (.dK ws))) := .write h1 (fun _ z => nomatch z) fun _ _ z => nomatch z
  exact ⟨x, r.write h x ⟨o, ws, upd_same, h2.ext x⟩⟩
theorem itR_of {d : D} {S : Sto} {Q : KI} {x : V} {H : Hp} {R : It → Hp → Prop} (rel : Rel K S F H) (rd : RD K H d x) (h : itR d S Q) (kr : ∀ l chk S' J H', Q l chk S' → Ext H H' → Rel K S' F H' → WalkOk K false H' J l chk → R J H') :
    (∃ a ws, x = .ref a ∧ H a = some (.dK ws) ∧ ∀ o, AltI K x (upd H a (.frz o (.dK ws))) R) ∨ AltI K x H R := by
  cases d with
  | tup l =>
    obtain ⟨a, vs, e, hs, hl⟩ := rd.tupi
    exact .inr (.inr (.inl ⟨a, e, ⟨vs, hs⟩, kr _ _ _ _ _ h .refl rel (walkT hs hl)⟩))
  | str z =>
    obtain ⟨e, ok⟩ := rd.stri
    exact .inr (.inr (.inr (.inl ⟨z, e, kr _ _ _ _ _ h .refl rel (walkS ok)⟩)))
  | ref a =>
    have e := rd.refi
    simp only [itR] at h
    split at h
    case h_1 l hl =>
      obtain ⟨vs, h1, h2⟩ := rel.lst hl
      exact .inr (.inl ⟨a, e, ⟨vs, .of h1⟩, kr _ _ _ _ _ h .refl rel walkL⟩)
    case h_2 l hl =>
      obtain ⟨o, vs, h1, h2⟩ := rel.rls hl
      exact .inr (.inl ⟨a, e, ⟨vs, .inl (.inr ⟨o, h1⟩)⟩, kr _ _ _ _ _ h .refl rel walkR⟩)
    case h_3 kvs hl =>
      obtain ⟨ws, h1, h2⟩ := rel.dct hl
      refine .inl ⟨a, ws, e, h1, fun o => ?_⟩
      obtain ⟨x1, rel1⟩ := rel.lock hl h1 h2 o
      exact .inr (.inr (.inr ⟨a, o, ws, e, upd_same, kr _ _ _ _ _ h.2 x1 rel1 (walkKeys upd_same (h2.ext x1) h.1)⟩))
    case h_4 kvs hl =>
      obtain ⟨o, ws, h1, h2⟩ := rel.fdc hl
      exact .inr (.inr (.inr (.inr ⟨a, o, ws, e, h1, kr _ _ _ _ _ h.2 .refl rel (walkKeys h1 h2 h.1)⟩)))
    case h_5 => exact h.elim
  | _ => exact (show False from h).elim
end Mi
namespace Mi
open PySem PySem.Spec PyProof.Rows L2
variable {X : Cx} {K : PySem.W.Frag}
set_option maxHeartbeats 1000000 in
theorem enum_of {src : Value} {ob : Obj} {Hy : Heap → Prop} (bg : Begins src ob Hy) :
    Meets (Builtin.«enumerate.__new__» ⟨[.type "enumerate", src], []⟩) (fun _ Rr sh => Hy sh.heap ∧
      Rr (.ok (.ret (.ref (sh.heap.push ob).objs.size))) { sh with heap := (sh.heap.push ob).push { cls := .type "enumerate", data := .fields #[.none, .bool false, .ref sh.heap.objs.size, rawInt 0, .none, .none] } }) :=
  .of_wp fun prog w A Rr sh h => by
    obtain ⟨hp, gn, dr, tk, os⟩ := sh
    obtain ⟨h1, h⟩ := h
    have hsub := sub_enumerate
    have go : ∀ {A' : Around} {E : Value → Shared → Prop} {Q : Value → Shared → Prop}, Q (.ref hp.objs.size) ⟨hp.push ob, gn, dr, tk, os⟩ → wpAny (model prog w) A' (pyIter src) Q E ⟨hp, gn, dr, tk, os⟩ :=
      fun z => bg.iter prog w _ _ ⟨hp, gn, dr, tk, os⟩ _ h1 z
    wp_walk using go
    refine wpAny_stack_any fun st => wpAny_pure ?_
    split
    · rename_i c _ _ _ _ _
      cases (c == Value.type "enumerate") <;> (wp_walk using go; exact ⟨_, rfl, h⟩)
    · wp_walk using go
      exact ⟨_, rfl, h⟩
theorem enum_call {prog : Program} {w : World} {A : Around} {E : Value → Shared → Prop} {sh : Shared} {src : Value} {ob : Obj} {Hy : Heap → Prop} {Q : Value → Shared → Prop} (bg : Begins src ob Hy) (h1 : Hy sh.heap)
    (fin : ∀ h', IsEnum h' (sh.heap.objs.size + 1) sh.heap.objs.size 0 .none → h'.get? sh.heap.objs.size = some ob → (∀ b q, sh.heap.get? b = some q → h'.get? b = some q) → Q (.ref (sh.heap.objs.size + 1)) { sh with heap := h' }) :
    wpAny (model prog w) A (call (.type "enumerate") [src]) Q E sh := by
  refine callType_new F.called_enumerate (by decide) (F.typeCall_enumerate_1 _) (F.newCall_enumerate_1 _) (fun o => F.args_object_init_2 o _) F.entry_enumerate_new (enum_of bg) ⟨h1, ?_⟩
  have sz : (sh.heap.push ob).objs.size = sh.heap.objs.size + 1 := Heap.size_push ..
  generalize hE : (sh.heap.push ob).push { cls := .type "enumerate", data := .fields #[.none, .bool false, .ref sh.heap.objs.size, rawInt 0, .none, .none] } = hN
  have top : IsEnum hN (sh.heap.objs.size + 1) sh.heap.objs.size 0 .none := by
    rw [← hE, ← sz]
    exact Heap.get?_push_size _ rfl
  show _ ∧ _
  rw [sz]
  refine ⟨⟨_, top, rfl⟩, fin hN top ?_ fun b q e => ?_⟩
  · rw [← hE]; exact Heap.get?_push_of_some _ (Heap.get?_push_size _ bg.free)
  · rw [← hE]; exact Heap.get?_push_of_some _ (Heap.get?_push_of_some _ e)
theorem enum_end {prog : Program} {w : World} {A : Around} {E : Value → Shared → Prop} {sh : Shared} {en ti a : Addr} {i : Nat} {k : Int} {items : Array Value} {old : Value} {Q : Option Value → Shared → Prop} (hh : A.handled = none) (he : IsEnum sh.heap en ti k old)
    (hit : sh.heap.IsTupleIter ti a i) (ht : sh.heap.IsTuple a items) (hx : items[i]? = none) (hQ : ∀ h', Heap.ExtBut ti sh.heap h' → Q none { sh with heap := h' }) : wpAny (model prog w) A (pyNext (.ref en)) Q E sh := by
  have dw : Draws prog w A.in1 ti [ti, a] i (fun _ _ => False) (fun j h => j = i ∧ h.IsTupleIter ti a i ∧ h.IsTuple a items) := {
    live := fun _ _ st => let ⟨o, ho, _⟩ := st.2.1; ⟨o, ho⟩
    frame := fun _ _ _ st hk => ⟨st.1, st.2.1.at fun o e => hk ti (by simp) o e, st.2.2.at fun o e => hk a (by simp) o e⟩
    item := fun j s Q E hj st _ => absurd hj (by rw [st.1]; exact Nat.lt_irrefl _)
    done := fun s Q E st hE => wpAny_nextOf_tuple_end hh st.2.1 st.2.2 hx hE }
  exact wpAny_pyNext_enum_endD dw he ⟨rfl, hit, ht⟩ hQ
def ItP (K : PySem.W.Frag) (a : Addr) : It :=
  ⟨fun i H => ∃ (ys : List V) (y : V), SqT K H a ys ∧ ys[i]? = some y, fun i H v H' => ∃ T y, v = .ref T ∧ H T = none ∧ H' = upd H T (.tup [.int (i : Nat), y]) ∧ ∀ ys, SqT K H a ys → ys[i]? = some y, fun i H => ∃ ys : List V, SqT K H a ys ∧ ys.length ≤ i⟩
theorem turnP {P : Program} {w : World} {elts : List PySem.Expr} {kk : Nat} {tpos : Pos} (a en ti : Addr) :
    Turn P w K (.Tuple elts kk tpos) (ItP K a) [en, ti] en (fun i h => (∃ old, IsEnum h en ti ((i : Nat) : Int) old) ∧ h.IsTupleIter ti a i ∧ en ≠ ti) where
  mem := List.mem_cons_self ..
  obj := fun i h st b hb => by
    obtain ⟨⟨old, he⟩, ⟨o, ho, hc, hd⟩, _⟩ := st
    rcases List.mem_cons.mp hb with z | z
    · subst z; exact ⟨_, he, fun v q => nomatch q⟩
    · cases List.mem_singleton.mp z
      exact ⟨o, ho, fun v q => by rw [hd] at q; cases q⟩
  keep := fun i h h' ⟨⟨old, he⟩, hi, ne⟩ kp => ⟨⟨old, kp en (by simp) _ he⟩, hi.at fun o q => kp ti (by simp) o q, ne⟩
  item := by
    rintro X rfl rfl rfl hc i pins s σ H E I hf ⟨⟨old, he⟩, hit, ne⟩ ⟨ys, y, hq, hy⟩
    obtain ⟨its, rv, p, hz⟩ := I.tuple hq
    have pT : s.heap.IsTuple a its.toArray := p
    obtain ⟨u, hu, ru⟩ := rv.get hy
    have le : en < s.heap.objs.size := Heap.lt_size he
    have lt : ti < s.heap.objs.size := by obtain ⟨_, q, _⟩ := hit; exact Heap.lt_size q
    have ai : a ≠ ti := fun z => by
      obtain ⟨o1, g1, g2, _⟩ := hit
      obtain ⟨o2, g3, g4, _⟩ := pT
      rw [z, g1] at g3
      cases g3
      rw [g2] at g4
      exact absurd g4 (by decide)
    have ae : a ≠ en := fun z => by
      obtain ⟨o2, g3, g4, _⟩ := pT
      rw [z, he] at g3
      cases g3
      exact absurd (show Value.type "enumerate" = Value.type "tuple" from g4) (by decide)
    have dw := Draws.tuple (prog := X.prog) (w := X.w) (A := X.A.in1) (I.ok.hd hc) ti a ai its.toArray
    have hi : i < its.toArray.size := by simpa using (List.getElem?_eq_some_iff.mp hu).1
    refine wpAny_pyNext_enum_itemD dw he ⟨hit, pT⟩ hi ne (by simp [ne, Ne.symm ae]) fun x h' tk px ho st' hT hsz hk => ?_
    have ex : x = u := by
      rw [List.getElem?_toArray, hu] at px
      exact (Option.some.inj px).symm
    subst ex
    refine ⟨_, rfl, wpAny_letOwnedTupleGo_enum (s := { s with heap := h', toks := tk + 1 }) ho fun h2 he2 sb => ?_⟩
    have hT2 := (sb.2 _ (Nat.ne_of_gt le)).trans hT
    have nw : ObjOk X.prog X.w (upd H s.heap.objs.size (.tup [.int (i : Nat), y])) h2 s.heap.objs.size (.tup [.int (i : Nat), y]) :=
      ⟨by show 2 ≤ sizeLine; decide, [.int i tk, x], .cons ⟨_, rfl⟩ (.cons ru .nil), _, hT2, rfl, _, rfl⟩
    have I1 := I.turnedNew (t' := tk + 1) (ch := [en, ti]) (fun b ob hb q => (sb.2 b (fun z => hb (by rw [z]; simp))).trans (hk b ob (fun z => hb (by rw [z]; simp)) (fun z => hb (by rw [z]; simp)) q)) hf (Nat.le_refl _) nw
    refine ⟨.ref s.heap.objs.size, _, I1, rfl, ⟨_, y, rfl, I.hok.fresh (Nat.le_refl _), rfl, fun zs hzs => by rw [I.tuple_inj hzs hq]; exact hy⟩, ⟨⟨x, ?_⟩, st'.1.at fun o q => (sb.2 ti (Ne.symm ne)).trans q, ne⟩, fun b hb => ?_⟩
    · rw [show ((i + 1 : Nat) : Int) = (i : Int) + 1 from by omega]; exact he2
    · have lb : b < s.heap.objs.size := by
        rcases List.mem_cons.mp hb with z | z
        · rw [z]; exact le
        · rw [List.mem_singleton.mp z]; exact lt
      rw [upd_ne (Nat.ne_of_lt lb)]
      exact (hf b hb).1
  done := by
    rintro X rfl rfl rfl hc i pins s σ H E I hf ⟨⟨old, he⟩, hit, ne⟩ ⟨ys, hq, hy⟩
    obtain ⟨its, rv, p, hz⟩ := I.tuple hq
    have pT : s.heap.IsTuple a its.toArray := p
    obtain ⟨f0, f1, f2, f3, f4, f5⟩ := hf ti (by simp)
    have hl := rv.length
    refine enum_end (I.ok.hd hc) he hit pT (by simp; omega) fun h' eb => ⟨rfl, I.turned (t' := s.toks) (fun b o hb q => eb b o hb q) f0 f1 f3 f4 f5⟩
  self := fun A i s Q E st h => let ⟨⟨_, he⟩, _⟩ := st; wpAny_pyIter_enum he h
def iEnumX (K : PySem.W.Frag) (ta : TA) : TI := fun σ H R => ta σ H fun vs H1 => ∃ a xs, vs = [.ref a] ∧ ((SqL K H1 a xs ∧ R (Ite K a) H1) ∨ (SqT K H1 a xs ∧ R (ItP K a) H1))
theorem pi_enumX {e : PySem.Expr} {ta : TA} {p pos tpos : Pos} {elts : List PySem.Expr} {kk : Nat} (hg : Gl X "enumerate") (hm : X.mg "enumerate" = none) (ha : PA X [e] ta) (hs : starEach [e] X.env = [(false, eval e X.env)]) :
    PI X (.Tuple elts kk tpos) (.Call (.Name "enumerate" p) [e] [] pos) (iEnumX X.K ta) := by
  refine ⟨fun pins s σ H R I h => Call_ (ld_blt I hg hm boot_enumerate (PyProof.Rows.callWith_type1 (thn (ha.run pos pins s σ H _ I h) fun us s1 ⟨vs, H1, I1, r1, a, xs, ex, q1⟩ => ?_) hs rfl))⟩
  subst ex
  obtain ⟨u, rfl, r⟩ : ∃ u, us = [u] ∧ RelV (V.ref a) u := by
    cases r1 with
    | cons r rr => cases rr; exact ⟨_, rfl, r⟩
  obtain rfl : u = Value.ref a := r
  have fresh : ∀ b ∈ ([s1.heap.objs.size + 1, s1.heap.objs.size] : List Addr), FpOk X pins H1 b := fun b hb => by
    have hle : s1.heap.objs.size ≤ b := by
      rcases List.mem_cons.mp hb with z | z
      · rw [z]; exact Nat.le_succ _
      · rw [List.mem_singleton.mp z]; exact Nat.le_refl _
    exact I1.fpOk hle (I1.hok.fresh hle)
  rcases q1 with ⟨hq, q⟩ | ⟨hq, q⟩
  · obtain ⟨its, rv, p', hz⟩ := I1.list hq
    exact call_enumerate_list p'.isList fun h' he hit hsz hk => wpAny_pyIter_enum he ⟨_, [_, s1.heap.objs.size], _, _, H1, rfl, I1.kept (t' := s1.toks) hk, turn_enum a _ s1.heap.objs.size, ⟨⟨.none, he⟩, hit, Nat.succ_ne_self _⟩, fresh, q⟩
  · obtain ⟨its, rv, p', hz⟩ := I1.tuple hq
    have pT : s1.heap.IsTuple a its.toArray := p'
    exact enum_call (begins_tuple a its.toArray) pT fun h' he ho hk => wpAny_pyIter_enum he ⟨_, [_, s1.heap.objs.size], _, _, H1, rfl, I1.kept (t' := s1.toks) hk, turnP a _ s1.heap.objs.size, ⟨⟨.none, he⟩, ⟨_, ho, rfl, rfl⟩, Nat.succ_ne_self _⟩, fresh, q⟩
theorem walkP {H0 : Hp} {a : Addr} {l : List D} {vs : List V} (hs : SqT K H0 a vs) (hl : RDs K H0 l vs) : WalkOk K true H0 (ItP K a) (enumD l) (fun _ => True) where
  go := fun F i d S H e rel chk ext => by
    obtain ⟨hi, rfl⟩ := enumD_get e
    obtain ⟨v, e1, e2⟩ := hl.get (List.getElem?_eq_getElem hi)
    refine ⟨⟨vs, v, ext.sqT hs, e1⟩, fun x H' y => ?_⟩
    obtain ⟨T, z, rfl, hT, rfl, y⟩ := y
    have q := y vs (ext.sqT hs)
    rw [e1] at q
    cases q
    exact ⟨.new hT, rel.tup hT, _, T, _, rfl, rfl, .inl (.inl upd_same), (RDs.of_idx (e2.ext ext)).ext (.new hT)⟩
  stop := fun F S H rel chk ext => ⟨vs, ext.sqT hs, by rw [hl.length, enumD_len]; exact Nat.le_refl _⟩
theorem walkDn {H0 : Hp} {lo : Int} {n : Nat} : WalkOk K false H0 (Itc lo (-1) n) (rngDn lo n) (fun _ => True) where
  go := fun F i d S H e rel chk ext => by
    unfold rngDn at e
    rw [List.getElem?_map, Option.map_eq_some_iff] at e
    obtain ⟨j, e1, e2⟩ := e
    subst e2
    have hi : i < n := by simpa using (List.getElem?_eq_some_iff.mp e1).1
    rw [List.getElem?_range hi] at e1
    cases e1
    refine ⟨hi, fun x H' y => ?_⟩
    obtain ⟨rfl, rfl⟩ := y
    exact ⟨.refl, rel, rdw .int⟩
  stop := fun F S H rel chk ext => by
    show n ≤ _
    unfold rngDn
    simp
def tLk (td : TE) : TE := fun σ H Q => td σ H fun x H1 => (∃ a ws, x = .ref a ∧ H1 a = some (.dK ws) ∧ ∀ o, Q x (upd H1 a (.frz o (.dK ws)))) ∨ Q x H1
theorem pe_lk {e : PySem.Expr} {td : TE} (he : PE X e td) : PE X e (tLk td) := by
  refine ⟨fun pins s σ H Q I q => thn (he.run pins s σ H _ I q) fun v s1 ⟨x, H1, I1, r1, q1⟩ => ?_⟩
  rcases q1 with ⟨a, ws, e, hd, q1⟩ | q1
  · obtain ⟨o, I2⟩ := I1.lock hd True.intro
    exact ⟨x, _, I2, r1, q1 o⟩
  · exact ⟨x, H1, I1, r1, q1⟩
theorem itmR_of {F : Hp} {d : D} {S : Sto} {Q : KI} {x : V} {H : Hp} {R : It → Hp → Prop} (rel : Rel K S F H) (rd : RD K H d x) (h : itmR d S Q) (kr : ∀ l chk S' J H', Q l chk S' → Ext H H' → Rel K S' F H' → WalkOk K true H' J l chk → R J H') :
    (∃ a ws, x = .ref a ∧ H a = some (.dK ws) ∧ ∀ o, ∃ a' o' ks, x = .ref a' ∧ upd H a (.frz o (.dK ws)) a' = some (.frz o' (.dK ks)) ∧ R (Iti a' o' ks) (upd H a (.frz o (.dK ws)))) ∨ ∃ a o ks, x = .ref a ∧ H a = some (.frz o (.dK ks)) ∧ R (Iti a o ks) H := by
  cases d with
  | ref a =>
    have e := rd.refi
    simp only [itmR] at h
    split at h
    case h_1 kvs hl =>
      obtain ⟨ws, h1, h2⟩ := rel.dct hl
      refine .inl ⟨a, ws, e, h1, fun o => ?_⟩
      obtain ⟨x1, rel1⟩ := rel.lock hl h1 h2 o
      exact ⟨a, o, ws, e, upd_same, kr _ _ _ _ _ h.2 x1 rel1 (walkItems upd_same (h2.ext x1) h.1)⟩
    case h_2 kvs hl =>
      obtain ⟨o, ws, h1, h2⟩ := rel.fdc hl
      exact .inr ⟨a, o, ws, e, h1, kr _ _ _ _ _ h.2 .refl rel (walkItems h1 h2 h.1)⟩
    case h_3 => exact h.elim
  | _ => exact (show False from h).elim
end Mi
namespace Mi
open PySem PySem.Spec PyProof.Rows L2
variable {X : Cx} {T : Tb} {N : List Str} {Γ : Str → FS} {G : Str → Option D} {W : WX} {sc : Scope} {own : Str → Bool} {k : Nat}
def plainX : PySem.Expr → Bool
  | .Starred .. => false | .Slice .. => false | .Set .. => false | .NamedExpr .. => false
  | _ => true
theorem cB_plain : ∀ {n : Nat} {op : PySem.BoolOp} {es : List PySem.Expr} {c : E}, cB T N n sc op es = some c → True := fun _ => trivial
theorem cE_plain {n : Nat} {e : PySem.Expr} {c : E} (h : cE T N n sc e = some c) : plainX e = true := by
  cases n with
  | zero => simp [cE] at h
  | succ n => cases e <;> first | rfl | simp [cE] at h
theorem plain_star {e : PySem.Expr} (h : plainX e = true) (es : List PySem.Expr) (env : Env) : starEach (e :: es) env = (false, eval e env) :: starEach es env := by
  cases e <;> first | rfl | simp [plainX] at h
theorem plain_ix {e : PySem.Expr} (h : plainX e = true) : PlainIx e := by
  intro o i
  cases e <;> first | rfl | simp [plainX] at h
theorem plain_fold {e : PySem.Expr} (h : plainX e = true) (env : Env) (x : Value) : foldedSetIterable e env x = pure x := by
  cases e <;> first | rfl | simp [plainX] at h
theorem plain_mark {e : PySem.Expr} (h : plainX e = true) (op : CmpOp) : behindInMarks op e = false := by
  cases e <;> first | rfl | simp [plainX] at h
theorem cEs_star {env : Env} {pos : Pos} : ∀ {n : Nat} {es : List PySem.Expr} {cs : Es}, cEs T N n sc es = some cs → ((backTo pos (starEach es env)).any (·.1)) = false
  | 0, _, _, h => by simp [cEs] at h
  | _ + 1, [], _, _ => rfl
  | n + 1, e :: es, _, h => by
    simp only [cEs, bind, Option.bind_eq_some_iff, pure, Option.some.injEq] at h
    obtain ⟨t, h1, ts, h2, h3⟩ := h
    have ih := cEs_star (env := env) (pos := pos) h2
    rw [plain_star (cE_plain h1)]
    unfold backTo at ih ⊢
    rw [List.map_cons, List.any_cons, ih]
    rfl
theorem okN_1 {x : Str} (h : okN x = true) : (x == ("__debug__" : Str)) = false ∧ (x == ("__classdict__" : Str)) = false ∧ x ≠ ("__name__" : Str) := by
  unfold okN at h
  simp only [Bool.and_eq_true, Bool.not_eq_true'] at h
  refine ⟨h.1.1, h.1.2, fun e => ?_⟩
  have := h.2
  rw [e] at this
  simp at this
theorem visIx_ok {x : Str} {i : Nat} (h : visIx N sc x = some i) : N[i]? = some x ∧ Vis sc x ∧ okN x = true := by
  unfold visIx at h
  split at h
  case h_1 e => split at h; case isTrue f => exact ⟨ixOf_get h, .inl e, f⟩
                case isFalse => cases h
  case h_2 e => split at h; case isTrue f => exact ⟨ixOf_get h, .inr (.inl e), f⟩
                case isFalse => cases h
  case h_3 e => split at h; case isTrue f => exact ⟨ixOf_get h, .inr (.inr e), f⟩
                case isFalse => cases h
  case h_4 => cases h
theorem glB_ok {x : Str} (h : glB sc x = true) : sc.names.lookup x = some .globalImplicit ∧ okN x = true := by
  unfold glB at h
  rw [Bool.and_eq_true, decide_eq_true_eq] at h
  exact h
theorem Gd.gl (g : Gd T N Γ G X W sc own k) {x : Str} (h : glB sc x = true) : Gl X x := by
  have := (glB_ok h).1
  unfold Gl
  rw [← g.sc_eq] at this
  exact this
theorem LE.mk {K : PySem.W.Frag} {w : WE1} {τ : L2.St} {H : Hp} {Q : VK} {σ : En} {S : Sto} {F : Hp} {Qd : KD} {Xd : KX} (rel : Rel K S F H) (rs : RS K H σ τ) (h : w σ S Qd Xd) (kv : KV K F H Qd Q) (kx : KXs K F H Xd (WE W τ)) : LE K W w τ H Q :=
  ⟨σ, S, F, Qd, Xd, rel, rs, h, kv, kx⟩
theorem le_op {K : PySem.W.Frag} {w1 w2 : WE1} {r : D → D → Sto → KD → Prop} {τ : L2.St} {H : Hp} {Q : VK} (h : LE K W (fun σ S Q X => w1 σ S (fun x S1 => w2 σ S1 (fun y S2 => r x y S2 Q) X) X) τ H Q) : tOp (LO K r) (LE K W w1) (LE K W w2) τ H Q := by
  obtain ⟨σ, S, F, Qd, Xd, rel, rs, hw, kv, kx⟩ := h
  refine ⟨σ, S, F, _, Xd, rel, rs, hw, fun d S1 x H1 q1 e1 rel1 rd1 => ?_, kx⟩
  refine ⟨σ, S1, F, _, Xd, rel1, rs.ext e1, q1, fun d2 S2 y H2 q2 e2 rel2 rd2 => ?_, kx.ext e1⟩
  exact ⟨d, d2, S2, F, Qd, rel2, RD.ext e2 _ _ rd1, rd2, q2, kv.ext (e1.trans e2)⟩
theorem le_cmp {K : PySem.W.Frag} {w1 w2 : WE1} {r : D → D → Sto → (Bool → Prop) → Prop} {τ : L2.St} {H : Hp} {Q : VK} (h : LE K W (fun σ S Q X => w1 σ S (fun x S1 => w2 σ S1 (fun y S2 => r x y S2 fun b => Q (.bl b) S2) X) X) τ H Q) : tOp (LB K r) (LE K W w1) (LE K W w2) τ H Q := by
  obtain ⟨σ, S, F, Qd, Xd, rel, rs, hw, kv, kx⟩ := h
  refine ⟨σ, S, F, _, Xd, rel, rs, hw, fun d S1 x H1 q1 e1 rel1 rd1 => ?_, kx⟩
  refine ⟨σ, S1, F, _, Xd, rel1, rs.ext e1, q1, fun d2 S2 y H2 q2 e2 rel2 rd2 => ?_, kx.ext e1⟩
  exact ⟨d, d2, S2, F, _, rel2, RD.ext e2 _ _ rd1, rd2, q2, fun b qb => kv _ _ _ _ qb (e1.trans e2) rel2 .bl⟩
theorem lt_cmp {K : PySem.W.Frag} {w1 w2 : WE1} {r : D → D → Sto → (Bool → Prop) → Prop} {τ : L2.St} {H : Hp} {Q : Bool → Hp → Prop} (h : LT K W (fun σ S Q X => w1 σ S (fun x S1 => w2 σ S1 (fun y S2 => r x y S2 fun b => Q b S2) X) X) τ H Q) : tTest (tOp (LB K r) (LE K W w1) (LE K W w2)) τ H Q := by
  obtain ⟨σ, S, F, Qd, Xd, rel, rs, hw, kv, kx⟩ := h
  refine ⟨σ, S, F, _, Xd, rel, rs, hw, fun d S1 x H1 q1 e1 rel1 rd1 => ?_, kx⟩
  refine ⟨σ, S1, F, _, Xd, rel1, rs.ext e1, q1, fun d2 S2 y H2 q2 e2 rel2 rd2 => ?_, kx.ext e1⟩
  exact ⟨d, d2, S2, F, _, rel2, RD.ext e2 _ _ rd1, rd2, q2, fun b qb => ⟨b, rfl, kv _ _ _ qb (e1.trans e2) rel2⟩⟩
theorem la_args {K : PySem.W.Frag} {w : En → Sto → (List D → Sto → Prop) → KX → Prop} {r : List D → Sto → KD → Prop} {τ : L2.St} {H : Hp} {Q : VK} (h : LE K W (fun σ S Q X => w σ S (fun ds S1 => r ds S1 Q) X) τ H Q) : tCB (LC K r) (LA K W w) τ H Q := by
  obtain ⟨σ, S, F, Qd, Xd, rel, rs, hw, kv, kx⟩ := h
  exact ⟨σ, S, F, _, Xd, rel, rs, hw, fun ds S1 vs H1 q1 e1 rel1 rd1 => ⟨ds, S1, F, Qd, rel1, rd1, q1, kv.ext e1⟩, kx⟩
theorem la_call {K : PySem.W.Frag} {w : En → Sto → (List D → Sto → Prop) → KX → Prop} {gf : FS} {τ : L2.St} {H : Hp} {Q : VK} (h : LE K W (fun σ S Q X => w σ S (fun ds S1 => gf ds S1 Q X) X) τ H Q) : tCallS (LF K gf) (WE W) (LA K W w) τ H Q := by
  obtain ⟨σ, S, F, Qd, Xd, rel, rs, hw, kv, kx⟩ := h
  exact ⟨σ, S, F, _, Xd, rel, rs, hw, fun ds S1 vs H1 q1 e1 rel1 rd1 => ⟨ds, S1, F, Qd, Xd, rel1, rd1, q1, kv.ext e1, kx.ext e1⟩, kx⟩
theorem la_cons {K : PySem.W.Frag} {w1 : WE1} {w : En → Sto → (List D → Sto → Prop) → KX → Prop} {τ : L2.St} {H : Hp} {Q : List V → Hp → Prop} (h : LA K W (fun σ S Q X => w1 σ S (fun d S1 => w σ S1 (fun ds S2 => Q (d :: ds) S2) X) X) τ H Q) : tCons (LE K W w1) (LA K W w) τ H Q := by
  obtain ⟨σ, S, F, Qd, Xd, rel, rs, hw, kv, kx⟩ := h
  refine ⟨σ, S, F, _, Xd, rel, rs, hw, fun d S1 x H1 q1 e1 rel1 rd1 => ?_, kx⟩
  exact ⟨σ, S1, F, _, Xd, rel1, rs.ext e1, q1, fun ds S2 vs H2 q2 e2 rel2 rd2 => kv _ _ _ _ q2 (e1.trans e2) rel2 (.cons (RD.ext e2 _ _ rd1) rd2), kx.ext e1⟩
theorem la_nil {K : PySem.W.Frag} {τ : L2.St} {H : Hp} {Q : List V → Hp → Prop} (h : LA K W (fun _ S Q _ => Q [] S) τ H Q) : tNil τ H Q := by
  obtain ⟨σ, S, F, Qd, Xd, rel, rs, hw, kv, kx⟩ := h
  exact kv _ _ _ _ hw .refl rel .nil
theorem lt_tru {K : PySem.W.Frag} {w : WE1} {τ : L2.St} {H : Hp} {Q : Bool → Hp → Prop} (h : LT K W (fun σ S Q X => w σ S (fun d S' => truR d S' fun b => Q b S') X) τ H Q) : LE K W w τ H fun x H' => ∃ k, TruV K x H' k ∧ Q k H' := by
  obtain ⟨σ, S, F, Qd, Xd, rel, rs, hw, kv, kx⟩ := h
  refine ⟨σ, S, F, _, Xd, rel, rs, hw, fun d S1 x H1 q1 e1 rel1 rd1 => ?_, kx⟩
  exact tru_conv ⟨d, S1, F, _, rel1, rd1, q1, fun b qb => kv _ _ _ qb e1 rel1⟩
theorem LT.imp {K : PySem.W.Frag} {w w' : En → Sto → (Bool → Sto → Prop) → KX → Prop} {τ : L2.St} {H : Hp} {Q : Bool → Hp → Prop} (h : LT K W w τ H Q) (i : ∀ σ S Q X, w σ S Q X → w' σ S Q X) : LT K W w' τ H Q := by
  obtain ⟨σ, S, F, Qd, Xd, rel, rs, hw, kv, kx⟩ := h
  exact ⟨σ, S, F, Qd, Xd, rel, rs, i _ _ _ _ hw, kv, kx⟩
theorem LE.imp {K : PySem.W.Frag} {w w' : WE1} {τ : L2.St} {H : Hp} {Q : VK} (h : LE K W w τ H Q) (i : ∀ σ S Q X, w σ S Q X → w' σ S Q X) : LE K W w' τ H Q := by
  obtain ⟨σ, S, F, Qd, Xd, rel, rs, hw, kv, kx⟩ := h
  exact ⟨σ, S, F, Qd, Xd, rel, rs, i _ _ _ _ hw, kv, kx⟩
theorem pe_callS0 {f : Addr} {fd : FuncData} {ps : List Str} {sp : Sp} {E : L2.St → XK} {x : Str} {p pos : Pos} {CX : CXT} (F : FnOk X.prog X.w X.K X.mg X.base CX k f fd ps sp) (hr : Room k X.A) (hg : Gl X x) (hm : X.mg x = some (.ref f)) (hk : PySem.W.keepIn X.K (.ref f) = true) (hb : Binds X.K fd ps []) (hx : ∀ σ, PassesAt CX X σ (E σ))
    (hdb : (x == ("__debug__" : Str)) = false) : PE X (.Call (.Name x p) [] [] pos) (tCallS sp E tNil) := by
  refine ⟨fun pins s σ H Q I h => ?_⟩
  refine wpAny_Call_Name_kw (ld_glob I hg hm ?_ hdb)
  exact PySem.W.callWith_K0 I.kIn hk (run_fnS (us := []) F hr hb (hx σ) I .nil h)
def tyS : Ty → String
  | .int => "int" | .bool => "bool" | .str => "str" | .tuple => "tuple" | .list => "list"
theorem isT_ok {K : PySem.W.Frag} {S : Sto} {F H : Hp} {d : D} {v : V} {t : Ty} {b : Bool} (rel : Rel K S F H) (rd : RD K H d v) (h : isT t d S = some b) : ∃ ty, TyX K H v ty ∧ PySem.W.kitOne K ty (.type (tyS t)) = some b := by
  cases d with
  | non =>
    have e := rd.noni; subst e
    refine ⟨_, .base .non, kit_ty ?_⟩
    cases t <;> simp only [isT, Option.some.injEq] at h <;> subst h <;> decide +kernel
  | bl c =>
    have e := rd.bli; subst e
    refine ⟨_, .base (.bl c), kit_ty ?_⟩
    cases t <;> simp only [isT, Option.some.injEq] at h <;> subst h <;> decide +kernel
  | int i =>
    have e := rd.inti; subst e
    refine ⟨_, .base (.int i), kit_ty ?_⟩
    cases t <;> simp only [isT, Option.some.injEq] at h <;> subst h <;> decide +kernel
  | str z =>
    obtain ⟨e, _⟩ := rd.stri; subst e
    refine ⟨_, .base (.str z), kit_ty ?_⟩
    cases t <;> simp only [isT, Option.some.injEq] at h <;> subst h <;> decide +kernel
  | tup l =>
    obtain ⟨a, vs, e, hs, hl⟩ := rd.tupk; subst e
    have ty : TyX K H (.ref a) (.type "tuple") := by
      rcases hs with ⟨o, h1, h2⟩ | ⟨o, its, n, h1, h2, _⟩
      · exact .fTuple h1
      · exact .kTuple h1 h2
    refine ⟨_, ty, kit_ty ?_⟩
    cases t <;> simp only [isT, Option.some.injEq] at h <;> subst h <;> decide +kernel
  | rl l => cases t <;> simp [isT] at h
  | ref a =>
    have e := rd.refi; subst e
    simp only [isT] at h
    split at h
    case h_1 l hl =>
      obtain ⟨vs, h1, h2⟩ := rel.lst hl
      simp only [Option.some.injEq] at h
      refine ⟨_, .base (.lst h1), kit_ty ?_⟩
      cases t <;> subst h <;> decide +kernel
    case h_2 l hl =>
      obtain ⟨vs, h1, h2⟩ := rel.dct hl
      simp only [Option.some.injEq] at h
      refine ⟨_, .base (.dK h1), kit_ty ?_⟩
      cases t <;> subst h <;> decide +kernel
    case h_3 => cases h
def isTyB : Bl → Bool
  | .int => true | .str => true | .tuple => true | .list => true | .dict => true
  | .len => false | .abs => false | .max => false | .min => false | .sum => false | .all => false | .any => false | .sorted => false | .gcd => false | .lcm => false
theorem ite_some {β : Type} {c : Prop} [Decidable c] {a b : β} {r : Option β} (h : (if c then some a else r) = some b) : (c ∧ a = b) ∨ r = some b := by
  by_cases hc : c
  · rw [if_pos hc] at h; exact .inl ⟨hc, Option.some.inj h⟩
  · rw [if_neg hc] at h; exact .inr h
theorem bltOf_boot {x : Str} {b : Bl} (h : bltOf x = some b) : bootBuiltins x = some (blV b) := by
  unfold bltOf at h
  rcases ite_some h with ⟨rfl, rfl⟩ | h; exact boot_len
  rcases ite_some h with ⟨rfl, rfl⟩ | h; exact (by decide +kernel : bootBuiltins "abs" = some (.builtin "abs"))
  rcases ite_some h with ⟨rfl, rfl⟩ | h; exact (by decide +kernel : bootBuiltins "max" = some (.builtin "max"))
  rcases ite_some h with ⟨rfl, rfl⟩ | h; exact (by decide +kernel : bootBuiltins "min" = some (.builtin "min"))
  rcases ite_some h with ⟨rfl, rfl⟩ | h; exact (by decide +kernel : bootBuiltins "sum" = some (.builtin "sum"))
  rcases ite_some h with ⟨rfl, rfl⟩ | h; exact (by decide +kernel : bootBuiltins "all" = some (.builtin "all"))
  rcases ite_some h with ⟨rfl, rfl⟩ | h; exact (by decide +kernel : bootBuiltins "any" = some (.builtin "any"))
  rcases ite_some h with ⟨rfl, rfl⟩ | h; exact (by decide +kernel : bootBuiltins "int" = some (.type "int"))
  rcases ite_some h with ⟨rfl, rfl⟩ | h; exact (by decide +kernel : bootBuiltins "tuple" = some (.type "tuple"))
  rcases ite_some h with ⟨rfl, rfl⟩ | h; exact (by decide +kernel : bootBuiltins "list" = some (.type "list"))
  rcases ite_some h with ⟨rfl, rfl⟩ | h; exact (by decide +kernel : bootBuiltins "dict" = some (.type "dict"))
  rcases ite_some h with ⟨rfl, rfl⟩ | h; exact (by decide +kernel : bootBuiltins "sorted" = some (.builtin "sorted"))
  cases h
theorem blV_kind : ∀ b : Bl, (∃ id, blV b = .builtin id) ∨ ∃ id, blV b = .type id
  | .len => .inl ⟨_, rfl⟩ | .abs => .inl ⟨_, rfl⟩ | .max => .inl ⟨_, rfl⟩ | .min => .inl ⟨_, rfl⟩ | .sum => .inl ⟨_, rfl⟩ | .all => .inl ⟨_, rfl⟩ | .any => .inl ⟨_, rfl⟩ | .sorted => .inl ⟨_, rfl⟩ | .gcd => .inl ⟨_, rfl⟩ | .lcm => .inl ⟨_, rfl⟩
  | .int => .inr ⟨_, rfl⟩ | .str => .inr ⟨_, rfl⟩ | .tuple => .inr ⟨_, rfl⟩ | .list => .inr ⟨_, rfl⟩ | .dict => .inr ⟨_, rfl⟩
theorem pe_blt {x : Str} {b : Bl} {r : List V → Hp → VK → Prop} {e : PySem.Expr} {es : List PySem.Expr} {t : TA} {p pos : Pos} (h : bltOf x = some b) (hc : CallR X (blV b) r) (hg : Gl X x) (hm : X.mg x = none) (ha : PA X (e :: es) t) (ok : okN x = true)
    (he : starEach (e :: es) X.env = (false, eval e X.env) :: starEach es X.env) (hpl : (backTo pos (starEach es X.env)).any (·.1) = false) : PE X (.Call (.Name x p) (e :: es) [] pos) (tCB r t) := by
  have hv := bltOf_boot h
  obtain ⟨n1, n2, n3⟩ := okN_1 ok
  rcases blV_kind b with ⟨id, z⟩ | ⟨id, z⟩
  · rw [z] at hc hv
    exact pe_callB hc hg hm hv ha n3 n1 he hpl
  · rw [z] at hc hv
    exact pe_callTy hc hg hm hv ha n3 n1 he hpl
end Mi
namespace Mi
open PySem PySem.Spec PyProof.Rows L2
variable {K : PySem.W.Frag} {W : WX}
theorem Rel.lessF {S : Sto} {F F' H : Hp} (r : Rel K S F' H) (h : ∀ a o, F a = some o → F' a = some o) : Rel K S F H := ⟨r.cell, fun a o e => r.frm a o (h a o e), fun a o e => r.sep a o (h a o e)⟩
theorem upd_sub {F : Hp} {p : Addr} {o : HO} (h : F p = none) : ∀ a u, F a = some u → L2.upd F p o a = some u := fun a u e => by rw [upd_ne (ne_of_none e h)]; exact e
theorem Rel.frame {S : Sto} {F H : Hp} {p : Addr} {xs ys : List V} (r : Rel K S (L2.upd F p (.lst xs)) H) : Ext H (L2.upd H p (.lst ys)) ∧ Rel K S (L2.upd F p (.lst ys)) (L2.upd H p (.lst ys)) := by
  have hp : H p = some (.lst xs) := r.frm p _ upd_same
  have sp : S p = none := r.sep p _ upd_same
  have x : Ext H (L2.upd H p (.lst ys)) := .write hp (fun _ z => nomatch z) fun _ _ z => nomatch z
  refine ⟨x, fun a c q => ?_, fun a o q => ?_, fun a o q => ?_⟩
  · have ne : a ≠ p := fun z => by subst z; rw [sp] at q; cases q
    exact (r.cell a c q).ext x (upd_ne ne)
  · by_cases ha : a = p
    · subst ha; rw [upd_same] at q ⊢; exact q
    · rw [upd_ne ha] at q ⊢
      exact r.frm a o (by rw [upd_ne ha]; exact q)
  · by_cases ha : a = p
    · subst ha; exact sp
    · rw [upd_ne ha] at q
      exact r.sep a o (by rw [upd_ne ha]; exact q)
theorem Rel.hide {S : Sto} {F H : Hp} {p : Addr} {o : HO} (r : Rel K S F H) (e : H p = none) : Rel K S (L2.upd F p o) (L2.upd H p o) := by
  have q := r.tup (o := o) e
  refine ⟨q.cell, fun a u h => ?_, fun a u h => ?_⟩
  · by_cases ha : a = p
    · subst ha; rw [upd_same] at h ⊢; exact h
    · rw [upd_ne ha] at h; exact q.frm a u h
  · by_cases ha : a = p
    · subst ha; exact r.free e
    · rw [upd_ne ha] at h; exact r.sep a u h
theorem Rel.show {S : Sto} {F H : Hp} {p : Addr} {vs : List V} {l : List D} (r : Rel K S (L2.upd F p (.lst vs)) H) (f : F p = none) (h : RDs K H l vs) : Rel K (S.upd p (.lst l)) F H := by
  refine ⟨fun a c q => ?_, fun a o q => r.frm a o (upd_sub f a o q), fun a o q => ?_⟩
  · by_cases ha : a = p
    · subst ha; rw [Sto.upd_same] at q; cases q; exact ⟨vs, r.frm _ _ upd_same, h⟩
    · rw [Sto.upd_ne ha] at q; exact r.cell a c q
  · have ha : a ≠ p := fun z => by subst z; rw [f] at q; cases q
    rw [Sto.upd_ne ha]
    exact r.sep a o (upd_sub f a o q)
def LL (K : PySem.W.Frag) (W : WX) (w : En → Sto → (List D → Sto → Prop) → KX → Prop) : TE := fun τ H Q => ∃ σ S F Ql Xd, Rel K S F H ∧ RS K H σ τ ∧ w σ S Ql Xd ∧
  (∀ ds S' a vs H', Ql ds S' → Ext H H' → F a = none → Rel K S' (L2.upd F a (.lst vs)) H' → RDs K H' ds vs → Q (.ref a) H') ∧ KXs K F H Xd (WE W τ)
theorem wipe_len (σ : L2.St) : ∀ vs : List Nat, (wipe σ vs).length = σ.length := wipe_length σ
theorem wipe_get (σ : L2.St) (i : Nat) : ∀ vs : List Nat, (wipe σ vs)[i]? = if i ∈ vs ∧ i < σ.length then some none else σ[i]?
  | [] => by simp [wipe]
  | v :: vs => by
    unfold wipe
    by_cases hv : v = i
    · subst hv
      by_cases hl : v < σ.length
      · rw [List.getElem?_set_self (by rw [wipe_len]; exact hl), if_pos ⟨List.mem_cons_self .., hl⟩]
      · rw [if_neg (fun z => hl z.2), List.getElem?_eq_none (by rw [List.length_set, wipe_len]; omega), List.getElem?_eq_none (by omega)]
    · rw [List.getElem?_set_ne hv, wipe_get σ i vs]
      simp only [List.mem_cons]
      have : i ≠ v := fun e => hv e.symm
      simp [this]
theorem wipe_off {τ τ' : L2.St} {sl vs : List Nat} (h : Off sl τ τ') (hs : ∀ i ∈ sl, i ∈ vs) : wipe τ' vs = wipe τ vs := by
  refine List.ext_getElem? fun i => ?_
  rw [wipe_get, wipe_get, h.1]
  by_cases hi : i ∈ vs ∧ i < τ.length
  · rw [if_pos hi, if_pos hi]
  · rw [if_neg hi, if_neg hi]
    by_cases h2 : i ∈ vs
    · have : ¬ i < τ.length := fun z => hi ⟨h2, z⟩
      have e1 := h.1
      rw [List.getElem?_eq_none (by omega), List.getElem?_eq_none (by omega)]
    · exact h.2 i fun z => h2 (hs i z)
theorem wipe_wipe (τ : L2.St) (vs : List Nat) : wipe (wipe τ vs) vs = wipe τ vs := by
  refine List.ext_getElem? fun i => ?_
  rw [wipe_get, wipe_get, wipe_len]
  by_cases hi : i ∈ vs ∧ i < τ.length
  · rw [if_pos hi, if_pos hi]
  · rw [if_neg hi, if_neg hi]
theorem RS.wipe {H : Hp} {σ : En} {τ : L2.St} (r : RS K H σ τ) : ∀ vs : List Nat, RS K H (wipeD σ vs) (L2.wipe τ vs)
  | [] => r
  | v :: vs => (RS.wipe r vs).unset v
abbrev W0 : WX := fun _ _ _ _ => False
theorem lc_conv {b : Bool} {wi : En → Sto → KI → KX → Prop} {tg : Tg} {wc : En → Sto → (Bool → Sto → Prop) → KX → Prop} {we : WE1} {vs : List Nat} {τ : L2.St} {H : Hp} {Q : VK} (hs : ∀ i ∈ tgSlots tg, i ∈ vs)
    (h : LL K W (fun σ S Q X => wi σ S (fun l chk S1 => l.length ≤ sizeLine ∧ cmpL tg (fun σ' S' Q' => wc σ' S' Q' fun _ _ => False) (fun σ' S' Q' => we σ' S' Q' fun _ _ => False) chk l (wipeD σ vs) S1 Q) X) τ H Q) :
    tLc (LI K b W wi) (LG K b (tgSlots tg) (wG tg)) (LT K W0 wc) (LE K W0 we) vs τ H Q := by
  obtain ⟨σ, S, F, Ql, Xd, rel, rs, hw, fin, kx⟩ := h
  refine ⟨σ, S, F, _, Xd, rel, rs, hw, fun l chk S1 J H1 ⟨hz, q⟩ e1 rel1 wk D hD => ?_, kx⟩
  have fD : F D = none := rel1.freeF hD
  refine ⟨fun i m H2 => i ≤ l.length ∧ m = l.length - i ∧ ∃ S2 ws acc, Ext H1 H2 ∧ Rel K S2 (L2.upd F D (.lst ws)) H2 ∧ RDs K H2 acc ws ∧ acc.length ≤ i ∧
    cmpL tg (fun σ' S' Q' => wc σ' S' Q' fun _ _ => False) (fun σ' S' Q' => we σ' S' Q' fun _ _ => False) chk (l.drop i) (wipeD σ vs) S2 (fun r S' => Ql (acc ++ r) S'), ?_, ?_⟩
  · exact ⟨l.length - 0, Nat.zero_le _, rfl, S1, [], [], .new hD, rel1.hide hD, .nil, Nat.le_refl _, q⟩
  rintro i m H2 ⟨hi, rfl, S2, ws, acc, x2, rel2, rd2, hacc, q2⟩
  by_cases hl : i < l.length
  · refine .inr ?_
    have hd : l[i]? = some l[i] := by simp [hl]
    rw [List.drop_eq_getElem_cons hl] at q2
    obtain ⟨hchk, q2⟩ : chk S2 ∧ wG tg l[i] (wipeD σ vs) fun σ' => wc σ' S2 (fun b S3 => if b = true then we σ' S3 (fun v S4 => cmpL tg (fun σ' S' Q' => wc σ' S' Q' fun _ _ => False) (fun σ' S' Q' => we σ' S' Q' fun _ _ => False) chk (l.drop (i + 1)) (wipeD σ vs) S4 (fun rr S' => Ql (acc ++ (v :: rr)) S')) (fun _ _ => False)
      else cmpL tg (fun σ' S' Q' => wc σ' S' Q' fun _ _ => False) (fun σ' S' Q' => we σ' S' Q' fun _ _ => False) chk (l.drop (i + 1)) (wipeD σ vs) S3 (fun rr S' => Ql (acc ++ rr) S')) (fun _ _ => False) := q2
    obtain ⟨go, yl⟩ := wk.go _ i _ S2 H2 hd rel2 hchk x2
    refine ⟨go, fun H' => ∃ m', m' < l.length - i ∧ (i + 1 ≤ l.length ∧ m' = l.length - (i + 1) ∧ ∃ S2 ws acc, Ext H1 H' ∧ Rel K S2 (L2.upd F D (.lst ws)) H' ∧ RDs K H' acc ws ∧ acc.length ≤ i + 1 ∧
      cmpL tg (fun σ' S' Q' => wc σ' S' Q' fun _ _ => False) (fun σ' S' Q' => we σ' S' Q' fun _ _ => False) chk (l.drop (i + 1)) (wipeD σ vs) S2 (fun r S' => Ql (acc ++ r) S')), fun H' z => z, fun x H3 y => ?_⟩
    obtain ⟨x3, rel3, rx⟩ := yl x H3 y
    refine ⟨l[i], wipeD σ vs, _, rx, (rs.ext ((e1.trans x2).trans x3)).wipe vs, q2, fun σ3 τ3 q3 rs3 off => ⟨(wipe_off off hs).trans (wipe_wipe τ vs), ?_⟩⟩
    refine ⟨σ3, S2, _, _, _, rel3, rs3, q3, fun b S4 H4 q4 e4 rel4 => ?_, .no⟩
    cases b with
    | false =>
      simp only [Bool.false_eq_true, if_false] at q4 ⊢
      exact ⟨l.length - (i + 1), by omega, hl, rfl, S4, ws, acc, (x2.trans x3).trans e4, rel4, rd2.ext (x3.trans e4), by omega, q4⟩
    | true =>
      simp only [if_true] at q4 ⊢
      refine ⟨σ3, S4, _, _, _, rel4, rs3.ext e4, q4, fun d S5 y5 H5 q5 e5 rel5 rd5 => ?_, .no⟩
      have hD5 : H5 D = some (.lst ws) := rel5.frm D _ upd_same
      have rl : ws.length = acc.length := rd2.length
      obtain ⟨x6, rel6⟩ := rel5.frame (ys := ws ++ [y5])
      refine ⟨ws, hD5, by omega, l.length - (i + 1), by omega, hl, rfl, S5, ws ++ [y5], acc ++ [d], (((x2.trans x3).trans e4).trans e5).trans x6, rel6, ?_, by simp; omega, ?_⟩
      · exact (rd2.ext (((x3.trans e4).trans e5).trans x6)).append (.cons (RD.ext x6 _ _ rd5) .nil)
      · simpa using q5
  · have e : i = l.length := by omega
    subst e
    rw [List.drop_length] at q2
    obtain ⟨hchk, q2⟩ : chk S2 ∧ Ql (acc ++ []) S2 := q2
    rw [List.append_nil] at q2
    exact .inl ⟨wk.stop _ S2 H2 rel2 hchk x2, fin acc S2 D ws H2 q2 (e1.trans x2) fD rel2 rd2⟩
end Mi
namespace Mi
open PySem PySem.Spec PyProof.Rows L2
variable {K : PySem.W.Frag} {W : WX}
theorem Rel.frameD {S : Sto} {F H : Hp} {p : Addr} {xs ys : List (Key × V)} (r : Rel K S (L2.upd F p (.dK xs)) H) : Ext H (L2.upd H p (.dK ys)) ∧ Rel K S (L2.upd F p (.dK ys)) (L2.upd H p (.dK ys)) := by
  have hp : H p = some (.dK xs) := r.frm p _ upd_same
  have sp : S p = none := r.sep p _ upd_same
  have x : Ext H (L2.upd H p (.dK ys)) := .write hp (fun _ z => nomatch z) fun _ _ z => nomatch z
  refine ⟨x, ⟨fun a c q => ?_, fun a o q => ?_, fun a o q => ?_⟩⟩
  · have ne : a ≠ p := fun z => by subst z; rw [sp] at q; cases q
    exact (r.cell a c q).ext x (upd_ne ne)
  · by_cases ha : a = p
    · subst ha; rw [upd_same] at q ⊢; exact q
    · rw [upd_ne ha] at q ⊢
      exact r.frm a o (by rw [upd_ne ha]; exact q)
  · by_cases ha : a = p
    · subst ha; exact sp
    · rw [upd_ne ha] at q
      exact r.sep a o (by rw [upd_ne ha]; exact q)
theorem Rel.showD {S : Sto} {F H : Hp} {p : Addr} {ws : List (Key × V)} {kvs : List (D × D)} (r : Rel K S (L2.upd F p (.dK ws)) H) (f : F p = none) (h : RK K H kvs ws) : Rel K (S.upd p (.dct kvs)) F H := by
  refine ⟨fun a c q => ?_, fun a o q => r.frm a o (upd_sub f a o q), fun a o q => ?_⟩
  · by_cases ha : a = p
    · subst ha; rw [Sto.upd_same] at q; cases q; exact ⟨ws, r.frm _ _ upd_same, h⟩
    · rw [Sto.upd_ne ha] at q; exact r.cell a c q
  · have ha : a ≠ p := fun z => by subst z; rw [f] at q; cases q
    rw [Sto.upd_ne ha]
    exact r.sep a o (upd_sub f a o q)
def LD (K : PySem.W.Frag) (W : WX) (w : En → Sto → (List (D × D) → Sto → Prop) → KX → Prop) : TE := fun τ H Q => ∃ σ S F Ql Xd, Rel K S F H ∧ RS K H σ τ ∧ w σ S Ql Xd ∧
  (∀ kvs S' a ws H', Ql kvs S' → Ext H H' → F a = none → Rel K S' (L2.upd F a (.dK ws)) H' → RK K H' kvs ws → Q (.ref a) H') ∧ KXs K F H Xd (WE W τ)
theorem dc_conv {b : Bool} {wi : En → Sto → KI → KX → Prop} {tg : Tg} {wc : En → Sto → (Bool → Sto → Prop) → KX → Prop} {w1 w2 : WE1} {vs : List Nat} {τ : L2.St} {H : Hp} {Q : VK} (hs : ∀ i ∈ tgSlots tg, i ∈ vs)
    (h : LD K W (fun σ S Q X => wi σ S (fun l chk S1 => l.length < sizeLine ∧ dcL tg (fun σ' S' Q' => wc σ' S' Q' fun _ _ => False) (fun σ' S' Q' => w1 σ' S' Q' fun _ _ => False) (fun σ' S' Q' => w2 σ' S' Q' fun _ _ => False) chk l (wipeD σ vs) S1 [] Q) X) τ H Q) :
    tDc (LI K b W wi) (LG K b (tgSlots tg) (wG tg)) (LT K W0 wc) (LE K W0 w1) (LE K W0 w2) vs τ H Q := by
  obtain ⟨σ, S, F, Ql, Xd, rel, rs, hw, fin, kx⟩ := h
  refine ⟨σ, S, F, _, Xd, rel, rs, hw, fun l chk S1 J H1 ⟨hz, q⟩ e1 rel1 wk L hL => ?_, kx⟩
  have fL : F L = none := rel1.freeF hL
  let B := fun (i : Nat) (S2 : Sto) (acc : List (D × D)) => dcL tg (fun σ' S' Q' => wc σ' S' Q' fun _ _ => False) (fun σ' S' Q' => w1 σ' S' Q' fun _ _ => False) (fun σ' S' Q' => w2 σ' S' Q' fun _ _ => False) chk (l.drop i) (wipeD σ vs) S2 acc Ql
  let Iv := fun (i : Nat) (H2 : Hp) => ∃ S2 ws acc, Ext H1 H2 ∧ Rel K S2 (L2.upd F L (.dK ws)) H2 ∧ RK K H2 acc ws ∧ ws.length ≤ i ∧ B i S2 acc
  refine ⟨fun i m H2 => i ≤ l.length ∧ m = l.length - i ∧ Iv i H2, ⟨l.length - 0, Nat.zero_le _, rfl, S1, [], [], .new hL, rel1.hide hL, by rw [RK], Nat.le_refl _, q⟩, ?_⟩
  rintro i m H2 ⟨hi, rfl, S2, ws, acc, x2, rel2, rk2, hacc, q2⟩
  by_cases hl : i < l.length
  · refine .inr ?_
    have hd : l[i]? = some l[i] := by simp [hl]
    have q2 : dcL tg _ _ _ chk (l.drop i) (wipeD σ vs) S2 acc Ql := q2
    rw [List.drop_eq_getElem_cons hl] at q2
    obtain ⟨hchk, q2⟩ : chk S2 ∧ wG tg l[i] (wipeD σ vs) fun σ' => wc σ' S2 (fun b S3 => if b = true then w1 σ' S3 (fun x S4 => w2 σ' S4 (fun y S5 => (keyD x).isSome = true ∧ B (i + 1) S5 (dput acc x y)) (fun _ _ => False)) (fun _ _ => False) else B (i + 1) S3 acc) (fun _ _ => False) := q2
    obtain ⟨go, yl⟩ := wk.go _ i _ S2 H2 hd rel2 hchk x2
    refine ⟨go, fun H' => ∃ m', m' < l.length - i ∧ (i + 1 ≤ l.length ∧ m' = l.length - (i + 1) ∧ Iv (i + 1) H'), fun H' z => z, fun x H3 y => ?_⟩
    obtain ⟨x3, rel3, rx⟩ := yl x H3 y
    refine ⟨l[i], wipeD σ vs, _, rx, (rs.ext ((e1.trans x2).trans x3)).wipe vs, q2, fun σ3 τ3 q3 rs3 off => ⟨(wipe_off off hs).trans (wipe_wipe τ vs), ?_⟩⟩
    refine ⟨σ3, S2, _, _, _, rel3, rs3, q3, fun b S4 H4 q4 e4 rel4 => ?_, .no⟩
    cases b with
    | false =>
      simp only [Bool.false_eq_true, if_false] at q4 ⊢
      exact ⟨l.length - (i + 1), by omega, hl, rfl, S4, ws, acc, (x2.trans x3).trans e4, rel4, rk2.ext (x3.trans e4), by omega, q4⟩
    | true =>
      simp only [if_true] at q4 ⊢
      refine ⟨σ3, S4, _, _, _, rel4, rs3.ext e4, q4, fun d S5 y5 H5 q5 e5 rel5 rd5 => ?_, .no⟩
      refine ⟨σ3, S5, _, _, _, rel5, (rs3.ext e4).ext e5, q5, fun d6 S6 y6 H6 ⟨hk, q6⟩ e6 rel6 rd6 => ?_, .no⟩
      obtain ⟨k', hk'⟩ := Option.isSome_iff_exists.mp hk
      have ey := keyD_kV hk' rd5
      have hL6 : H6 L = some (.dK ws) := rel6.frm L _ upd_same
      obtain ⟨x7, rel7⟩ := rel6.frameD (ys := putK ws k' y6)
      have hln := length_putK ws k' y6
      refine ⟨ws, k', ey, hL6, by omega, l.length - (i + 1), by omega, hl, rfl, S6, putK ws k' y6, dput acc d d6, ((((x2.trans x3).trans e4).trans e5).trans e6).trans x7, rel7, ?_, by omega, q6⟩
      exact RK.put hk' (RD.ext x7 _ _ rd6) (rk2.ext ((((x3.trans e4).trans e5).trans e6).trans x7))
  · have e : i = l.length := by omega
    subst e
    have q2 : dcL tg _ _ _ chk (l.drop l.length) (wipeD σ vs) S2 acc Ql := q2
    rw [List.drop_length] at q2
    obtain ⟨hchk, q2⟩ : chk S2 ∧ Ql acc S2 := q2
    exact .inl ⟨wk.stop _ S2 H2 rel2 hchk x2, fin acc S2 L ws H2 q2 (e1.trans x2) fL rel2 rk2⟩
theorem le_dcomp {w : En → Sto → (List (D × D) → Sto → Prop) → KX → Prop} {τ : L2.St} {H : Hp} {Q : VK} (h : LE K W (fun σ S Q X => w σ S (fun kvs S2 => ∀ p, S2 p = none → Q (.ref p) (S2.upd p (.dct kvs))) X) τ H Q) : LD K W w τ H Q := by
  obtain ⟨σ, S, F, Qd, Xd, rel, rs, hw, kv, kx⟩ := h
  exact ⟨σ, S, F, _, Xd, rel, rs, hw, fun kvs S' a ws H' q e fa rel' rk => kv _ _ _ _ (q a (rel'.sep a _ upd_same)) e (rel'.showD fa rk) .ref, kx⟩
theorem ps_setD1 {X : Cx} {i : Nat} {y : Str} {py : Pos} {kx vx tg iter : PySem.Expr} {ifs : List PySem.Expr} {scope : Scope} {own : List (Str × Nat)} {pos spos : Pos} {wi : TI} {g : TG} {tt : TT} {tk tv : TE} (hc : X.calm = true) (hN : X.N.Nodup) (hy : X.N[i]? = some y) (hyl : X.env.scope.names.lookup y = some .local)
    (hsw : swapsWith (.DictComp kx vx [⟨tg, iter, ifs, 0⟩] scope pos) (some (.Name y py)) spos.line X.env = pure true) (hi : PI X tg iter wi) (ok : BlkOk X.N X.env.scope scope own)
    (hg : ∀ (s : Shared) (H : Hp) (C : Addr) (cl : List (Str × Addr)) (fp : List Addr), PG (X.blk s H scope (compEnvC scope cl C X.env) fp) tg g)
    (ht : ∀ (s : Shared) (H : Hp) (C : Addr) (cl : List (Str × Addr)) (fp : List Addr), PTs (X.blk s H scope (compEnvC scope cl C X.env) fp) ifs tt)
    (hk : ∀ (s : Shared) (H : Hp) (C : Addr) (cl : List (Str × Addr)) (fp : List Addr), PE (X.blk s H scope (compEnvC scope cl C X.env) fp) kx tk)
    (he : ∀ (s : Shared) (H : Hp) (C : Addr) (cl : List (Str × Addr)) (fp : List Addr), PE (X.blk s H scope (compEnvC scope cl C X.env) fp) vx tv) (hs : ∀ x, foldedSetIterable iter X.env x = pure x) :
    PS X (.Assign [.Name y py] (.DictComp kx vx [⟨tg, iter, ifs, 0⟩] scope pos) spos) (tAsg (tDc wi g tt tk tv (own.map (·.2))) (gName i)) := by
  refine ⟨fun pins s σ H Dn I h => ?_⟩
  rw [exec_Assign_Name_used _ _ _ _ hsw]
  refine wpAny_bind (wpAny_standAt (wpAny_bind ?_))
  show wpAny _ X.A (do let _ ← comprehension (.DictComp kx vx [⟨tg, iter, ifs, 0⟩] scope pos) scope X.env (firstIterPos [⟨tg, iter, ifs, 0⟩] pos) newDict false (eval iter X.env) (some (assign (.Name y py) X.env))) _ _ s
  have h : tDc wi g tt tk tv (own.map (·.2)) σ H (fun x H1 => gName i x σ H1 Dn.nx) := h
  refine wpAny_bind (thn (dc_core (Qf := fun _ s2 => SP X pins Dn .next s2) hc hN I hi ok hg ht hk he hs h fun L C s1 m H1 I1 q hn f => ?_) fun _ _ hq => wpAny_pure (wpAny_pure hq))
  show wpAny _ _ (assign (.Name y py) X.env (.ref L)) _ _ _
  refine wpAny_assign_Name (store_ok2 (v := V.ref L) I1 hN hy (.inl hyl) rfl (fun s2 I2 ⟨a, sb, ha⟩ => ?_) (.inr hyl))
  have ne : C ≠ a := by
    rcases ha with z | z
    · rw [z]; exact f.2.1
    · exact fun e => f.2.2.2.2.1 y a z e.symm
  exact ⟨m, hn.sameBut sb ne, fun h3 sb3 => ⟨_, H1, I2.turned (t' := s2.toks) (fun b o hb e => (sb3.2 b hb).trans e) f.1 f.2.1 f.2.2.2.1 f.2.2.2.2.1 f.2.2.2.2.2, q⟩⟩
theorem sw_trueD {kx vx : PySem.Expr} {gs : List Comprehension} {scope : Scope} {pos py : Pos} {y : Str} {l : Nat} {env : Env} (hk : env.scope.kind = .function) (hy : env.scope.names.lookup y = some .local) (hl : (py.line == pos.line) = true)
    (ha : (scope.names.any fun (n, k) => n == y && (k == .local || k == .cell)) = false) : swapsWith (.DictComp kx vx gs scope pos) (some (.Name y py)) l env = pure true := by
  have e1 : env.blockKind = .function := by unfold Env.blockKind; rw [hk]; rfl
  have e2 : env.kindOf y = some .local := hy
  unfold swapsWith
  simp only [e1, e2, ha, Expr.pos, hl]
  rfl
end Mi
namespace Mi
open PySem PySem.Spec PyProof.Rows L2
variable (T : Tb) (N : List Str) (Γ : Str → FS) (G : Str → Option D) (k : Nat)
def SE (n : Nat) : Prop := ∀ (X : Cx) (W : WX) (sc : Scope) (own : Str → Bool), Gd T N Γ G X W sc own k → ∀ (e : PySem.Expr) (c : E), cE T N n sc e = some c → PE X e (LE X.K W (wE Γ G c))
def ST (n : Nat) : Prop := ∀ (X : Cx) (W : WX) (sc : Scope) (own : Str → Bool), Gd T N Γ G X W sc own k → ∀ (e : PySem.Expr) (c : E), cE T N n sc e = some c → PT X e (LT X.K W (wT Γ G c))
def SB (n : Nat) : Prop := ∀ (X : Cx) (W : WX) (sc : Scope) (own : Str → Bool), Gd T N Γ G X W sc own k → ∀ (op : PySem.BoolOp) (es : List PySem.Expr) (c : E) (pos : Pos), cB T N n sc op es = some c → PE X (.BoolOp op es pos) (LE X.K W (wE Γ G c)) ∧ PW X (.BoolOp op es pos) (LT X.K W (wT Γ G c))
def SA (n : Nat) : Prop := ∀ (X : Cx) (W : WX) (sc : Scope) (own : Str → Bool), Gd T N Γ G X W sc own k → ∀ (es : List PySem.Expr) (cs : Es), cEs T N n sc es = some cs → PA X es (LA X.K W (wEs Γ G cs))
def SO (n : Nat) : Prop := ∀ (X : Cx) (W : WX) (sc : Scope) (own : Str → Bool), Gd T N Γ G X W sc own k → ∀ (e : Option PySem.Expr) (c : Eo), cO T N n sc e = some c → PO X e (LOp X.K W (wO Γ G c))
def SI (n : Nat) : Prop := ∀ (X : Cx) (W : WX) (sc : Scope) (own : Str → Bool), Gd T N Γ G X W sc own k → ∀ (tg e : PySem.Expr) (c : I), cI T N n sc e = some c → (wkI c = true → tupX tg = true) → PI X tg e (LI X.K (wkI c) W (wI Γ G c))
def wL (e : E) (tg : Tg) (it : I) (c : Eo) (vs : List Nat) : En → Sto → (List D → Sto → Prop) → KX → Prop := fun σ S Q X => wI Γ G it σ S (fun l chk S1 => l.length ≤ sizeLine ∧ cmpL tg (fun σ' S' Q' => wC Γ G c σ' S' Q' fun _ _ => False) (fun σ' S' Q' => wE Γ G e σ' S' Q' fun _ _ => False) chk l (wipeD σ vs) S1 Q) X
def wD (ke ve : E) (tg : Tg) (it : I) (c : Eo) (vs : List Nat) : En → Sto → (List (D × D) → Sto → Prop) → KX → Prop := fun σ S Q X => wI Γ G it σ S (fun l chk S1 => l.length < sizeLine ∧ dcL tg (fun σ' S' Q' => wC Γ G c σ' S' Q' fun _ _ => False) (fun σ' S' Q' => wE Γ G ke σ' S' Q' fun _ _ => False) (fun σ' S' Q' => wE Γ G ve σ' S' Q' fun _ _ => False) chk l (wipeD σ vs) S1 [] Q) X
def SD (n : Nat) : Prop := ∀ (X : Cx) (W : WX) (sc : Scope) (own : Str → Bool), Gd T N Γ G X W sc own k → ∀ (ke ve tg it : PySem.Expr) (ifs : List PySem.Expr) (scope : Scope) (c : E), cDc T N n sc ke ve tg it ifs scope = some c →
  ∃ ke' ve' tg' it' c' vs, c = .dcomp ke' ve' tg' it' c' vs ∧ (∀ pos, PE X (.DictComp ke ve [⟨tg, it, ifs, 0⟩] scope pos) (LD X.K W (wD Γ G ke' ve' tg' it' c' vs))) ∧
    ∀ pos spos i y py, X.N[i]? = some y → X.env.scope.names.lookup y = some .local → swapsWith (.DictComp ke ve [⟨tg, it, ifs, 0⟩] scope pos) (some (.Name y py)) spos.line X.env = pure true →
      PS X (.Assign [.Name y py] (.DictComp ke ve [⟨tg, it, ifs, 0⟩] scope pos) spos) (tAsg (LD X.K W (wD Γ G ke' ve' tg' it' c' vs)) (gName i))
def SC (n : Nat) : Prop := ∀ (X : Cx) (W : WX) (sc : Scope) (own : Str → Bool), Gd T N Γ G X W sc own k → ∀ (b : Option Bl) (e tg it : PySem.Expr) (ifs : List PySem.Expr) (scope : Scope) (c : E), cC T N n sc b e tg it ifs scope = some c →
  ∃ e' tg' it' c' vs, c = .comp b e' tg' it' c' vs ∧ (∀ pos, PE X (.ListComp e [⟨tg, it, ifs, 0⟩] scope pos) (LL X.K W (wL Γ G e' tg' it' c' vs))) ∧
    ∀ pos spos i y py, X.N[i]? = some y → X.env.scope.names.lookup y = some .local → swapsWith (.ListComp e [⟨tg, it, ifs, 0⟩] scope pos) (some (.Name y py)) spos.line X.env = pure true →
      PS X (.Assign [.Name y py] (.ListComp e [⟨tg, it, ifs, 0⟩] scope pos) spos) (tAsg (LL X.K W (wL Γ G e' tg' it' c' vs)) (gName i))
variable {T N Γ G k}
theorem stepA {n : Nat} (hE : SE T N Γ G k n) (hA : SA T N Γ G k n) : SA T N Γ G k (n + 1) := by
  intro X W sc own g es cs h
  cases es with
  | nil =>
    simp only [cEs, Option.some.injEq] at h
    subst h
    exact PA.imp pa_nil fun σ H Q q => la_nil q
  | cons e es =>
    simp only [cEs, bind, Option.bind_eq_some_iff, pure, Option.some.injEq] at h
    obtain ⟨e', h1, es', h2, rfl⟩ := h
    exact PA.imp (pa_cons (hE X W sc own g e e' h1) (hA X W sc own g es es' h2) (plain_star (cE_plain h1) es X.env)) fun σ H Q q => la_cons q
theorem stepO {n : Nat} (hE : SE T N Γ G k n) : SO T N Γ G k (n + 1) := by
  intro X W sc own g e c h
  cases e with
  | none =>
    simp only [cO, Option.some.injEq] at h
    subst h
    refine ⟨fun pins s σ H Q I q => po_none.run pins s σ H Q I ?_⟩
    obtain ⟨σ', S, F, Qd, Xd, rel, rs, hw, kv, kx⟩ := q
    exact kv _ _ _ hw .refl rel
  | some e =>
    simp only [cO, Option.map_eq_some_iff] at h
    obtain ⟨c', h1, rfl⟩ := h
    refine ⟨fun pins s σ H Q I q => (po_some (hE X W sc own g e c' h1)).run pins s σ H Q I ?_⟩
    obtain ⟨σ', S, F, Qd, Xd, rel, rs, hw, kv, kx⟩ := q
    refine ⟨σ', S, F, _, Xd, rel, rs, hw, fun d S1 x H1 q1 e1 rel1 rd1 => ?_, kx⟩
    cases d <;> first | exact (show False from q1).elim | skip
    exact ⟨_, rd1.inti, kv _ _ _ q1 e1 rel1⟩
theorem baseB_ok {o : PySem.Expr} {m : Str} {env : Env} (h : baseB o = true) : attributeBase o m env (eval o env) = eval o env := by
  cases o with
  | Call f es kws p =>
    cases es with
    | nil => cases h
    | cons e es => cases f <;> rfl
  | _ => rfl
theorem stepI {n : Nat} (hE : SE T N Γ G k n) : SI T N Γ G k (n + 1) := by
  intro X W sc own g tg e c h hwk
  simp only [cI] at h
  split at h
  case h_1 a hr =>
    simp only [Option.map_eq_some_iff] at h
    obtain ⟨c', h1, rfl⟩ := h
    obtain ⟨p, pos, rfl, hg, hf⟩ : ∃ p pos, e = .Call (.Name "range" p) [a] [] pos ∧ glB sc "range" = true ∧ T.free.contains "range" = true := by
      unfold isRng at hr
      split at hr
      case h_1 f p es pos =>
        split at hr
        case isTrue hh =>
          cases hr
          rw [Bool.and_eq_true, Bool.and_eq_true, decide_eq_true_eq] at hh
          obtain ⟨⟨h1, h2⟩, rfl⟩ := hh
          exact ⟨p, pos, rfl, h1, h2⟩
        case isFalse => cases hr
      case h_2 => cases hr
    have pl := plain_star (cE_plain h1) [] X.env
    refine PI.imp (pi_range1 (tg := tg) (p := p) (pos := pos) (g.gl hg) (g.lk.free _ hf) (pa_cons (hE X W sc own g a c' h1) pa_nil pl) (by rw [pl]; rfl)) fun τ H R q => ?_
    obtain ⟨σ', S, F, Qd, Xd, rel, rs, hw, kv, kx⟩ := q
    refine ⟨σ', S, F, _, Xd, rel, rs, hw, fun d S1 x H1 q1 e1 rel1 rd1 => ?_, kx⟩
    cases d <;> first | exact (show False from q1).elim | skip
    rename_i j
    obtain ⟨⟨b1, b2⟩, q1⟩ : inB j ∧ Qd (rngD 0 j.toNat) (fun _ => True) S1 := q1
    exact ⟨j, by rw [rd1.inti], b1, b2, kv _ _ _ _ _ q1 e1 rel1 walkN⟩
  case h_2 a b hr =>
    simp only [bind, Option.bind_eq_some_iff, pure, Option.some.injEq] at h
    obtain ⟨a', h1, b', h2, rfl⟩ := h
    obtain ⟨p, pos, rfl, hg, hf⟩ : ∃ p pos, e = .Call (.Name "range" p) [a, b] [] pos ∧ glB sc "range" = true ∧ T.free.contains "range" = true := by
      unfold isRng at hr
      split at hr
      case h_1 f p es pos =>
        split at hr
        case isTrue hh =>
          cases hr
          rw [Bool.and_eq_true, Bool.and_eq_true, decide_eq_true_eq] at hh
          obtain ⟨⟨h1, h2⟩, rfl⟩ := hh
          exact ⟨p, pos, rfl, h1, h2⟩
        case isFalse => cases hr
      case h_2 => cases hr
    have pb := plain_star (cE_plain h2) [] X.env
    have pl := plain_star (cE_plain h1) [b] X.env
    refine PI.imp (pi_range2 (tg := tg) (p := p) (pos := pos) (g.gl hg) (g.lk.free _ hf) (pa_cons (hE X W sc own g a a' h1) (pa_cons (hE X W sc own g b b' h2) pa_nil pb) pl) (by rw [pl, pb]; rfl) (by rw [pb]; rfl)) fun τ H R q => ?_
    obtain ⟨σ', S, F, Qd, Xd, rel, rs, hw, kv, kx⟩ := q
    refine ⟨σ', S, F, _, Xd, rel, rs, hw, fun d S1 x H1 q1 e1 rel1 rd1 => ?_, kx⟩
    refine ⟨σ', S1, F, _, Xd, rel1, rs.ext e1, q1, fun d2 S2 y H2 q2 e2 rel2 rd2 => ?_, kx.ext e1⟩
    cases d <;> cases d2 <;> first | exact (show False from q2).elim | skip
    rename_i i j
    obtain ⟨⟨b1, b2⟩, ⟨b3, b4⟩, q2⟩ : inB i ∧ inB j ∧ Qd (rngD i (j - i).toNat) (fun _ => True) S2 := q2
    exact ⟨i, j, by rw [rd1.inti, rd2.inti], ⟨b1, b2, b3, b4⟩, kv _ _ _ _ _ q2 (e1.trans e2) rel2 walkN⟩
  case h_3 a b c3 hr =>
    simp only [bind, Option.bind_eq_some_iff, pure, Option.some.injEq] at h
    obtain ⟨a', h1, b', h2, c', h3, rfl⟩ := h
    obtain ⟨p, pos, rfl, hg, hf⟩ : ∃ p pos, e = .Call (.Name "range" p) [a, b, c3] [] pos ∧ glB sc "range" = true ∧ T.free.contains "range" = true := by
      unfold isRng at hr
      split at hr
      case h_1 f p es pos =>
        split at hr
        case isTrue hh =>
          cases hr
          rw [Bool.and_eq_true, Bool.and_eq_true, decide_eq_true_eq] at hh
          obtain ⟨⟨h1, h2⟩, rfl⟩ := hh
          exact ⟨p, pos, rfl, h1, h2⟩
        case isFalse => cases hr
      case h_2 => cases hr
    have pc := plain_star (cE_plain h3) [] X.env
    have pb := plain_star (cE_plain h2) [c3] X.env
    have pl := plain_star (cE_plain h1) [b, c3] X.env
    refine PI.imp (pi_range3 (tg := tg) (p := p) (pos := pos) (g.gl hg) (g.lk.free _ hf) (pa_cons (hE X W sc own g a a' h1) (pa_cons (hE X W sc own g b b' h2) (pa_cons (hE X W sc own g c3 c' h3) pa_nil pc) pb) pl) pl (by rw [pb, pc]; rfl)) fun τ H R q => ?_
    obtain ⟨σ', S, F, Qd, Xd, rel, rs, hw, kv, kx⟩ := q
    refine ⟨σ', S, F, _, Xd, rel, rs, hw, fun d S1 x H1 q1 e1 rel1 rd1 => ?_, kx⟩
    refine ⟨σ', S1, F, _, Xd, rel1, rs.ext e1, q1, fun d2 S2 y H2 q2 e2 rel2 rd2 => ?_, kx.ext e1⟩
    refine ⟨σ', S2, F, _, Xd, rel2, rs.ext (e1.trans e2), q2, fun d3 S3 z H3 q3 e3 rel3 rd3 => ?_, kx.ext (e1.trans e2)⟩
    cases d <;> cases d2 <;> cases d3 <;> first | exact (show False from q3).elim | skip
    rename_i i j m
    obtain ⟨⟨b1, b2⟩, ⟨b3, b4⟩, rfl, q3⟩ : inB i ∧ inB j ∧ m = -1 ∧ Qd (rngDn i (i - j).toNat) (fun _ => True) S3 := q3
    exact ⟨i, j, -1, (i - j).toNat, by rw [rd1.inti, rd2.inti, rd3.inti], RgC.neg b1 b2 b3 b4, kv _ _ _ _ _ q3 ((e1.trans e2).trans e3) rel3 walkDn⟩
  case h_4 => cases h
  case h_5 =>
   split at h
   case h_1 a hr =>
    simp only [Option.map_eq_some_iff] at h
    obtain ⟨c', h1, rfl⟩ := h
    obtain ⟨p, pos, rfl, hg, hf⟩ : ∃ p pos, e = .Call (.Name "enumerate" p) [a] [] pos ∧ glB sc "enumerate" = true ∧ T.free.contains "enumerate" = true := by
      unfold isEn at hr
      split at hr
      case h_1 f p1 e1 pos1 =>
        split at hr
        case isTrue hh =>
          cases hr
          rw [Bool.and_eq_true, Bool.and_eq_true, decide_eq_true_eq] at hh
          obtain ⟨⟨h1, h2⟩, h3⟩ := hh
          subst h3
          exact ⟨_, _, rfl, h1, h2⟩
        case isFalse => cases hr
      case h_2 => cases hr
    have htg := hwk rfl
    obtain ⟨es, kk, tp, rfl⟩ : ∃ es kk tp, tg = .Tuple es kk tp := by
      cases tg <;> first | exact ⟨_, _, _, rfl⟩ | cases htg
    have pl := plain_star (cE_plain h1) [] X.env
    refine PI.imp (pi_enumX (tpos := tp) (kk := kk) (elts := es) (g.gl hg) (g.lk.free _ hf) (pa_cons (hE X W sc own g a c' h1) pa_nil pl) (by rw [pl]; rfl)) fun τ H R q => ?_
    obtain ⟨σ', S, F, Qd, Xd, rel, rs, hw, kv, kx⟩ := q
    refine ⟨σ', S, F, _, Xd, rel, rs, hw, fun d S1 x H1 q1 e1 rel1 rd1 => ?_, kx⟩
    cases d <;> first | exact (show False from q1).elim | skip
    case tup l =>
      obtain ⟨b, vs, eb, hs, hl⟩ := rd1.tupi
      exact ⟨b, vs, by rw [eb], .inr ⟨hs, kv _ _ _ _ _ q1 e1 rel1 (walkP hs hl)⟩⟩
    case ref b =>
    have eb := rd1.refi
    subst eb
    have q1 : (match S1 b with | some (.lst l) => Qd (enumD l) (fun S' => S' b = some (.lst l)) S1 | some (.rls l) => Qd (enumD l) (fun S' => S' b = some (.rls l)) S1 | _ => False) := q1
    split at q1
    case h_1 l hl =>
      obtain ⟨vs, h1, h2⟩ := rel1.lst hl
      exact ⟨b, vs, rfl, .inl ⟨.of h1, kv _ _ _ _ _ q1 e1 rel1 walkE⟩⟩
    case h_2 l hl =>
      obtain ⟨o, vs, h1, h2⟩ := rel1.rls hl
      exact ⟨b, vs, rfl, .inl ⟨.inl (.inr ⟨o, h1⟩), kv _ _ _ _ _ q1 e1 rel1 walkER⟩⟩
    case h_3 => exact q1.elim
   case h_2 =>
    split at h
    case h_1 o hr =>
      simp only [Option.map_eq_some_iff] at h
      obtain ⟨c', h1, rfl⟩ := h
      obtain ⟨apos, pos, rfl, hl, hb⟩ : ∃ apos pos, e = .Call (.Attribute o "items" apos) [] [] pos ∧ (apos.endLine == pos.line) = true ∧ baseB o = true := by
        unfold isItm at hr
        split at hr
        case h_1 o1 m apos pos =>
          split at hr
          case isTrue hh =>
            cases hr
            rw [Bool.and_eq_true, Bool.and_eq_true, decide_eq_true_eq] at hh
            obtain ⟨⟨rfl, h2⟩, h3⟩ := hh
            exact ⟨_, _, rfl, h2, h3⟩
          case isFalse => cases hr
        case h_2 => cases hr
      have htg := hwk rfl
      obtain ⟨es, kk, tp, rfl⟩ : ∃ es kk tp, tg = .Tuple es kk tp := by
        cases tg <;> first | exact ⟨_, _, _, rfl⟩ | cases htg
      have hbase : attributeBase o "items" X.env (eval o X.env) = eval o X.env := baseB_ok hb
      refine PI.imp (pi_items (tpos := tp) (kk := kk) (elts := es) (pe_lk (hE X W sc own g o c' h1)) hbase hl) fun τ H R q => ?_
      obtain ⟨σ', S, F, Qd, Xd, rel, rs, hw, kv, kx⟩ := q
      refine ⟨σ', S, F, _, Xd, rel, rs, hw, fun d S1 x H1 q1 e1 rel1 rd1 => ?_, kx⟩
      exact itmR_of rel1 rd1 q1 fun l chk S' J H' q' e' rel' wk => kv l chk S' J H' q' (e1.trans e') rel' wk
    case h_2 =>
    simp only [Option.map_eq_some_iff] at h
    obtain ⟨c', h1, rfl⟩ := h
    refine PI.imp (pi_of (tg := tg) (hE X W sc own g e c' h1)) fun τ H R q => ?_
    obtain ⟨σ', S, F, Qd, Xd, rel, rs, hw, kv, kx⟩ := q
    refine ⟨σ', S, F, _, Xd, rel, rs, hw, fun d S1 x H1 q1 e1 rel1 rd1 => ?_, kx⟩
    exact itR_of rel1 rd1 q1 fun l chk S' J H' q' e' rel' wk => kv l chk S' J H' q' (e1.trans e') rel' wk
theorem stepB {n : Nat} (hE : SE T N Γ G k n) (hT : ST T N Γ G k n) (hB : SB T N Γ G k n) : SB T N Γ G k (n + 1) := by
  intro X W sc own g op es c pos h0
  match es, h0 with
  | [], h => simp [cB] at h
  | [a], h =>
    simp only [cB] at h
    refine ⟨pe_one (hE X W sc own g a c h), ?_⟩
    cases op
    · exact pw_and1 (hT X W sc own g a c h)
    · exact pw_or1 (hT X W sc own g a c h)
  | a :: b :: r, h =>
    simp only [cB, bind, Option.bind_eq_some_iff, pure, Option.some.injEq] at h
    obtain ⟨a', h1, b', h2, rfl⟩ := h
    obtain ⟨h3, h4⟩ := hB X W sc own g op (b :: r) b' pos h2
    cases op
    · constructor
      · refine PE.imp (pe_and (hE X W sc own g a a' h1) h3) fun τ H Q q => ?_
        obtain ⟨σ', S, F, Qd, Xd, rel, rs, hw, kv, kx⟩ := q
        refine ⟨σ', S, F, _, Xd, rel, rs, hw, fun d S1 x H1 q1 e1 rel1 rd1 => ?_, kx⟩
        cases d <;> first | exact (show False from q1).elim | skip
        rename_i c
        have q1 : if c = true then wE Γ G b' σ' S1 Qd Xd else Qd (.bl false) S1 := q1
        refine ⟨c, rd1.bli, ?_⟩
        cases c with
        | true => exact ⟨σ', S1, F, Qd, Xd, rel1, rs.ext e1, q1, kv.ext e1, kx.ext e1⟩
        | false => exact kv _ _ _ _ q1 e1 rel1 .bl
      · refine ⟨fun wh pins s τ H Q I q => (pw_and (hT X W sc own g a a' h1) h4).run wh pins s τ H Q I ?_⟩
        obtain ⟨σ', S, F, Qd, Xd, rel, rs, hw, kv, kx⟩ := q
        refine ⟨σ', S, F, _, Xd, rel, rs, hw, fun c S1 H1 q1 e1 rel1 => ?_, kx⟩
        cases c with
        | true => exact ⟨σ', S1, F, Qd, Xd, rel1, rs.ext e1, q1, fun b S' H' q e => kv b S' H' q (e1.trans e), kx.ext e1⟩
        | false => exact kv _ _ _ q1 e1 rel1
    · constructor
      · refine PE.imp (pe_or (hE X W sc own g a a' h1) h3) fun τ H Q q => ?_
        obtain ⟨σ', S, F, Qd, Xd, rel, rs, hw, kv, kx⟩ := q
        refine ⟨σ', S, F, _, Xd, rel, rs, hw, fun d S1 x H1 q1 e1 rel1 rd1 => ?_, kx⟩
        cases d <;> first | exact (show False from q1).elim | skip
        rename_i c
        have q1 : if c = true then Qd (.bl true) S1 else wE Γ G b' σ' S1 Qd Xd := q1
        refine ⟨c, rd1.bli, ?_⟩
        cases c with
        | false => exact ⟨σ', S1, F, Qd, Xd, rel1, rs.ext e1, q1, kv.ext e1, kx.ext e1⟩
        | true => exact kv _ _ _ _ q1 e1 rel1 .bl
      · refine ⟨fun wh pins s τ H Q I q => (pw_or (hT X W sc own g a a' h1) h4).run wh pins s τ H Q I ?_⟩
        obtain ⟨σ', S, F, Qd, Xd, rel, rs, hw, kv, kx⟩ := q
        refine ⟨σ', S, F, _, Xd, rel, rs, hw, fun c S1 H1 q1 e1 rel1 => ?_, kx⟩
        cases c with
        | false => exact ⟨σ', S1, F, Qd, Xd, rel1, rs.ext e1, q1, fun b S' H' q e => kv b S' H' q (e1.trans e), kx.ext e1⟩
        | true => exact kv _ _ _ q1 e1 rel1
theorem stepC {n : Nat} (hE : SE T N Γ G k n) (hT : ST T N Γ G k n) (hI : SI T N Γ G k n) : SC T N Γ G k (n + 1) := by
  intro X W sc own g b e tg it ifs scope c h
  simp only [cC, bind, Option.bind_eq_some_iff, pure, Option.some.injEq] at h
  obtain ⟨_, h1, it', h2, _, h7, tg', h3, _, h4, e', h5, c', h6, rfl⟩ := h
  rw [gd_some] at h1 h4 h7
  have hwk : wkI it' = true → tupX tg = true := fun q => by
    rw [q] at h7
    exact h7
  have hwg : wkI it' = true → ∃ ts, tg' = .tup ts := fun q => by
    have h8 := hwk q
    cases n with
    | zero => simp [cG] at h3
    | succ n =>
      cases tg <;> first | (cases h8; done) | skip
      simp only [cG, Option.map_eq_some_iff] at h3
      obtain ⟨ts, _, e⟩ := h3
      exact ⟨ts, e.symm⟩
  have ok := blkOk_by h1
  have ok' : BlkOk X.N X.env.scope scope (ownOf N scope) := by rw [g.N_eq, g.sc_eq]; exact ok
  have gin : ∀ (s : Shared) (H : Hp) (C : Addr) (cl : List (Str × Addr)) (fp : List Addr), Gd T N Γ G (X.blk s H scope (compEnvC scope cl C X.env) fp) W0 (relS scope sc) (fun x => scope.names.lookup x == some .cell) k := fun s H C cl fp =>
    ⟨g.N_eq, by rw [← g.sc_eq]; rfl, g.nd, ok.kind, g.room, g.room1, g.k2, g.calm, tk0, .never, fun _ hx => hx, g.lk⟩
  have hi : PI X tg it (LI X.K (wkI it') W (wI Γ G it')) := hI X W sc own g tg it it' h2 hwk
  have hN : X.N.Nodup := by rw [g.N_eq]; exact g.nd
  have hg : ∀ (s : Shared) (H : Hp) (C : Addr) (cl : List (Str × Addr)) (fp : List Addr), PG (X.blk s H scope (compEnvC scope cl C X.env) fp) tg (LG X.K (wkI it') (tgSlots tg') (wG tg')) := fun s H C cl fp => sG (gin s H C cl fp) n tg tg' _ h3 hwg
  have he : ∀ (s : Shared) (H : Hp) (C : Addr) (cl : List (Str × Addr)) (fp : List Addr), PE (X.blk s H scope (compEnvC scope cl C X.env) fp) e (LE X.K W0 (wE Γ G e')) := fun s H C cl fp => hE _ _ _ _ (gin s H C cl fp) e e' h5
  have ht : ∀ (s : Shared) (H : Hp) (C : Addr) (cl : List (Str × Addr)) (fp : List Addr), PTs (X.blk s H scope (compEnvC scope cl C X.env) fp) ifs (LT X.K W0 (wC Γ G c')) := by
    intro s H C cl fp
    match ifs, h6 with
    | [], h6 =>
      cases h6
      refine ⟨fun pins s σ H Q I q => pts_nil.run pins s σ H Q I ?_⟩
      obtain ⟨σ', S, F, Qd, Xd, rel, rs, hw, kv, kx⟩ := q
      exact kv _ _ _ hw .refl rel
    | [t], h6 =>
      simp only [Option.map_eq_some_iff] at h6
      obtain ⟨t', h7, h8⟩ := h6
      rw [← h8]
      exact pts_one (hT _ _ _ _ (gin s H C cl fp) t t' h7)
    | _ :: _ :: _, h6 => cases h6
  have hs : ∀ x, foldedSetIterable it X.env x = pure x := by
    intro x
    refine plain_fold ?_ _ _
    cases n with
    | zero => simp [cI] at h2
    | succ n =>
      simp only [cI] at h2
      cases it <;> first | rfl | (simp [isRng, isEn, isItm] at h2; obtain ⟨c, h2, _⟩ := h2; exact cE_plain h2)
  have hsl : ∀ i ∈ tgSlots tg', i ∈ (ownOf N scope).map (·.2) := by
    intro i hi
    have := List.all_eq_true.mp h4 i hi
    simpa using this
  refine ⟨e', tg', it', c', _, rfl, fun pos => ?_, fun pos spos i y py hy hyl hsw => ?_⟩
  · exact PE.imp (pe_lc (pos := pos) (own := ownOf N scope) g.calm hN hi ok' hg ht he hs) fun τ H Q q => lc_conv hsl q
  · exact PS.imp (ps_setLc (pos := pos) (own := ownOf N scope) g.calm hN hy hyl hsw hi ok' hg ht he hs) fun D τ H q => lc_conv hsl q
theorem stepD {n : Nat} (hE : SE T N Γ G k n) (hT : ST T N Γ G k n) (hI : SI T N Γ G k n) : SD T N Γ G k (n + 1) := by
  intro X W sc own g ke ve tg it ifs scope c h
  simp only [cDc, bind, Option.bind_eq_some_iff, pure, Option.some.injEq] at h
  obtain ⟨_, h1, it', h2, _, h7, tg', h3, _, h4, ke', h5, ve', h8, c', h6, rfl⟩ := h
  rw [gd_some] at h1 h4 h7
  have hwk : wkI it' = true → tupX tg = true := fun q => by
    rw [q] at h7
    exact h7
  have hwg : wkI it' = true → ∃ ts, tg' = .tup ts := fun q => by
    have h9 := hwk q
    cases n with
    | zero => simp [cG] at h3
    | succ n =>
      cases tg <;> first | (cases h9; done) | skip
      simp only [cG, Option.map_eq_some_iff] at h3
      obtain ⟨ts, _, e⟩ := h3
      exact ⟨ts, e.symm⟩
  have ok := blkOk_by h1
  have ok' : BlkOk X.N X.env.scope scope (ownOf N scope) := by rw [g.N_eq, g.sc_eq]; exact ok
  have gin : ∀ (s : Shared) (H : Hp) (C : Addr) (cl : List (Str × Addr)) (fp : List Addr), Gd T N Γ G (X.blk s H scope (compEnvC scope cl C X.env) fp) W0 (relS scope sc) (fun x => scope.names.lookup x == some .cell) k := fun s H C cl fp =>
    ⟨g.N_eq, by rw [← g.sc_eq]; rfl, g.nd, ok.kind, g.room, g.room1, g.k2, g.calm, tk0, .never, fun _ hx => hx, g.lk⟩
  have hi : PI X tg it (LI X.K (wkI it') W (wI Γ G it')) := hI X W sc own g tg it it' h2 hwk
  have hN : X.N.Nodup := by rw [g.N_eq]; exact g.nd
  have hg : ∀ (s : Shared) (H : Hp) (C : Addr) (cl : List (Str × Addr)) (fp : List Addr), PG (X.blk s H scope (compEnvC scope cl C X.env) fp) tg (LG X.K (wkI it') (tgSlots tg') (wG tg')) := fun s H C cl fp => sG (gin s H C cl fp) n tg tg' _ h3 hwg
  have hk : ∀ (s : Shared) (H : Hp) (C : Addr) (cl : List (Str × Addr)) (fp : List Addr), PE (X.blk s H scope (compEnvC scope cl C X.env) fp) ke (LE X.K W0 (wE Γ G ke')) := fun s H C cl fp => hE _ _ _ _ (gin s H C cl fp) ke ke' h5
  have he : ∀ (s : Shared) (H : Hp) (C : Addr) (cl : List (Str × Addr)) (fp : List Addr), PE (X.blk s H scope (compEnvC scope cl C X.env) fp) ve (LE X.K W0 (wE Γ G ve')) := fun s H C cl fp => hE _ _ _ _ (gin s H C cl fp) ve ve' h8
  have ht : ∀ (s : Shared) (H : Hp) (C : Addr) (cl : List (Str × Addr)) (fp : List Addr), PTs (X.blk s H scope (compEnvC scope cl C X.env) fp) ifs (LT X.K W0 (wC Γ G c')) := by
    intro s H C cl fp
    match ifs, h6 with
    | [], h6 =>
      cases h6
      refine ⟨fun pins s σ H Q I q => pts_nil.run pins s σ H Q I ?_⟩
      obtain ⟨σ', S, F, Qd, Xd, rel, rs, hw, kv, kx⟩ := q
      exact kv _ _ _ hw .refl rel
    | [t], h6 =>
      simp only [Option.map_eq_some_iff] at h6
      obtain ⟨t', h10, h11⟩ := h6
      rw [← h11]
      exact pts_one (hT _ _ _ _ (gin s H C cl fp) t t' h10)
    | _ :: _ :: _, h6 => cases h6
  have hs : ∀ x, foldedSetIterable it X.env x = pure x := by
    intro x
    refine plain_fold ?_ _ _
    cases n with
    | zero => simp [cI] at h2
    | succ n =>
      simp only [cI] at h2
      cases it <;> first | rfl | (simp [isRng, isEn, isItm] at h2; obtain ⟨c, h2, _⟩ := h2; exact cE_plain h2)
  have hsl : ∀ i ∈ tgSlots tg', i ∈ (ownOf N scope).map (·.2) := by
    intro i hi
    have := List.all_eq_true.mp h4 i hi
    simpa using this
  refine ⟨ke', ve', tg', it', c', _, rfl, fun pos => ?_, fun pos spos i y py hy hyl hsw => ?_⟩
  · exact PE.imp (pe_dc (pos := pos) (own := ownOf N scope) g.calm hN hi ok' hg ht hk he hs) fun τ H Q q => dc_conv hsl q
  · exact PS.imp (ps_setD1 (pos := pos) (own := ownOf N scope) g.calm hN hy hyl hsw hi ok' hg ht hk he hs) fun D τ H q => dc_conv hsl q
end Mi
namespace Mi
open PySem PySem.Spec PyProof.Rows L2
variable {T : Tb} {N : List Str} {Γ : Str → FS} {G : Str → Option D} {k : Nat}
theorem Rel.lit {K : PySem.W.Frag} {S : Sto} {F H : Hp} {p : Addr} {o o' : HO} {c : Cell} (r : Rel K S (L2.upd F p o) H) (f : F p = none) (nt : ∀ xs, o ≠ .tup xs) (nf : ∀ ob x, o ≠ .frz ob x) (h : RC K (L2.upd H p o') p c) : Ext H (L2.upd H p o') ∧ Rel K (S.upd p c) F (L2.upd H p o') := by
  have hp : H p = some o := r.frm p _ upd_same
  have sp : S p = none := r.sep p _ upd_same
  have x : Ext H (L2.upd H p o') := .write hp nt nf
  refine ⟨x, fun a d q => ?_, fun a u q => ?_, fun a u q => ?_⟩
  · by_cases ha : a = p
    · subst ha; rw [Sto.upd_same] at q; cases q; exact h
    · rw [Sto.upd_ne ha] at q; exact (r.cell a d q).ext x (upd_ne ha)
  · have ha : a ≠ p := fun z => by subst z; rw [f] at q; cases q
    rw [upd_ne ha]; exact r.frm a u (upd_sub f a u q)
  · have ha : a ≠ p := fun z => by subst z; rw [f] at q; cases q
    rw [Sto.upd_ne ha]; exact r.sep a u (upd_sub f a u q)
theorem cEs_len {sc : Scope} : ∀ {n : Nat} {es : List PySem.Expr} {cs : Es}, cEs T N n sc es = some cs → True := fun _ => trivial
theorem cEs_few {sc : Scope} {env : Env} {pos : Pos} {n : Nat} {e : PySem.Expr} {es : List PySem.Expr} {cs : Es} (h : cEs T N n sc (e :: es) = some cs) (hl : (e :: es).length < 20) :
    ((backTo pos (starEach (e :: es) env)).all (fun x => !x.1) && (backToKw pos (keywordEach [] env)).all (fun x => x.1.isSome) && decide ((e :: es).length + ([] : List Keyword).length + (if ([] : List Keyword).isEmpty then 0 else 1) < 30)) = true := by
  have h1 := cEs_star (env := env) (pos := pos) h
  have h2 : (backTo pos (starEach (e :: es) env)).all (fun x => !x.1) = true := by
    rw [List.all_eq_true]
    intro x hx
    have := List.any_eq_false.mp h1 x hx
    simpa using this
  rw [h2]
  simp only [Bool.true_and, Bool.and_eq_true, decide_eq_true_eq]
  refine ⟨rfl, ?_⟩
  show (e :: es).length + 0 + 0 < 30
  omega
def mtyS : Mt → String
  | .get => "dict" | .append => "list" | .extend => "list" | .pop => "list" | .insert => "list" | .find => "str" | .index => "list" | .startswith => "str" | .join => "str" | .zfill => "str"
theorem ty_of {K : PySem.W.Frag} {S : Sto} {F H : Hp} {m : Mt} {d : D} {x : V} (rel : Rel K S F H) (rd : RD K H d x) (h : mtyR m d S = true) : tyV K (mtyS m) x H := by
  cases m <;> cases d <;> simp only [mtyR, Bool.false_eq_true] at h
  case get.ref a =>
    have e := rd.refi; subst e
    split at h
    case h_1 kvs hk =>
      obtain ⟨ws, h1, h2⟩ := rel.dct hk
      exact .inr (.inr (.inl ⟨rfl, .inl ⟨ws, h1⟩⟩))
    case h_2 => cases h
  all_goals
    (have e := rd.refi; subst e
     split at h
     case h_1 l hl =>
       obtain ⟨ws, h1, h2⟩ := rel.lst hl
       exact .inl ⟨rfl, ws, .of h1⟩
     case h_2 => cases h)
theorem le_mth {K : PySem.W.Frag} {W : WX} {m : Mt} {w1 : WE1} {w2 : En → Sto → (List D → Sto → Prop) → KX → Prop} {τ : L2.St} {H : Hp} {Q : VK} (h : LE K W (fun σ S Q X => w1 σ S (fun x S1 => mtyR m x S1 = true ∧ w2 σ S1 (fun ds S2 => mthR m x ds S2 Q) X) X) τ H Q) :
    tBM K (mtyS m) (LM K m) (LE K W w1) (LA K W w2) τ H Q := by
  obtain ⟨σ, S, F, Qd, Xd, rel, rs, hw, kv, kx⟩ := h
  refine ⟨σ, S, F, _, Xd, rel, rs, hw, fun d S1 x H1 ⟨ht, q1⟩ e1 rel1 rd1 => ⟨ty_of rel1 rd1 ht, ?_⟩, kx⟩
  exact ⟨σ, S1, F, _, Xd, rel1, rs.ext e1, q1, fun ds S2 vs H2 q2 e2 rel2 rd2 => ⟨d, ds, S2, F, Qd, rel2, RD.ext e2 _ _ rd1, rd2, q2, kv.ext (e1.trans e2)⟩, kx.ext e1⟩
theorem le_mth0 {K : PySem.W.Frag} {W : WX} {m : Mt} {w1 : WE1} {τ : L2.St} {H : Hp} {Q : VK} (h : LE K W (fun σ S Q X => w1 σ S (fun x S1 => mtyR m x S1 = true ∧ mthR m x [] S1 Q) X) τ H Q) :
    tBM0 K (mtyS m) (LM K m) (LE K W w1) τ H Q := by
  obtain ⟨σ, S, F, Qd, Xd, rel, rs, hw, kv, kx⟩ := h
  refine ⟨σ, S, F, _, Xd, rel, rs, hw, fun d S1 x H1 ⟨ht, q1⟩ e1 rel1 rd1 => ⟨ty_of rel1 rd1 ht, ?_⟩, kx⟩
  exact ⟨d, [], S1, F, Qd, rel1, rd1, .nil, q1, kv.ext e1⟩
theorem base_ok {o : PySem.Expr} {name : Str} {env : Env} {wh : Sem Value} (h : (match o with | .Call .. => false | _ => true) = true) : attributeBase o name env wh = wh := by
  cases o <;> first | rfl | cases h
theorem mthOf_cases {x : Str} {m : Mt} (h : mthOf x = some m) : (x = ("append" : Str) ∧ m = .append) ∨ (x = ("extend" : Str) ∧ m = .extend) ∨ (x = ("get" : Str) ∧ m = .get) ∨ (x = ("pop" : Str) ∧ m = .pop) ∨ (x = ("insert" : Str) ∧ m = .insert) ∨ (x = ("index" : Str) ∧ m = .index) := by
  unfold mthOf at h
  rcases ite_some h with ⟨h1, h2⟩ | h; exact .inl ⟨h1, h2.symm⟩
  rcases ite_some h with ⟨h1, h2⟩ | h; exact .inr (.inl ⟨h1, h2.symm⟩)
  rcases ite_some h with ⟨h1, h2⟩ | h; exact .inr (.inr (.inl ⟨h1, h2.symm⟩))
  rcases ite_some h with ⟨h1, h2⟩ | h; exact .inr (.inr (.inr (.inl ⟨h1, h2.symm⟩)))
  rcases ite_some h with ⟨h1, h2⟩ | h; exact .inr (.inr (.inr (.inr (.inl ⟨h1, h2.symm⟩))))
  rcases ite_some h with ⟨h1, h2⟩ | h; exact .inr (.inr (.inr (.inr (.inr ⟨h1, h2.symm⟩))))
  cases h
theorem pe_mth {X : Cx} {W : WX} {sc : Scope} {own : Str → Bool} (g : Gd T N Γ G X W sc own k) {name : Str} {m : Mt} {o e : PySem.Expr} {es : List PySem.Expr} {apos cpos : Pos} {to : TE} {t : TA} (hm : mthOf name = some m) (ho : PE X o to) (ha : PA X (e :: es) t)
    (hbase : attributeBase o name X.env (eval o X.env) = eval o X.env)
    (hfew : ((backTo cpos (starEach (e :: es) X.env)).all (fun x => !x.1) && (backToKw cpos (keywordEach [] X.env)).all (fun x => x.1.isSome)
      && decide ((e :: es).length + ([] : List Keyword).length + (if ([] : List Keyword).isEmpty then 0 else 1) < 30)) = true)
    (hline : (apos.endLine == cpos.line) = true) (hs : starEach (e :: es) X.env = (false, eval e X.env) :: starEach es X.env) (hpl : (backTo cpos (starEach es X.env)).any (·.1) = false) :
    PE X (.Call (.Attribute o name apos) (e :: es) [] cpos) (tBM X.K (mtyS m) (LM X.K m) to t) := by
  rcases mthOf_cases hm with ⟨rfl, rfl⟩ | ⟨rfl, rfl⟩ | ⟨rfl, rfl⟩ | ⟨rfl, rfl⟩ | ⟨rfl, rfl⟩ | ⟨rfl, rfl⟩
  · exact pe_bm PySem.F.plainAttrs_list PySem.F.slot_list_append PySem.F.type_list_append append_sound ho ha hbase hfew hline hs hpl
  · exact pe_bm PySem.F.plainAttrs_list PySem.F.slot_list_extend PySem.F.type_list_extend extend_sound ho ha hbase hfew hline hs hpl
  · exact pe_bm PySem.F.plainAttrs_dict PySem.F.slot_dict_get PySem.F.type_dict_get (get_sound g.room) ho ha hbase hfew hline hs hpl
  · exact pe_bm PySem.F.plainAttrs_list PySem.F.slot_list_pop PySem.F.type_list_pop pop_sound ho ha hbase hfew hline hs hpl
  · exact pe_bm PySem.F.plainAttrs_list PySem.F.slot_list_insert PySem.F.type_list_insert insert_sound ho ha hbase hfew hline hs hpl
  · exact pe_bm PySem.F.plainAttrs_list PySem.F.slot_list_index PySem.F.type_list_index index_sound ho ha hbase hfew hline hs hpl
theorem pe_mth0 {X : Cx} {W : WX} {sc : Scope} {own : Str → Bool} (g : Gd T N Γ G X W sc own k) {name : Str} {m : Mt} {o : PySem.Expr} {apos cpos : Pos} {to : TE} (hm : mthOf name = some m) (ho : PE X o to)
    (hbase : attributeBase o name X.env (eval o X.env) = eval o X.env) (hline : (apos.endLine == cpos.line) = true) :
    PE X (.Call (.Attribute o name apos) [] [] cpos) (tBM0 X.K (mtyS m) (LM X.K m) to) := by
  rcases mthOf_cases hm with ⟨rfl, rfl⟩ | ⟨rfl, rfl⟩ | ⟨rfl, rfl⟩ | ⟨rfl, rfl⟩ | ⟨rfl, rfl⟩ | ⟨rfl, rfl⟩
  · exact pe_bm0 PySem.F.plainAttrs_list PySem.F.slot_list_append PySem.F.type_list_append append_sound ho hbase hline
  · exact pe_bm0 PySem.F.plainAttrs_list PySem.F.slot_list_extend PySem.F.type_list_extend extend_sound ho hbase hline
  · exact pe_bm0 PySem.F.plainAttrs_dict PySem.F.slot_dict_get PySem.F.type_dict_get (get_sound g.room) ho hbase hline
  · exact pe_bm0 PySem.F.plainAttrs_list PySem.F.slot_list_pop PySem.F.type_list_pop pop_sound ho hbase hline
  · exact pe_bm0 PySem.F.plainAttrs_list PySem.F.slot_list_insert PySem.F.type_list_insert insert_sound ho hbase hline
  · exact pe_bm0 PySem.F.plainAttrs_list PySem.F.slot_list_index PySem.F.type_list_index index_sound ho hbase hline
theorem le_disp1 {K : PySem.W.Frag} {W : WX} {w1 w2 : WE1} {τ : L2.St} {H : Hp} {Q : VK}
    (h : LE K W (fun σ S Q X => w1 σ S (fun x S1 => w2 σ S1 (fun y S2 => (keyD x).isSome = true ∧ ∀ p, S2 p = none → Q (.ref p) (S2.upd p (.dct [(x, y)]))) X) X) τ H Q) : tDisp [(LE K W w1, LE K W w2)] τ H Q := by
  obtain ⟨σ, S, F, Qd, Xd, rel, rs, hw, kv, kx⟩ := h
  intro p hp
  have fp := rel.freeF hp
  have x0 : Ext H (L2.upd H p (.dK [])) := .new hp
  have kx' : ∀ {F' H1}, (∀ a o, F a = some o → F' a = some o) → Ext H H1 → KXs K F' H1 Xd (WE W τ) := fun hF e x S' c dx H' q e' r rx => kx x S' c dx H' q (e.trans e') (r.lessF hF) rx
  refine ⟨σ, S, L2.upd F p (.dK []), _, Xd, rel.hide hp, rs.ext x0, hw, fun d S1 x H1 q1 e1 rel1 rd1 => ?_, kx' (upd_sub fp) x0⟩
  refine ⟨σ, S1, L2.upd F p (.dK []), _, Xd, rel1, rs.ext (x0.trans e1), q1, fun d2 S2 y H2 q2 e2 rel2 rd2 => ?_, kx' (upd_sub fp) (x0.trans e1)⟩
  obtain ⟨hk, q2⟩ := q2
  obtain ⟨k', hk⟩ := Option.isSome_iff_exists.mp hk
  have rd1' := RD.ext e2 _ _ rd1
  refine ⟨rel2.frm p _ upd_same, [(k', y)], by rw [keyD_kV hk rd1']; rfl, Nat.le_of_ble_eq_true rfl, ?_⟩
  have hm : mergeK [] [(k', y)] = [(k', y)] := rfl
  rw [hm]
  have ex : Ext H2 (L2.upd H2 p (.dK [(k', y)])) := .write (rel2.frm p _ upd_same) (fun _ z => nomatch z) (fun _ _ z => nomatch z)
  obtain ⟨x3, rel3⟩ := rel2.lit (o' := .dK [(k', y)]) (c := .dct [(d, d2)]) fp (fun _ z => nomatch z) (fun _ _ z => nomatch z) ⟨_, upd_same, by rw [RK]; exact ⟨k', y, [], rfl, hk, RD.ext ex _ _ rd2, by rw [RK]⟩⟩
  exact kv _ _ _ _ (q2 p (rel2.sep p _ upd_same)) (((x0.trans e1).trans e2).trans x3) rel3 .ref
end Mi
namespace Mi
open PySem PySem.Spec PyProof.Rows L2
variable {T : Tb} {N : List Str} {Γ : Str → FS} {G : Str → Option D} {k : Nat}
theorem mthC_mem {m C key : Str} (h : (mthC T m).lookup C = some key) : (C, m, key) ∈ T.mth := by
  unfold mthC at h
  have : ∀ l : List (Str × Str × Str), (l.filterMap fun y => if y.2.1 = m then some (y.1, y.2.2) else none).lookup C = some key → (C, m, key) ∈ l := by
    intro l
    induction l with
    | nil => intro h; cases h
    | cons y l ih =>
      intro h
      rw [List.filterMap_cons] at h
      by_cases hy : y.2.1 = m
      · rw [if_pos hy] at h
        simp only [List.lookup_cons] at h
        split at h
        · rename_i e
          have e' : C = y.1 := eq_of_beq e
          have e2 := Option.some.inj h
          obtain ⟨y1, y2, y3⟩ := y
          simp only at hy e' e2
          subst hy e' e2
          exact List.mem_cons_self
        · exact List.mem_cons_of_mem _ (ih h)
      · rw [if_neg hy] at h
        exact List.mem_cons_of_mem _ (ih h)
  exact this _ h
theorem fldC_mem {f C : Str} (h : (fldC T f).contains C = true) : (C, f) ∈ T.fld := by
  have h : C ∈ fldC T f := by simpa using h
  unfold fldC at h
  rw [List.mem_filterMap] at h
  obtain ⟨y, hy, e⟩ := h
  split at e
  case isTrue hf =>
    cases e
    obtain ⟨y1, y2⟩ := y
    simp only at hf
    subst hf
    exact hy
  case isFalse => cases e
theorem mks_mem {f key : Str} : ∀ {l : List (Str × Str)}, l.lookup f = some key → (f, key) ∈ l
  | [], h => by cases h
  | (y, e) :: l, h => by
    rw [List.lookup_cons] at h
    cases c : f == y with
    | true =>
      rw [c] at h
      cases h
      rw [eq_of_beq c]
      exact List.mem_cons_self
    | false =>
      rw [c] at h
      exact List.mem_cons_of_mem _ (mks_mem h)
theorem RF.get {K : PySem.W.Frag} {H : Hp} {n : Str} : ∀ {l : List (Str × D)} {ws : List (Str × V)}, RF K H l ws → (∀ d, l.lookup n = some d → ∃ v, ws.lookup n = some v ∧ RD K H d v) ∧ (l.lookup n = none → ws.lookup n = none)
  | [], ws, h => by
    rw [RF] at h; subst h
    exact ⟨fun d e => (by cases e), fun _ => rfl⟩
  | (m, d') :: l, ws, h => by
    rw [RF] at h
    obtain ⟨v, r, rfl, h1, h2⟩ := h
    have ih := RF.get (n := n) h2
    rw [List.lookup_cons, List.lookup_cons]
    cases c : n == m with
    | true => exact ⟨fun d e => by cases e; exact ⟨v, rfl, h1⟩, fun e => (by cases e)⟩
    | false => exact ih
theorem RF.put {K : PySem.W.Frag} {H : Hp} {n : Str} {d : D} {v : V} (hd : RD K H d v) : ∀ {l : List (Str × D)} {ws : List (Str × V)}, RF K H l ws → RF K H (fput n d l) (putF n v ws)
  | [], ws, h => by
    rw [RF] at h; subst h
    show RF K H [(n, d)] [(n, v)]
    rw [RF]
    exact ⟨v, [], rfl, hd, by rw [RF]⟩
  | (m, d') :: l, ws, h => by
    rw [RF] at h
    obtain ⟨w, r, rfl, h1, h2⟩ := h
    show RF K H (if m = n then (m, d) :: l else (m, d') :: fput n d l) (if m = n then (m, v) :: r else (m, w) :: putF n v r)
    by_cases e : m = n
    · rw [if_pos e, if_pos e, RF]
      exact ⟨v, r, rfl, hd, h2⟩
    · rw [if_neg e, if_neg e, RF]
      exact ⟨w, _, rfl, h1, RF.put hd h2⟩
theorem RF.length {K : PySem.W.Frag} {H : Hp} : ∀ {l : List (Str × D)} {ws : List (Str × V)}, RF K H l ws → ws.length = l.length
  | [], ws, h => by rw [RF] at h; rw [h]; rfl
  | (m, d') :: l, ws, h => by
    rw [RF] at h
    obtain ⟨w, r, rfl, h1, h2⟩ := h
    rw [List.length_cons, List.length_cons, RF.length h2]
theorem Rel.ins {K : PySem.W.Frag} {S : Sto} {F H : Hp} {a : Addr} {C : Str} {fs : List (Str × D)} (r : Rel K S F H) (h : S a = some (.ins C fs)) : ∃ dx ws, H a = some (.ins (gAd K C) dx ws) ∧ RF K H fs ws := r.cell a _ h
theorem Rel.setIns {K : PySem.W.Frag} {S : Sto} {F H : Hp} {p dx : Addr} {C : Str} {fs gs : List (Str × D)} {ws us : List (Str × V)} (r : Rel K S F H) (h : S p = some (.ins C fs)) (hH : H p = some (.ins (gAd K C) dx ws)) (hm : RF K H gs us) :
    Ext H (L2.upd H p (.ins (gAd K C) dx us)) ∧ Rel K (S.upd p (.ins C gs)) F (L2.upd H p (.ins (gAd K C) dx us)) := by
  have x : Ext H (L2.upd H p (.ins (gAd K C) dx us)) := .write hH (fun _ z => nomatch z) fun _ _ z => nomatch z
  exact ⟨x, r.write h x ⟨dx, us, upd_same, hm.ext x⟩⟩
section
variable {X : Cx} {W : WX} {sc : Scope} {own : Str → Bool}
theorem le_fld (g : Gd T N Γ G X W sc own k) {f : Str} {w1 : WE1} {τ : L2.St} {H : Hp} {Q : VK} (h : LE X.K W (fun σ S Q X => w1 σ S (fun x S1 => fldR (fldC T f) f x S1 Q) X) τ H Q) : tFld X.K (LE X.K W w1) f τ H Q := by
  obtain ⟨σ, S, F, Qd, Xd, rel, rs, hw, kv, kx⟩ := h
  refine ⟨σ, S, F, _, Xd, rel, rs, hw, fun d S1 x H1 q1 e1 rel1 rd1 => ?_, kx⟩
  change fldR _ _ _ _ _ at q1
  unfold fldR at q1
  split at q1
  case h_1 a =>
    split at q1
    case h_1 C fs hS =>
      obtain ⟨hc, q1⟩ := q1
      split at q1
      case h_1 d hd =>
        obtain ⟨dx, ws, h1, h2⟩ := rel1.ins hS
        obtain ⟨c1, c2⟩ := g.lk.fld C f (fldC_mem hc)
        obtain ⟨v, h3, h4⟩ := (RF.get h2).1 d hd
        exact ⟨a, _, dx, ws, v, rd1.refi, h1, c1, c2, h3, kv _ _ _ _ q1 e1 rel1 h4⟩
      case h_2 => exact q1.elim
    case h_2 => exact q1.elim
  case h_2 => exact q1.elim
theorem call_own {A : Around} {E : Value → Shared → Prop} {s : Shared} {o : PySem.Expr} {name : Str} {apos pos : Pos} {args : List PySem.Expr} {env : Env} {Q : Value → Shared → Prop} {P : Program} {w : World}
    (hbase : attributeBase o name env (eval o env) = eval o env)
    (hfew : ((backTo pos (starEach args env)).all (fun x => !x.1) && (backToKw pos (keywordEach [] env)).all (fun x => x.1.isSome)
      && decide (args.length + ([] : List Keyword).length + (if ([] : List Keyword).isEmpty then 0 else 1) < 30)) = true)
    (hline : (apos.endLine == pos.line) = true)
    (h : wpAny (model P w) A (eval o env) (fun ov s₁ => wpAny (model P w) A (getMethod ov name (do return (← importBound o env).getD true)) (fun fx s₂ => wpAny (model P w) A (callWith pos fx.1 fx.2 (backTo pos (starEach args env)) (backToKw pos (keywordEach [] env))) Q E s₂) E s₁) E s) :
    wpAny (model P w) A (eval (.Call (.Attribute o name apos) args [] pos) env) Q E s := by
  rw [arm_eval_Call, hbase]
  refine wpAny_bind (wpAny_mono h (fun ov s₁ h₁ => ?_) fun _ _ e => e)
  refine wpAny_bind (wpAny_standAt ?_)
  have hform : methodCallForm (args.length + ([] : List Keyword).length) (backTo pos (starEach args env)) (backToKw pos (keywordEach [] env)) = true := hfew
  have hpos : methodCallPos true o env apos pos = pure pos := by unfold methodCallPos; simp [hline]
  unfold methodCall
  rw [hform]
  refine wpAny_bind (wpAny_holding (wpAny_mono h₁ (fun fx s₂ h₂ => ?_) fun _ _ e => e))
  exact wpAny_bind (wpAny_of_eq hpos h₂)
def tOm (X : Cx) (CX : CXT) (k : Nat) (m : Str) (E : L2.St → XK) (ta : TE) (t : TA) : TE := fun σ H Q => ta σ H fun x H1 => ∃ a C dx fs, x = .ref a ∧ H1 a = some (.ins C dx fs) ∧ Cls X.K C ∧ fs.lookup m = none ∧
  ∃ f fd ps sp, Meth X.K C m f ∧ FnOk X.prog X.w X.K X.mg X.base CX k f fd ps sp ∧ Binds X.K fd ps [] ∧ t σ H1 fun vs H2 => sp (x :: vs) H2 Q (E σ)
theorem pe_omth {CX : CXT} {m : Str} {o e : PySem.Expr} {es : List PySem.Expr} {apos pos : Pos} {ta : TE} {t : TA} {E : L2.St → XK} (hr : Room k X.A) (hx : ∀ σ, PassesAt CX X σ (E σ)) (he : PE X o ta) (ha : PA X (e :: es) t)
    (hbase : attributeBase o m X.env (eval o X.env) = eval o X.env)
    (hfew : ((backTo pos (starEach (e :: es) X.env)).all (fun x => !x.1) && (backToKw pos (keywordEach [] X.env)).all (fun x => x.1.isSome)
      && decide ((e :: es).length + ([] : List Keyword).length + (if ([] : List Keyword).isEmpty then 0 else 1) < 30)) = true)
    (hline : (apos.endLine == pos.line) = true) (hs : starEach (e :: es) X.env = (false, eval e X.env) :: starEach es X.env) (hpl : (backTo pos (starEach es X.env)).any (·.1) = false) :
    PE X (.Call (.Attribute o m apos) (e :: es) [] pos) (tOm X CX k m E ta t) := by
  refine ⟨fun pins s σ H Q I h => ?_⟩
  refine call_own hbase hfew hline (thn (he.run pins s σ H _ I h) fun u s1 ⟨x, H1, I1, rx, a, C, dx, fs, ex, ea, c, l, f, fd, ps, sp, hm, F, hb, q⟩ => ?_)
  subst ex
  obtain rfl : u = Value.ref a := rx
  refine getmeth_ok I1 ea c hm l ?_
  refine PySem.W.callWith_K (first := [.ref a]) (h₀ := X.base) I.ok.mod.kin hm.kp (thn (ha.run pos pins s1 σ H1 _ I1 q) fun us s2 ⟨vs, H2, I2, r, q2⟩ => ⟨I2.kIn, ?_⟩) hs hpl
  exact run_fnS (us := .ref a :: us) (vs := .ref a :: vs) F hr hb (hx σ) I2 (.cons rfl r) q2
theorem pe_omth0 {CX : CXT} {m : Str} {o : PySem.Expr} {apos pos : Pos} {ta : TE} {E : L2.St → XK} (hr : Room k X.A) (hx : ∀ σ, PassesAt CX X σ (E σ)) (he : PE X o ta)
    (hbase : attributeBase o m X.env (eval o X.env) = eval o X.env) (hline : (apos.endLine == pos.line) = true) :
    PE X (.Call (.Attribute o m apos) [] [] pos) (tOm X CX k m E ta tNil) := by
  refine ⟨fun pins s σ H Q I h => ?_⟩
  refine call_own hbase rfl hline (thn (he.run pins s σ H _ I h) fun u s1 ⟨x, H1, I1, rx, a, C, dx, fs, ex, ea, c, l, f, fd, ps, sp, hm, F, hb, q⟩ => ?_)
  subst ex
  obtain rfl : u = Value.ref a := rx
  refine getmeth_ok I1 ea c hm l ?_
  exact PySem.W.callWith_K0 (first := [.ref a]) I1.kIn hm.kp (run_fnS (us := [.ref a]) (vs := [.ref a]) F hr hb (hx σ) I1 (.cons rfl .nil) q)
theorem le_omth (g : Gd T N Γ G X W sc own k) {m : Str} {w1 : WE1} {w2 : En → Sto → (List D → Sto → Prop) → KX → Prop} {τ : L2.St} {H : Hp} {Q : VK}
    (h : LE X.K W (fun σ S Q Xx => w1 σ S (fun x S1 => mthO (mthC T m) m x S1 fun key => w2 σ S1 (fun ds S2 => Γ key (x :: ds) S2 Q Xx) Xx) Xx) τ H Q) :
    tOm X (CXM T.md X.prog X.w) k m (WE W) (LE X.K W w1) (LA X.K W w2) τ H Q := by
  obtain ⟨σ, S, F, Qd, Xd, rel, rs, hw, kv, kx⟩ := h
  refine ⟨σ, S, F, _, Xd, rel, rs, hw, fun d S1 x H1 q1 e1 rel1 rd1 => ?_, kx⟩
  change mthO _ _ _ _ _ at q1
  unfold mthO at q1
  split at q1
  case h_1 a =>
    split at q1
    case h_1 C fs hS =>
      obtain ⟨hl, q1⟩ := q1
      split at q1
      case h_1 key hk =>
        obtain ⟨dx, ws, h1, h2⟩ := rel1.ins hS
        obtain ⟨c1, f, fd, ps, m1, m2, m3⟩ := g.lk.mth C m key (mthC_mem hk)
        refine ⟨a, _, dx, ws, rd1.refi, h1, c1, (RF.get h2).2 hl, f, fd, ps, _, m1, m3, m2, ?_⟩
        exact ⟨σ, S1, F, _, Xd, rel1, rs.ext e1, q1, fun ds S2 vs H2 q2 e2 rel2 rd2 => ⟨_, S2, F, Qd, Xd, rel2, .cons (RD.ext e2 _ _ rd1) rd2, q2, kv.ext (e1.trans e2), kx.ext (e1.trans e2)⟩, kx.ext e1⟩
      case h_2 => exact q1.elim
    case h_2 => exact q1.elim
  case h_2 => exact q1.elim
theorem le_omth0 (g : Gd T N Γ G X W sc own k) {m : Str} {w1 : WE1} {τ : L2.St} {H : Hp} {Q : VK}
    (h : LE X.K W (fun σ S Q Xx => w1 σ S (fun x S1 => mthO (mthC T m) m x S1 fun key => Γ key [x] S1 Q Xx) Xx) τ H Q) :
    tOm X (CXM T.md X.prog X.w) k m (WE W) (LE X.K W w1) tNil τ H Q := by
  obtain ⟨σ, S, F, Qd, Xd, rel, rs, hw, kv, kx⟩ := h
  refine ⟨σ, S, F, _, Xd, rel, rs, hw, fun d S1 x H1 q1 e1 rel1 rd1 => ?_, kx⟩
  change mthO _ _ _ _ _ at q1
  unfold mthO at q1
  split at q1
  case h_1 a =>
    split at q1
    case h_1 C fs hS =>
      obtain ⟨hl, q1⟩ := q1
      split at q1
      case h_1 key hk =>
        obtain ⟨dx, ws, h1, h2⟩ := rel1.ins hS
        obtain ⟨c1, f, fd, ps, m1, m2, m3⟩ := g.lk.mth C m key (mthC_mem hk)
        refine ⟨a, _, dx, ws, rd1.refi, h1, c1, (RF.get h2).2 hl, f, fd, ps, _, m1, m3, m2, ?_⟩
        exact ⟨_, S1, F, Qd, Xd, rel1, .cons rd1 .nil, q1, kv.ext e1, kx.ext e1⟩
      case h_2 => exact q1.elim
    case h_2 => exact q1.elim
  case h_2 => exact q1.elim
abbrev E0 : XK := fun _ _ _ => False
theorem le_make {K : PySem.W.Frag} {C key : Str} {w : En → Sto → (List D → Sto → Prop) → KX → Prop} {τ : L2.St} {H : Hp} {Q : VK}
    (h : LE K W (fun σ S Q X => w σ S (fun ds S1 => ∀ p, S1 p = none → Γ key (.ref p :: ds) (S1.upd p (.ins C [])) (fun d S2 => d = .non ∧ Q (.ref p) S2) (fun _ _ => False)) X) τ H Q) :
    tMake (gAd K C) (LF K (Γ key)) [] E0 (LA K W w) τ H Q := by
  obtain ⟨σ, S, F, Qd, Xd, rel, rs, hw, kv, kx⟩ := h
  refine ⟨σ, S, F, _, Xd, rel, rs, hw, fun ds S1 vs H1 q1 e1 rel1 rd1 x dx hx hdx ne => ?_, kx⟩
  rw [List.append_nil]
  have e2 : Ext H1 (L2.upd H1 dx (.own x)) := .new hdx
  have hx2 : (L2.upd H1 dx (.own x)) x = none := by rw [upd_ne (fun e => ne e.symm)]; exact hx
  have e3 : Ext (L2.upd H1 dx (.own x)) (L2.upd (L2.upd H1 dx (.own x)) x (.ins (gAd K C) dx [])) := .new hx2
  refine ⟨.ref x :: ds, S1.upd x (.ins C []), F, _, _, (rel1.tup hdx).new hx2 ⟨dx, [], upd_same, by rw [RF]⟩, .cons .ref (RDs.ext (e2.trans e3) _ _ rd1), q1 x (rel1.free hx), fun d S2 v H2 ⟨q2, q3⟩ e4 rel2 rd2 => ?_, .no⟩
  subst q2
  exact ⟨rd2.noni, kv _ _ _ _ q3 (((e1.trans e2).trans e3).trans e4) rel2 .ref⟩
theorem la_nil0 {K : PySem.W.Frag} {τ : L2.St} {H : Hp} {Q : List V → Hp → Prop} (h : LA K W (fun _ S Q _ => Q [] S) τ H Q) : tNil τ H Q := la_nil h
theorem pass0 {md : Bool} {X : Cx} : Passes (CXM md X.prog X.w) X E0 := fun pins σ H s e s' I c => passM (W := fun _ _ _ _ => False) tk0 σ pins H s e s' I c
theorem aug_sound : ∀ p : Op, PIp X (opO p) (LO X.K (augR p)) := by
  intro p pins s σ H x y v u Q I rx ry ⟨d, e, S, F, Qd, rel, rd, re, hq, kv⟩
  cases p <;> cases d <;> cases e <;> first | exact (show False from hq).elim | skip
  case add.int.int i j => exact ip_add pins s σ H x y v u Q I rx ry ⟨i, j, rd.inti, re.inti, kv _ _ _ _ hq .refl rel .int⟩
  case sub.int.int i j => exact ip_sub pins s σ H x y v u Q I rx ry ⟨i, j, rd.inti, re.inti, kv _ _ _ _ hq .refl rel .int⟩
def LGi (K : PySem.W.Frag) : V → V → Hp → VK → Prop := fun x k H Q => ∃ d e S F Qd, Rel K S F H ∧ RD K H d x ∧ RD K H e k ∧ gixR d e S Qd ∧ ∀ z v, Qd z → RD K H z v → Q v H
theorem gix_sound : PGet X (LGi X.K) := by
  intro pins s σ H x y ov iv Q I rx ry ⟨d, e, S, F, Qd, rel, rd, re, hq, kv⟩
  unfold gixR at hq
  split at hq
  case h_2 => exact hq.elim
  case h_1 a =>
  have ex := rd.refi
  subst ex
  split at hq
  case h_2 => exact hq.elim
  case h_1 l hl =>
  split at hq
  case h_2 => exact hq.elim
  case h_1 i =>
  have ey := re.inti
  subst ey
  obtain ⟨h0, hq⟩ := hq
  split at hq
  case h_2 => exact hq.elim
  case h_1 z hz =>
  obtain ⟨vs, h1, h2⟩ := rel.lst hl
  obtain ⟨v, e1, r1⟩ := h2.get hz
  cases rx
  obtain ⟨t, rfl⟩ := ry
  obtain ⟨its, r, pl, hsz⟩ := I.list (.of h1)
  obtain ⟨w, ew, rw'⟩ := r.get e1
  have hn := line63
  have hlt : i.toNat < vs.length := (List.getElem?_eq_some_iff.mp e1).1
  refine wpAny_getItem_list (Q := fun r s' => EP X pins σ Q r s') pl.isList h0 (by omega) (by simpa using ew) ?_
  exact ⟨v, H, I, rw', kv _ _ hq r1⟩
end
end Mi
namespace Mi
open PySem PySem.Spec PyProof.Rows L2
variable {T : Tb} {N : List Str} {Γ : Str → FS} {G : Str → Option D} {k : Nat}
theorem le_comp {K : PySem.W.Frag} {W : WX} {w : En → Sto → (List D → Sto → Prop) → KX → Prop} {τ : L2.St} {H : Hp} {Q : VK} (h : LE K W (fun σ S Q X => w σ S (fun ds S2 => ∀ p, S2 p = none → Q (.ref p) (S2.upd p (.lst ds))) X) τ H Q) : LL K W w τ H Q := by
  obtain ⟨σ, S, F, Qd, Xd, rel, rs, hw, kv, kx⟩ := h
  exact ⟨σ, S, F, _, Xd, rel, rs, hw, fun ds S' a vs H' q e fa rel' rd => kv _ _ _ _ (q a (rel'.sep a _ upd_same)) e (rel'.show fa rd) .ref, kx⟩
theorem le_bll {K : PySem.W.Frag} {W : WX} {b : Bl} {w : En → Sto → (List D → Sto → Prop) → KX → Prop} {τ : L2.St} {H : Hp} {Q : VK} (h : LE K W (fun σ S Q X => w σ S (fun ds S2 => bllR b ds S2 Q) X) τ H Q) :
    tCB (fun vs H Q => ∃ a l ws S F Qd, vs = [.ref a] ∧ Rel K S F H ∧ H a = some (.lst ws) ∧ RDs K H l ws ∧ bllR b l S Qd ∧ KV K F H Qd Q) (tCons (LL K W w) tNil) τ H Q := by
  obtain ⟨σ, S, F, Qd, Xd, rel, rs, hw, kv, kx⟩ := h
  exact ⟨σ, S, F, _, Xd, rel, rs, hw, fun ds S' a vs H' q e fa rel' rd => ⟨a, ds, vs, S', F, Qd, rfl, rel'.lessF (upd_sub fa), rel'.frm a _ upd_same, rd, q, kv.ext e⟩, kx⟩
theorem le_slc {K : PySem.W.Frag} {W : WX} {w1 : WE1} {w2 w3 : En → Sto → (Option Int → Sto → Prop) → KX → Prop} {τ : L2.St} {H : Hp} {Q : VK} (h : LE K W (fun σ S Q X => w1 σ S (fun x S1 => w2 σ S1 (fun l S2 => w3 σ S2 (fun h S3 => slcR x l h S3 Q) X) X) X) τ H Q) :
    tSl (LSl K) (LE K W w1) (LOp K W w2) (LOp K W w3) τ H Q := by
  obtain ⟨σ, S, F, Qd, Xd, rel, rs, hw, kv, kx⟩ := h
  refine ⟨σ, S, F, _, Xd, rel, rs, hw, fun d S1 x H1 q1 e1 rel1 rd1 => ?_, kx⟩
  refine ⟨σ, S1, F, _, Xd, rel1, rs.ext e1, q1, fun o S2 H2 q2 e2 rel2 => ?_, kx.ext e1⟩
  refine ⟨σ, S2, F, _, Xd, rel2, rs.ext (e1.trans e2), q2, fun o3 S3 H3 q3 e3 rel3 => ?_, kx.ext (e1.trans e2)⟩
  exact ⟨d, S3, F, Qd, rel3, RD.ext (e2.trans e3) _ _ rd1, q3, kv.ext ((e1.trans e2).trans e3)⟩
theorem le_ite {K : PySem.W.Frag} {W : WX} {wt : En → Sto → (Bool → Sto → Prop) → KX → Prop} {w1 w2 : WE1} {τ : L2.St} {H : Hp} {Q : VK} (h : LE K W (fun σ S Q X => wt σ S (fun c S1 => if c = true then w1 σ S1 Q X else w2 σ S1 Q X) X) τ H Q) :
    tIf (LT K W wt) (LE K W w1) (LE K W w2) τ H Q := by
  obtain ⟨σ, S, F, Qd, Xd, rel, rs, hw, kv, kx⟩ := h
  refine ⟨σ, S, F, _, Xd, rel, rs, hw, fun c S1 H1 q1 e1 rel1 => ?_, kx⟩
  cases c with
  | true => exact ⟨σ, S1, F, Qd, Xd, rel1, rs.ext e1, q1, kv.ext e1, kx.ext e1⟩
  | false => exact ⟨σ, S1, F, Qd, Xd, rel1, rs.ext e1, q1, kv.ext e1, kx.ext e1⟩
theorem le_isi {K : PySem.W.Frag} {W : WX} {t : Ty} {w1 : WE1} {τ : L2.St} {H : Hp} {Q : VK} (h : LE K W (fun σ S Q X => w1 σ S (fun x S1 => (match [t].mapM (fun t => isT t x S1) with | some bs => Q (.bl (bs.any id)) S1 | none => False)) X) τ H Q) :
    tCB (rIsi K) (tCons (LE K W w1) (tCons (tC (.ty (tyS t))) tNil)) τ H Q := by
  obtain ⟨σ, S, F, Qd, Xd, rel, rs, hw, kv, kx⟩ := h
  refine ⟨σ, S, F, _, Xd, rel, rs, hw, fun d S1 x H1 q1 e1 rel1 rd1 => ?_, kx⟩
  cases hb : isT t d S1 with
  | none => simp [hb] at q1
  | some b =>
    simp [hb] at q1
    obtain ⟨ty, h1, h2⟩ := isT_ok rel1 rd1 hb
    exact ⟨x, .ty (tyS t), ty, .type (tyS t), b, rfl, .ty _, h1, h2, kv _ _ _ _ q1 e1 rel1 .bl⟩
theorem tyOf_ok {sc : Scope} {e : PySem.Expr} {t : Ty} (h : tyOf T sc e = some t) : ∃ x p, e = .Name x p ∧ glB sc x = true ∧ T.free.contains x = true ∧ bootBuiltins x = some (.type (tyS t)) := by
  unfold tyOf at h
  split at h
  case h_1 x p =>
    split at h
    case isTrue hh =>
      rw [Bool.and_eq_true] at hh
      refine ⟨x, p, rfl, hh.1, hh.2, ?_⟩
      rcases ite_some h with ⟨rfl, rfl⟩ | h; exact (by decide +kernel : bootBuiltins "int" = some (.type "int"))
      rcases ite_some h with ⟨rfl, rfl⟩ | h; exact (by decide +kernel : bootBuiltins "bool" = some (.type "bool"))
      rcases ite_some h with ⟨rfl, rfl⟩ | h; exact (by decide +kernel : bootBuiltins "str" = some (.type "str"))
      rcases ite_some h with ⟨rfl, rfl⟩ | h; exact (by decide +kernel : bootBuiltins "tuple" = some (.type "tuple"))
      rcases ite_some h with ⟨rfl, rfl⟩ | h; exact (by decide +kernel : bootBuiltins "list" = some (.type "list"))
      cases h
    case isFalse => cases h
  case h_2 => cases h
theorem LE.monoQ {K : PySem.W.Frag} {W : WX} {w : WE1} {τ : L2.St} {H : Hp} {Q Q' : VK} (h : LE K W w τ H Q) (i : ∀ x H', Q x H' → Q' x H') : LE K W w τ H Q' := by
  obtain ⟨σ, S, F, Qd, Xd, rel, rs, hw, kv, kx⟩ := h
  exact ⟨σ, S, F, Qd, Xd, rel, rs, hw, fun d S' v H' q e r rd => i _ _ (kv d S' v H' q e r rd), kx⟩
theorem boot_isi : bootBuiltins "isinstance" = some (.builtin "isinstance") := by decide +kernel
theorem pe_false {X : Cx} {W : WX} {e : PySem.Expr} {w : WE1} (h : ∀ σ S Q X, ¬ w σ S Q X) : PE X e (LE X.K W w) := ⟨fun _ _ _ _ _ _ ⟨σ, S, _, Qd, Xd, _, _, hw, _⟩ => absurd hw (h σ S Qd Xd)⟩
theorem pt_false {X : Cx} {W : WX} {e : PySem.Expr} {w : En → Sto → (Bool → Sto → Prop) → KX → Prop} (h : ∀ σ S Q X, ¬ w σ S Q X) : PT X e (LT X.K W w) := ⟨fun _ _ _ _ _ _ ⟨σ, S, _, Qd, Xd, _, _, hw, _⟩ => absurd hw (h σ S Qd Xd)⟩
theorem stepE {n : Nat} (hE' : SE T N Γ G k (n - 1)) (hE : SE T N Γ G k n) (hT : ST T N Γ G k n) (hB : SB T N Γ G k n) (hA : SA T N Γ G k n) (hO : SO T N Γ G k n) (hC : SC T N Γ G k n) (hD : SD T N Γ G k n) : SE T N Γ G k (n + 1) := by
  intro X W sc own g e c h
  unfold cE at h
  split at h
  case h_1 => contradiction
  case h_2 n' c0 kk pos hn =>
    cases hn
    simp only [Option.map_eq_some_iff] at h
    obtain ⟨d, h1, rfl⟩ := h
    unfold litOf at h1
    split at h1
    case h_1 i => cases h1; exact PE.imp pe_int fun τ H Q ⟨σ, S, F, Qd, Xd, rel, rs, hw, kv, kx⟩ => kv _ _ _ _ hw .refl rel .int
    case h_2 i => cases h1; exact PE.imp pe_bl fun τ H Q ⟨σ, S, F, Qd, Xd, rel, rs, hw, kv, kx⟩ => kv _ _ _ _ hw .refl rel .bl
    case h_3 => cases h1; exact PE.imp pe_non fun τ H Q ⟨σ, S, F, Qd, Xd, rel, rs, hw, kv, kx⟩ => kv _ _ _ _ hw .refl rel .non
    case h_4 s =>
      split at h1
      case isTrue hs => cases h1; exact PE.imp pe_str fun τ H Q ⟨σ, S, F, Qd, Xd, rel, rs, hw, kv, kx⟩ => kv _ _ _ _ hw .refl rel (.str hs)
      case isFalse => cases h1
    case h_5 => cases h1
  case h_3 x pos hn =>
    cases hn
    split at h
    case h_1 i hi =>
      cases h
      obtain ⟨h1, h2, h3⟩ := visIx_ok hi
      refine PE.imp (pe_var (i := i) (by rw [g.N_eq]; exact h1) (by rw [g.sc_eq]; exact h2) (okN_1 h3).1 (okN_1 h3).2.1) fun τ H Q ⟨σ, S, F, Qd, Xd, rel, rs, hw, kv, kx⟩ => ?_
      have hw : match σ[i]? with | some (some d) => Qd d S | _ => False := hw
      split at hw
      case h_1 d hd =>
        obtain ⟨v, e1, rd⟩ := rs.get i d hd
        exact ⟨v, e1, kv _ _ _ _ hw .refl rel rd⟩
      case h_2 => exact hw.elim
    case h_2 =>
      split at h
      case isTrue hh =>
        cases h
        rw [Bool.and_eq_true] at hh
        cases hG : G x with
        | none =>
          refine pe_false fun σ S Q X hw => ?_
          have hw : match G x with | some d => Q d S | none => False := hw
          rw [hG] at hw
          exact hw
        | some d =>
          obtain ⟨v, u, h1, h2, h3⟩ := g.lk.glob x d hh.2 hG
          refine PE.imp (pe_glob (g.gl hh.1) h1 h2 (okN_1 (glB_ok hh.1).2).1) fun τ H Q ⟨σ, S, F, Qd, Xd, rel, rs, hw, kv, kx⟩ => ?_
          have hw : match G x with | some d => Qd d S | none => False := hw
          rw [hG] at hw
          exact kv _ _ _ _ hw .refl rel (h3 H)
      case isFalse => cases h
  case h_4 a o b pos hn =>
    cases hn
    simp only [bind, Option.bind_eq_some_iff, pure, Option.some.injEq] at h
    obtain ⟨o', h1, a', h2, b', h3, rfl⟩ := h
    rw [opOf_opO h1]
    exact PE.imp (pe_op (op_sound o') (hE X W _ own g a a' h2) (hE X W _ own g b b' h3)) fun τ H Q q => le_op q
  case h_5 a pos hn =>
    cases hn
    simp only [Option.map_eq_some_iff] at h
    obtain ⟨a', h1, rfl⟩ := h
    refine PE.imp (pe_un un_neg (hE X W _ own g a a' h1)) fun τ H Q ⟨σ, S, F, Qd, Xd, rel, rs, hw, kv, kx⟩ => ?_
    refine ⟨σ, S, F, _, Xd, rel, rs, hw, fun d S1 x H1 q1 e1 rel1 rd1 => ?_, kx⟩
    cases d <;> first | exact (show False from q1).elim | skip
    exact ⟨_, rd1.inti, kv _ _ _ _ q1 e1 rel1 .int⟩
  case h_6 a pos hn =>
    cases hn
    simp only [Option.map_eq_some_iff] at h
    obtain ⟨a', h1, rfl⟩ := h
    refine ⟨fun pins s τ H Q I q => ?_⟩
    obtain ⟨σ, S, F, Qd, Xd, rel, rs, hw, kv, kx⟩ := q
    refine UnaryOp_ (thn ((hE X W _ own g a a' h1).run pins s τ H (fun x H' => ∃ k, TruV X.K x H' k ∧ Q (.bl (!k)) H') I ?_) fun v s1 ⟨x, H1, I1, r1, kk, tr, q1⟩ => ?_)
    · refine ⟨σ, S, F, _, Xd, rel, rs, hw, fun d S1 x H1 q1 e1 rel1 rd1 => ?_, kx⟩
      exact tru_conv (Q := fun b H' => Q (.bl (!b)) H') ⟨d, S1, F, _, rel1, rd1, q1, fun b qb => kv _ _ _ _ qb e1 rel1 .bl⟩
    · exact not_of (tru_ok pins s1 τ H1 x v (fun b H' => Q (.bl (!b)) H') I1 r1 ⟨kk, tr, q1⟩ |> fun z => thn z fun b s2 ⟨H2, I2, q2⟩ => ⟨.bl (!b), H2, I2, rfl, q2⟩)
  case h_7 op es pos hn =>
    cases hn
    exact (hB X W _ own g op es c pos h).1
  case h_8 a o b pos hn =>
    cases hn
    simp only [bind, Option.bind_eq_some_iff, pure, Option.some.injEq] at h
    obtain ⟨_, h0, a', h1, b', h2, rfl⟩ := h
    rw [gd_some, Bool.not_eq_true'] at h0
    exact PE.imp (pe_cmpR (cm_sound g.room o) (hE X W _ own g a a' h1) (hE X W _ own g b b' h2) h0) fun τ H Q q => le_cmp q
  case h_9 t a b pos hn =>
    cases hn
    simp only [bind, Option.bind_eq_some_iff, pure, Option.some.injEq] at h
    obtain ⟨t', h1, a', h2, b', h3, rfl⟩ := h
    exact PE.imp (pe_ifExp (hT X W _ own g t t' h1) (hE X W _ own g a a' h2) (hE X W _ own g b b' h3)) fun τ H Q q => le_ite q
  case h_10 es x1 pos hn =>
    cases hn
    simp only [Option.map_eq_some_iff] at h
    obtain ⟨es', h1, rfl⟩ := h
    refine PE.imp (pe_tupF (hA X W _ own g es es' h1)) fun τ H Q ⟨σ, S, F, Qd, Xd, rel, rs, hw, kv, kx⟩ => ?_
    refine ⟨σ, S, F, _, Xd, rel, rs, hw, fun ds S1 vs H1 ⟨hz, q1⟩ e1 rel1 rd1 => ?_, kx⟩
    exact ⟨by rw [rd1.length]; exact hz, fun p o hp ho => kv _ _ _ _ q1 (e1.trans (.new hp)) (rel1.tup hp) (.tupNew hp ho rd1)⟩
  case h_11 es pos hn =>
    cases hn
    simp only [Option.map_eq_some_iff] at h
    obtain ⟨es', h1, rfl⟩ := h
    refine PE.imp (pe_lst (hA X W _ own g es es' h1)) fun τ H Q ⟨σ, S, F, Qd, Xd, rel, rs, hw, kv, kx⟩ => ?_
    refine ⟨σ, S, F, _, Xd, rel, rs, hw, fun ds S1 vs H1 ⟨hz, q1⟩ e1 rel1 rd1 => ?_, kx⟩
    exact ⟨by rw [rd1.length]; exact hz, fun p hp => kv _ _ _ _ (q1 p (rel1.free hp)) (e1.trans (.new hp)) (rel1.newLst hp rd1) .ref⟩
  case h_12 pos hn =>
    cases hn
    cases h
    refine PE.imp pe_dnewK fun τ H Q ⟨σ, S, F, Qd, Xd, rel, rs, hw, kv, kx⟩ => fun p hp => ?_
    have hw : ∀ p, S p = none → Qd (.ref p) (S.upd p (.dct [])) := hw
    exact kv _ _ _ _ (hw p (rel.free hp)) (.new hp) (rel.new hp ⟨[], upd_same, by rw [RK]⟩) .ref
  case h_13 ks vs pos _ hn =>
    cases hn
    cases n with
    | zero => simp [cD] at h
    | succ n =>
    unfold cD at h
    split at h
    case h_1 => contradiction
    case h_2 a b hn _ =>
      cases hn
      simp only [bind, Option.bind_eq_some_iff, pure, Option.some.injEq] at h
      obtain ⟨a', h1, b', h2, rfl⟩ := h
      refine PE.imp (pe_disp (pps_cons (hE' X W _ own g a a' h1) (hE' X W _ own g b b' h2) pps_nil) rfl rfl (by simp) (Nat.le_of_ble_eq_true rfl)) fun τ H Q q => le_disp1 (LE.imp q fun σ S Q X hw => ?_)
      have hw : wE Γ G a' σ S (fun x S1 => wE Γ G b' σ S1 (fun y S2 => 1 = 1 ∧ 1 ≤ 15 ∧ ([x].all fun k => (keyD k).isSome) = true ∧ ∀ p, S2 p = none → Q (.ref p) (S2.upd p (.dct (dmerge [] [(x, y)])))) X) X := hw
      simpa [dmerge, dput] using hw
    case h_3 => cases h
  case h_14 a lo hi p2 pos hn =>
    cases hn
    simp only [bind, Option.bind_eq_some_iff, pure, Option.some.injEq] at h
    obtain ⟨a', h1, lo', h2, hi', h3, rfl⟩ := h
    exact PE.imp (pe_slice sl_sound (hE X W _ own g a a' h1) (hO X W _ own g lo lo' h2) (hO X W _ own g hi hi' h3)) fun τ H Q q => le_slc q
  case h_15 a i pos _ hn =>
    cases hn
    simp only [bind, Option.bind_eq_some_iff, pure, Option.some.injEq] at h
    obtain ⟨a', h1, i', h2, rfl⟩ := h
    exact PE.imp (pe_ix (ix_sound g.room) (hE X W _ own g a a' h1) (hE X W _ own g i i' h2) (plain_ix (cE_plain h2))) fun τ H Q q => le_op q
  case h_16 f p es pos hn =>
    cases hn
    split at h
    case isFalse => cases h
    case isTrue hg =>
    have hgl := g.gl hg
    have hok := (glB_ok hg).2
    split at h
    case isTrue hf =>
      simp only [Option.map_eq_some_iff] at h
      obtain ⟨es', h1, rfl⟩ := h
      obtain ⟨fa, fd, ps, m1, m2, m3, m4⟩ := g.lk.fns f hf
      have ha := hA X W _ own g es es' h1
      cases es with
      | nil =>
        cases n with
        | zero => simp [cEs] at h1
        | succ n =>
          simp only [cEs, Option.some.injEq] at h1
          subst h1
          refine PE.imp (pe_callS0 (E := WE W) m4 g.room hgl m1 m2 m3 (fun σ => passM g.tk σ) (okN_1 hok).1) fun τ H Q ⟨σ, S, F, Qd, Xd, rel, rs, hw, kv, kx⟩ => ?_
          exact ⟨[], S, F, Qd, Xd, rel, .nil, hw, kv, kx⟩
      | cons e es =>
        have h1' := h1
        cases n with
        | zero => simp [cEs] at h1
        | succ n =>
          simp only [cEs, bind, Option.bind_eq_some_iff, pure, Option.some.injEq] at h1
          obtain ⟨e', h2, es'', h3, h4⟩ := h1
          exact PE.imp (pe_callS (E := WE W) m4 g.room hgl m1 m2 m3 (fun σ => passM g.tk σ) ha (okN_1 hok).1 (plain_star (cE_plain h2) es X.env) (cEs_star h3)) fun τ H Q q => la_call q
    case isFalse =>
    split at h
    case isTrue hfree =>
      have hmg := g.lk.free f hfree
      split at h
      case isTrue hisi =>
        subst hisi
        split at h
        case h_1 a t =>
          simp only [bind, Option.bind_eq_some_iff, pure, Option.some.injEq] at h
          obtain ⟨a', h1, t', h2, rfl⟩ := h
          obtain ⟨x, px, rfl, b1, b2, b3⟩ := tyOf_ok h2
          have ok2 := okN_1 (glB_ok b1).2
          have pb := pe_bltn (pos := px) (v := .ty (tyS t')) (g.gl b1) (g.lk.free x b2) b3 rfl ok2.2.2 ok2.1
          have s2 : starEach [PySem.Expr.Name x px] X.env = (false, eval (.Name x px) X.env) :: starEach [] X.env := rfl
          refine PE.imp (pe_callB call_isi hgl hmg boot_isi (pa_cons (hE X W _ own g a a' h1) (pa_cons pb pa_nil s2) (plain_star (cE_plain h1) _ X.env)) (okN_1 hok).2.2 (okN_1 hok).1 (plain_star (cE_plain h1) _ X.env) rfl) fun τ H Q q => le_isi q
        case h_2 => cases h
      case isFalse =>
      split at h
      case h_1 => cases h
      case h_2 b hb =>
      split at h
      case h_1 e tg it ifs scope p2 =>
        obtain ⟨e', tg', it', c', vs, rfl, hp, _⟩ := hC X W _ own g _ _ _ _ _ _ _ h
        have s2 : starEach [PySem.Expr.ListComp e [⟨tg, it, ifs, 0⟩] scope p2] X.env = (false, eval (.ListComp e [⟨tg, it, ifs, 0⟩] scope p2) X.env) :: starEach [] X.env := rfl
        exact PE.imp (pe_blt hb (bll_sound g.calm b) hgl hmg (pa_cons (hp p2) pa_nil s2) hok s2 rfl) fun τ H Q q => le_bll (w := wL Γ G e' tg' it' c' vs) q
      case h_2 e es _ =>
        simp only [Option.map_eq_some_iff] at h
        obtain ⟨es', h1, rfl⟩ := h
        have ha := hA X W _ own g _ _ h1
        cases n with
        | zero => simp [cEs] at h1
        | succ n =>
          simp only [cEs, bind, Option.bind_eq_some_iff, pure, Option.some.injEq] at h1
          obtain ⟨e', h2, es'', h3, h4⟩ := h1
          exact PE.imp (pe_blt hb (blt_sound g.calm g.room b) hgl hmg ha hok (plain_star (cE_plain h2) es X.env) (cEs_star h3)) fun τ H Q q => la_args q
      case h_3 => cases h
    case isFalse =>
    split at h
    case isTrue hgcd =>
      split at h
      case h_1 m a b hm =>
        have hkind : ∃ id, blV m = .builtin id := by
          unfold mfOf at hm
          rcases ite_some hm with ⟨_, rfl⟩ | hm
          · exact ⟨_, rfl⟩
          rcases ite_some hm with ⟨_, rfl⟩ | hm
          · exact ⟨_, rfl⟩
          cases hm
        obtain ⟨id, hid⟩ := hkind
        have hmf := g.lk.mfn _ _ hgcd hm
        have hbs := blt_sound g.calm g.room m
        rw [hid] at hmf hbs
        simp only [bind, Option.bind_eq_some_iff, pure, Option.some.injEq] at h
        obtain ⟨a', h1, b', h2, rfl⟩ := h
        have pb := plain_star (cE_plain h2) [] X.env
        have pl := plain_star (cE_plain h1) [b] X.env
        refine PE.imp (pe_callBfun hbs hgl hmf (PA.imp (pa_cons (hE X W _ own g a a' h1) (pa_cons (hE X W _ own g b b' h2) pa_nil pb) pl) (t' := LA X.K W (wEs Γ G (.cons a' (.cons b' .nil)))) fun τ H Q q => ?_) (okN_1 hok).1 pl (by rw [pb]; rfl)) fun τ H Q q => la_args q
        exact LE.monoQ (la_cons (w := wEs Γ G (.cons b' .nil)) q) fun x H1 q1 => LE.monoQ (la_cons (w := wEs Γ G .nil) q1) fun y H2 q2 => la_nil q2
      case h_2 => cases h
    case isFalse =>
    split at h
    case h_2 => cases h
    case h_1 key hkey =>
      simp only [Option.map_eq_some_iff] at h
      obtain ⟨es', h1, rfl⟩ := h
      obtain ⟨mk1, fI, fd, ps, mk2, mk3, mk4⟩ := g.lk.mks f key (mks_mem hkey)
      have ha := hA X W _ own g es es' h1
      cases es with
      | nil =>
        cases n with
        | zero => simp [cEs] at h1
        | succ n =>
          simp only [cEs, Option.some.injEq] at h1
          subst h1
          refine PE.imp (pe_make0 (E := E0) mk2 mk4 g.room1 hgl mk1 mk3 .nil pass0 (okN_1 hok).1) fun τ H Q q => ?_
          have q := le_make (w := wEs Γ G .nil) q
          exact la_nil q
      | cons e es =>
        have h1' := h1
        cases n with
        | zero => simp [cEs] at h1
        | succ n =>
          simp only [cEs, bind, Option.bind_eq_some_iff, pure, Option.some.injEq] at h1
          obtain ⟨e', h2, es'', h3, h4⟩ := h1
          exact PE.imp (pe_make (E := E0) mk2 mk4 g.room1 hgl mk1 mk3 .nil pass0 ha (okN_1 hok).1 (plain_star (cE_plain h2) es X.env) (cEs_star h3)) fun τ H Q q => le_make q
  case h_17 o m apos es pos hn =>
    cases hn
    simp only [bind, Option.bind_eq_some_iff, pure] at h
    obtain ⟨_, h0, _, h2, _, h3, o', h4, es', h5, h⟩ := h
    rw [gd_some] at h0 h2 h3
    rw [decide_eq_true_eq] at h3
    have ha := hA X W _ own g es es' h5
    have ho := hE X W _ own g o o' h4
    split at h
    case h_2 c0 cs0 hcs =>
      cases h
      rw [← hcs]
      cases es with
      | nil =>
        cases n with
        | zero => simp [cEs] at h5
        | succ n =>
          simp only [cEs, Option.some.injEq] at h5
          subst h5
          exact PE.imp (pe_omth0 g.room (fun σ => passM g.tk σ) ho (base_ok h2) h0) fun τ H Q q => le_omth0 g q
      | cons e es =>
        have h5' := h5
        cases n with
        | zero => simp [cEs] at h5
        | succ n =>
          simp only [cEs, bind, Option.bind_eq_some_iff, pure, Option.some.injEq] at h5
          obtain ⟨e', h6, es'', h7, h8⟩ := h5
          exact PE.imp (pe_omth g.room (fun σ => passM g.tk σ) ho ha (base_ok h2) (cEs_few h5' h3) h0 (plain_star (cE_plain h6) es X.env) (cEs_star h7)) fun τ H Q q => le_omth g q
    case h_1 hcs =>
    simp only [Option.map_eq_some_iff] at h
    obtain ⟨m', h1, rfl⟩ := h
    cases es with
    | nil =>
      cases n with
      | zero => simp [cEs] at h5
      | succ n =>
        simp only [cEs, Option.some.injEq] at h5
        subst h5
        exact PE.imp (pe_mth0 g h1 ho (base_ok h2) h0) fun τ H Q q => le_mth0 q
    | cons e es =>
      have h5' := h5
      cases n with
      | zero => simp [cEs] at h5
      | succ n =>
        simp only [cEs, bind, Option.bind_eq_some_iff, pure, Option.some.injEq] at h5
        obtain ⟨e', h6, es'', h7, h8⟩ := h5
        exact PE.imp (pe_mth g h1 ho ha (base_ok h2) (cEs_few h5' h3) h0 (plain_star (cE_plain h6) es X.env) (cEs_star h7)) fun τ H Q q => le_mth q
  case h_18 e tg it ifs scope p hn =>
    cases hn
    obtain ⟨e', tg', it', c', vs, rfl, hp, _⟩ := hC X W _ own g _ _ _ _ _ _ _ h
    exact PE.imp (hp p) fun τ H Q q => le_comp (w := wL Γ G e' tg' it' c' vs) q
  case h_19 o f pos hn =>
    cases hn
    simp only [bind, Option.bind_eq_some_iff, pure, Option.some.injEq] at h
    obtain ⟨_, h0, o', h1, rfl⟩ := h
    rw [gd_some] at h0
    exact PE.imp (pe_fld (hE X W _ own g o o' h1) (base_ok h0)) fun τ H Q q => le_fld g q
  case h_20 ke ve tg it ifs scope p hn =>
    cases hn
    obtain ⟨ke', ve', tg', it', c', vs, rfl, hp, _⟩ := hD X W _ own g _ _ _ _ _ _ _ h
    exact PE.imp (hp p) fun τ H Q q => le_dcomp (w := wD Γ G ke' ve' tg' it' c' vs) q
  case h_21 => cases h
end Mi
namespace Mi
open PySem PySem.Spec PyProof.Rows L2
variable {T : Tb} {N : List Str} {Γ : Str → FS} {G : Str → Option D} {k : Nat}
def isTru : E → Bool
  | .lit _ => true | .var _ => true | .glob _ => true | .ix _ _ => true | .call _ _ => true | .blt _ _ => true | .mth _ _ _ => true | .isi _ _ => true | .omth _ _ _ _ => true | .comp (some _) _ _ _ _ _ => true
  | _ => false
theorem wT_tru : ∀ {c : E} {σ : En} {S : Sto} {Q : Bool → Sto → Prop} {X : KX}, isTru c = true → wT Γ G c σ S Q X → wE Γ G c σ S (fun d S' => truR d S' fun b => Q b S') X := by
  intro c σ S Q X h w
  cases c <;> first | (cases h; done) | skip
  case lit d => exact w
  case var i => exact w
  case glob x => exact w
  case ix a i => exact w
  case call f es => exact w
  case blt b es => exact w
  case mth m o es => exact w
  case omth o m es cs => exact w
  case comp b e tg it cc vs =>
    cases b with
    | none => cases h
    | some b => exact w
  case isi a ts =>
    have w : wE Γ G a σ S (fun x S1 => (match ts.mapM (fun t => isT t x S1) with | some bs => Q (bs.any id) S1 | none => False)) X := w
    exact w
theorem pt_tru {X : Cx} {W : WX} {e : PySem.Expr} {c : E} (he : PE X e (LE X.K W (wE Γ G c))) (ht : ∀ whole, isTrue e X.env whole = (do let v ← whole; standAt e.pos; holding [v] (truthy v))) (hc : isTru c = true ∨ ∀ σ S Q X, ¬ wT Γ G c σ S Q X) : PT X e (LT X.K W (wT Γ G c)) := by
  rcases hc with hc | hc
  · exact PT.imp (pt_truth he ht) fun τ H Q q => lt_tru (LT.imp q fun σ S Q X w => wT_tru hc w)
  · exact pt_false hc
theorem stepT {n : Nat} (hE1 : SE T N Γ G k (n + 1)) (hE : SE T N Γ G k n) (hT : ST T N Γ G k n) (hB : SB T N Γ G k n) : ST T N Γ G k (n + 1) := by
  intro X W sc own g e c h
  have he := hE1 X W sc own g e c h
  unfold cE at h
  split at h
  case h_1 => contradiction
  case h_2 n' c0 kk pos hn =>
    simp only [Option.map_eq_some_iff] at h
    obtain ⟨d, h1, rfl⟩ := h
    exact pt_tru he (fun _ => rfl) (.inl rfl)
  case h_3 x pos hn =>
    refine pt_tru he (fun _ => rfl) (.inl ?_)
    split at h
    case h_1 => cases h; rfl
    case h_2 => split at h; (cases h; rfl); cases h
  case h_4 a o b pos hn =>
    simp only [bind, Option.bind_eq_some_iff, pure, Option.some.injEq] at h
    obtain ⟨o', h1, a', h2, b', h3, rfl⟩ := h
    exact pt_false fun σ S Q X w => w
  case h_5 a pos hn =>
    simp only [Option.map_eq_some_iff] at h
    obtain ⟨a', h1, rfl⟩ := h
    exact pt_false fun σ S Q X w => w
  case h_6 a pos hn =>
    cases hn
    simp only [Option.map_eq_some_iff] at h
    obtain ⟨a', h1, rfl⟩ := h
    exact PT.imp (pt_not (hT X W _ own g a a' h1)) fun τ H Q ⟨σ, S, F, Qd, Xd, rel, rs, hw, kv, kx⟩ => ⟨σ, S, F, fun b S1 => Qd (!b) S1, Xd, rel, rs, hw, fun b S' H' q e r => kv _ _ _ q e r, kx⟩
  case h_7 op es pos hn =>
    cases hn
    exact (hB X W _ own g op es c pos h).2.pt
  case h_8 a o b pos hn =>
    cases hn
    simp only [bind, Option.bind_eq_some_iff, pure, Option.some.injEq] at h
    obtain ⟨_, h0, a', h1, b', h2, rfl⟩ := h
    rw [gd_some, Bool.not_eq_true'] at h0
    exact PT.imp (pt_cmpR (cm_sound g.room o) (hE X W _ own g a a' h1) (hE X W _ own g b b' h2) h0) fun τ H Q q => lt_cmp q
  case h_9 t a b pos hn =>
    simp only [bind, Option.bind_eq_some_iff, pure, Option.some.injEq] at h
    obtain ⟨t', h1, a', h2, b', h3, rfl⟩ := h
    exact pt_false fun σ S Q X w => w
  case h_10 es x1 pos hn =>
    simp only [Option.map_eq_some_iff] at h
    obtain ⟨es', h1, rfl⟩ := h
    exact pt_false fun σ S Q X w => w
  case h_11 es pos hn =>
    simp only [Option.map_eq_some_iff] at h
    obtain ⟨es', h1, rfl⟩ := h
    exact pt_false fun σ S Q X w => w
  case h_12 pos hn =>
    cases h
    exact pt_false fun σ S Q X w => w
  case h_13 ks vs pos _ hn =>
    cases hn
    cases n with
    | zero => simp [cD] at h
    | succ n =>
    unfold cD at h
    split at h
    case h_1 => contradiction
    case h_2 a b hn _ =>
      simp only [bind, Option.bind_eq_some_iff, pure, Option.some.injEq] at h
      obtain ⟨a', h1, b', h2, rfl⟩ := h
      exact pt_false fun σ S Q X w => w
    case h_3 => cases h
  case h_14 a lo hi p2 pos hn =>
    simp only [bind, Option.bind_eq_some_iff, pure, Option.some.injEq] at h
    obtain ⟨a', h1, lo', h2, hi', h3, rfl⟩ := h
    exact pt_false fun σ S Q X w => w
  case h_15 a i pos _ hn =>
    simp only [bind, Option.bind_eq_some_iff, pure, Option.some.injEq] at h
    obtain ⟨a', h1, i', h2, rfl⟩ := h
    exact pt_tru he (fun _ => rfl) (.inl rfl)
  case h_16 f p es pos hn =>
    cases hn
    refine pt_tru he (fun _ => rfl) ?_
    split at h
    case isFalse => cases h
    case isTrue hg =>
    split at h
    case isTrue hf =>
      simp only [Option.map_eq_some_iff] at h
      obtain ⟨es', h1, rfl⟩ := h
      exact .inl rfl
    case isFalse =>
    split at h
    case isTrue hfree =>
      split at h
      case isTrue hisi =>
        split at h
        case h_1 a t =>
          simp only [bind, Option.bind_eq_some_iff, pure, Option.some.injEq] at h
          obtain ⟨a', h1, t', h2, rfl⟩ := h
          exact .inl rfl
        case h_2 => cases h
      case isFalse =>
      split at h
      case h_1 => cases h
      case h_2 b hb =>
      split at h
      case h_1 e tg it ifs scope p2 =>
        cases n with
        | zero => simp [cC] at h
        | succ n =>
          simp only [cC, bind, Option.bind_eq_some_iff, pure, Option.some.injEq] at h
          obtain ⟨_, h1, it', h2, _, h7, tg', h3, _, h4, e', h5, c', h6, rfl⟩ := h
          exact .inl rfl
      case h_2 e es _ =>
        simp only [Option.map_eq_some_iff] at h
        obtain ⟨es', h1, rfl⟩ := h
        exact .inl rfl
      case h_3 => cases h
    case isFalse =>
    split at h
    case isTrue hgcd =>
      split at h
      case h_1 m a b hm =>
        simp only [bind, Option.bind_eq_some_iff, pure, Option.some.injEq] at h
        obtain ⟨a', h1, b', h2, rfl⟩ := h
        exact .inl rfl
      case h_2 => cases h
    case isFalse =>
    split at h
    case h_2 => cases h
    case h_1 key hkey =>
      simp only [Option.map_eq_some_iff] at h
      obtain ⟨es', h1, rfl⟩ := h
      exact .inr fun σ S Q X w => w
  case h_17 o m apos es pos hn =>
    refine pt_tru he (fun _ => rfl) ?_
    simp only [bind, Option.bind_eq_some_iff, pure] at h
    obtain ⟨_, h0, _, h2, _, h3, o', h4, es', h5, h⟩ := h
    split at h
    case h_2 c0 cs0 hcs =>
      cases h
      exact .inl rfl
    case h_1 =>
    simp only [Option.map_eq_some_iff] at h
    obtain ⟨m', h1, rfl⟩ := h
    exact .inl rfl
  case h_18 e tg it ifs scope p hn =>
    cases hn
    cases n with
    | zero => simp [cC] at h
    | succ n =>
      simp only [cC, bind, Option.bind_eq_some_iff, pure, Option.some.injEq] at h
      obtain ⟨_, h1, it', h2, _, h7, tg', h3, _, h4, e', h5, c', h6, rfl⟩ := h
      exact pt_false fun σ S Q X w => w
  case h_19 o f pos hn =>
    simp only [bind, Option.bind_eq_some_iff, pure, Option.some.injEq] at h
    obtain ⟨_, h0, o', h1, rfl⟩ := h
    exact pt_false fun σ S Q X w => w
  case h_20 ke ve tg it ifs scope p hn =>
    cases hn
    cases n with
    | zero => simp [cDc] at h
    | succ n =>
      simp only [cDc, bind, Option.bind_eq_some_iff, pure, Option.some.injEq] at h
      obtain ⟨_, h1, it', h2, _, h7, tg', h3, _, h4, ke', h5, ve', h8, c', h6, rfl⟩ := h
      exact pt_false fun σ S Q X w => w
  case h_21 => cases h
structure All (T : Tb) (N : List Str) (Γ : Str → FS) (G : Str → Option D) (k n : Nat) : Prop where
  e : SE T N Γ G k n
  t : ST T N Γ G k n
  b : SB T N Γ G k n
  a : SA T N Γ G k n
  o : SO T N Γ G k n
  i : SI T N Γ G k n
  c : SC T N Γ G k n
  d : SD T N Γ G k n
theorem all0 : All T N Γ G k 0 where
  e := fun X W sc own g e c h => by simp [cE] at h
  t := fun X W sc own g e c h => by simp [cE] at h
  b := fun X W sc own g op es c pos h => by simp [cB] at h
  a := fun X W sc own g es cs h => by simp [cEs] at h
  o := fun X W sc own g e c h => by simp [cO] at h
  i := fun X W sc own g tg e c h => by simp [cI] at h
  c := fun X W sc own g b e tg it ifs scope c h => by simp [cC] at h
  d := fun X W sc own g ke ve tg it ifs scope c h => by simp [cDc] at h
theorem all2 : ∀ n, All T N Γ G k n ∧ All T N Γ G k (n - 1)
  | 0 => ⟨all0, all0⟩
  | n + 1 => by
    obtain ⟨h, h'⟩ := all2 n
    have he := stepE h'.e h.e h.t h.b h.a h.o h.c h.d
    exact ⟨⟨he, stepT he h.e h.t h.b, stepB h.e h.t h.b, stepA h.e h.a, stepO h.e, stepI h.e, stepC h.e h.t h.i, stepD h.e h.t h.i⟩, h⟩
theorem all (n : Nat) : All T N Γ G k n := (all2 n).1
end Mi
namespace Mi
open PySem PySem.Spec PyProof.Rows L2
variable {T : Tb} {N : List Str} {Γ : Str → FS} {G : Str → Option D} {k : Nat}
theorem Lk.kxs {K : PySem.W.Frag} {W : WX} {F H : Hp} {N : De} {D : Ends} {σ : En} {τ : L2.St} (lk : Lk K W F H N D) (rs : RS K H σ τ) : KXs K F H (fun x S1 => N.xr x σ S1) (WE W τ) :=
  fun x S' c dx H' q e r rx => lk.xr x σ S' τ c dx H' q e r (rs.ext e) rx
theorem Lk.next {K : PySem.W.Frag} {W : WX} {F H : Hp} {N : De} {D : Ends} {nx : En → Sto → Prop} {nx' : L2.St → Hp → Prop} (lk : Lk K W F H N D) (h : ∀ σ S τ H', nx σ S → Ext H H' → Rel K S F H' → RS K H' σ τ → nx' τ H') :
    Lk K W F H { N with nx := nx } { D with nx := nx' } := ⟨h, lk.rt, lk.bk, lk.ct, lk.xr⟩
theorem Lk.loop {K : PySem.W.Frag} {W : WX} {F H : Hp} {N : De} {D : Ends} {nx : En → Sto → Prop} {nx' : L2.St → Hp → Prop} (lk : Lk K W F H N D) (h : ∀ σ S τ H', nx σ S → Ext H H' → Rel K S F H' → RS K H' σ τ → nx' τ H') :
    Lk K W F H { N with nx := nx, ct := nx, bk := N.nx } { D with nx := nx', ct := nx', bk := D.nx } := ⟨h, lk.rt, lk.nx, h, lk.xr⟩
theorem while_conv {K : PySem.W.Frag} {W : WX} {t : En → Sto → (Bool → Sto → Prop) → KX → Prop} {b : De → En → Sto → Prop} {D : Ends} {τ : L2.St} {H : Hp}
    (h : LS K W (fun N σ S => ∃ n, whlL (fun σ' S' Q => t σ' S' Q fun x S1 => N.xr x σ' S1) b n N σ S) D τ H) : tWhile (LT K W t) (LS K W b) D τ H := by
  obtain ⟨σ, S, F, N, rel, rs, ⟨n, hw⟩, lk⟩ := h
  refine ⟨fun m τ' H' => ∃ σ' S', Ext H H' ∧ Rel K S' F H' ∧ RS K H' σ' τ' ∧ whlL (fun σ' S' Q => t σ' S' Q fun x S1 => N.xr x σ' S1) b m N σ' S', ⟨n, σ, S, .refl, rel, rs, hw⟩, ?_⟩
  rintro m τ1 H1 ⟨σ1, S1, e1, rel1, rs1, w1⟩
  cases m with
  | zero => exact (show False from w1).elim
  | succ m =>
    have w1 : t σ1 S1 (fun c S' => if c = true then b { N with nx := whlL (fun σ' S' Q => t σ' S' Q fun x S1 => N.xr x σ' S1) b m N, ct := whlL (fun σ' S' Q => t σ' S' Q fun x S1 => N.xr x σ' S1) b m N, bk := N.nx } σ1 S' else N.nx σ1 S') (fun x S2 => N.xr x σ1 S2) := w1
    refine ⟨σ1, S1, F, _, _, rel1, rs1, w1, fun c S2 H2 q2 e2 rel2 => ?_, (lk.ext e1).kxs rs1⟩
    cases c with
    | false => exact lk.nx _ _ _ _ q2 (e1.trans e2) rel2 (rs1.ext e2)
    | true =>
      refine ⟨fun τ' H' => ∃ m', m' < m + 1 ∧ ∃ σ' S', Ext H H' ∧ Rel K S' F H' ∧ RS K H' σ' τ' ∧ whlL (fun σ' S' Q => t σ' S' Q fun x S1 => N.xr x σ' S1) b m' N σ' S', fun τ' H' z => z, ?_⟩
      exact ⟨σ1, S2, F, _, rel2, rs1.ext e2, q2, (lk.ext (e1.trans e2)).loop fun σ' S' τ' H' q' e' r' rs' => ⟨m, Nat.lt_succ_self m, σ', S', (e1.trans e2).trans e', r', rs', q'⟩⟩
theorem for_conv {K : PySem.W.Frag} {W : WX} {wk : Bool} {wi : En → Sto → KI → KX → Prop} {tg : Tg} {b : De → En → Sto → Prop} {D : Ends} {τ : L2.St} {H : Hp}
    (h : LS K W (fun N σ S => wi σ S (fun l chk S1 => forL tg b chk l N σ S1) fun x S1 => N.xr x σ S1) D τ H) : tFor (LI K wk W wi) (LG K wk (tgSlots tg) (wG tg)) (LS K W b) D τ H := by
  obtain ⟨σ, S, F, N, rel, rs, hw, lk⟩ := h
  refine ⟨σ, S, F, _, _, rel, rs, hw, fun l chk S1 J H1 q e1 rel1 wk' => ?_, lk.kxs rs⟩
  refine ⟨fun i m τ' H' => i ≤ l.length ∧ m = l.length - i ∧ ∃ σ' S', Ext H1 H' ∧ Rel K S' F H' ∧ RS K H' σ' τ' ∧ forL tg b chk (l.drop i) N σ' S', ⟨l.length - 0, Nat.zero_le _, rfl, σ, S1, .refl, rel1, rs.ext e1, q⟩, ?_⟩
  rintro i m τ2 H2 ⟨hi, rfl, σ2, S2, e2, rel2, rs2, w2⟩
  by_cases hl : i < l.length
  · refine .inr ?_
    have hd : l[i]? = some l[i] := by simp [hl]
    rw [List.drop_eq_getElem_cons hl] at w2
    obtain ⟨hchk, w2⟩ : chk S2 ∧ wG tg l[i] σ2 fun σ' => b { N with nx := forL tg b chk (l.drop (i + 1)) N, ct := forL tg b chk (l.drop (i + 1)) N, bk := N.nx } σ' S2 := w2
    obtain ⟨go, yl⟩ := wk'.go F i _ S2 H2 hd rel2 hchk e2
    refine ⟨go, fun τ' H' => ∃ m', m' < l.length - i ∧ (i + 1 ≤ l.length ∧ m' = l.length - (i + 1) ∧ ∃ σ' S', Ext H1 H' ∧ Rel K S' F H' ∧ RS K H' σ' τ' ∧ forL tg b chk (l.drop (i + 1)) N σ' S'), fun τ' H' z => z, fun x H3 y => ?_⟩
    obtain ⟨x3, rel3, rx⟩ := yl x H3 y
    refine ⟨l[i], σ2, _, rx, rs2.ext x3, w2, fun σ4 τ4 q4 rs4 off => ?_⟩
    exact ⟨σ4, S2, F, _, rel3, rs4, q4, (lk.ext ((e1.trans e2).trans x3)).loop fun σ' S' τ' H' q' e' r' rs' => ⟨l.length - (i + 1), by omega, hl, rfl, σ', S', (e2.trans x3).trans e', r', rs', q'⟩⟩
  · have e : i = l.length := by omega
    subst e
    rw [List.drop_length] at w2
    obtain ⟨hchk, w2⟩ : chk S2 ∧ N.nx σ2 S2 := w2
    exact .inl ⟨wk'.stop F S2 H2 rel2 hchk e2, lk.nx _ _ _ _ w2 (e1.trans e2) rel2 rs2⟩
def SS (T : Tb) (N : List Str) (Γ : Str → FS) (G : Str → Option D) (k n : Nat) : Prop := ∀ (X : Cx) (W : WX) (sc : Scope), Gd T N Γ G X W sc (fun _ => true) k → Stk X → ∀ (s : PySem.Stmt) (c : S), cS T N n sc s = some c → (PoA X ∨ nrS c = true) → PS X s (LS X.K W (wS Γ G c))
def SSs (T : Tb) (N : List Str) (Γ : Str → FS) (G : Str → Option D) (k n : Nat) : Prop := ∀ (X : Cx) (W : WX) (sc : Scope), Gd T N Γ G X W sc (fun _ => true) k → Stk X → ∀ (s : List PySem.Stmt) (c : Ss), cSs T N n sc s = some c → (PoA X ∨ nrSs c = true) → PSs X s (LS X.K W (wSs Γ G c))
theorem stepSs {n : Nat} (hS : SS T N Γ G k n) (hSs : SSs T N Γ G k n) : SSs T N Γ G k (n + 1) := by
  intro X W sc g st ss c h po
  cases ss with
  | nil =>
    simp only [cSs, Option.some.injEq] at h
    subst h
    exact PSs.imp pss_nil fun D τ H ⟨σ, S, F, N, rel, rs, hw, lk⟩ => lk.nx _ _ _ _ hw .refl rel rs
  | cons s ss =>
    simp only [cSs, bind, Option.bind_eq_some_iff, pure, Option.some.injEq] at h
    obtain ⟨s', h1, ss', h2, rfl⟩ := h
    have po1 : PoA X ∨ nrS s' = true := po.imp id fun z => (Bool.and_eq_true _ _ ▸ (show (nrS s' && nrSs ss') = true from z)).1
    have po2 : PoA X ∨ nrSs ss' = true := po.imp id fun z => (Bool.and_eq_true _ _ ▸ (show (nrS s' && nrSs ss') = true from z)).2
    refine PSs.imp (pss_cons (hS X W sc g st s s' h1 po1) (hSs X W sc g st ss ss' h2 po2)) fun D τ H ⟨σ, S, F, N, rel, rs, hw, lk⟩ => ?_
    exact ⟨σ, S, F, _, rel, rs, hw, lk.next fun σ' S' τ' H' q e r rs' => ⟨σ', S', F, N, r, rs', q, lk.ext e⟩⟩
def noLC : PySem.Expr → Bool
  | .ListComp .. => false | .DictComp .. => false
  | _ => true
def noCp : PySem.Expr → Bool
  | .ListComp .. => false | .SetComp .. => false | .DictComp .. => false
  | _ => true
theorem sw_false {e : PySem.Expr} {t : Option PySem.Expr} {l : Nat} {env : Env} (h : plainX e = true) (hl : noCp e = true) : swapsWith e t l env = pure false := by
  cases e <;> first | rfl | cases hl
theorem cE_nocomp {sc : Scope} {n : Nat} {e : PySem.Expr} {c : E} (h : cE T N n sc e = some c) (hl : noLC e = true) : noCp e = true := by
  cases n with
  | zero => simp [cE] at h
  | succ n => cases e <;> first | rfl | (cases hl; done) | simp [cE] at h
theorem sw_none {ts : List PySem.Expr} {kk : Nat} {p : Pos} {e : PySem.Expr} {env : Env} (h : (match e with | .Tuple .. => false | .ListComp .. => false | .DictComp .. => false | _ => true) = true) : swappedStores [.Tuple ts kk p] e env = pure none := by
  cases e <;> first | rfl | cases h
theorem sw_cell {e tg it : PySem.Expr} {ifs : List PySem.Expr} {a : Nat} {scope : Scope} {p py : Pos} {x : Str} {l : Nat} {env : Env} (h : env.scope.names.lookup x = some .cell) : swapsWith (.ListComp e [⟨tg, it, ifs, a⟩] scope p) (some (.Name x py)) l env = pure false := by
  have hk : env.kindOf x = some .cell := h
  unfold swapsWith
  simp only [hk, Expr.pos]
  cases env.blockKind == .function <;> rfl
end Mi
namespace Mi
open PySem PySem.Spec PyProof.Rows L2
variable {T : Tb} {N : List Str} {Γ : Str → FS} {G : Str → Option D} {k : Nat}
theorem cH_plain {sc : Scope} {nm : Str} {n : Nat} {e : PySem.Expr} {h : HE} (q : cH T N sc nm i n e = some h) : plainX e = true := by
  cases n with
  | zero => simp [cH] at q
  | succ n => cases e <;> first | rfl | simp [cH] at q
def rIsX (K : PySem.W.Frag) (a : Addr) (cls : Value) (d : Option Addr) : List V → Hp → VK → Prop := fun xs H Q => ∃ (D : Addr) (c : V) (cv : Value) (b : Bool), cls = .ref D ∧ ExcC K D ∧ xs = [.ref a, c] ∧ (∀ u, RelV c u → u = cv) ∧ PySem.W.kitOne K (.ref D) cv = some b ∧
  (match d with | none => True | some dd => ∃ fs, H dd = some (.xd fs)) ∧ Q (.bl b) H
theorem call_isX {X : Cx} {a : Addr} {cls : Value} {d : Option Addr} {oe : Obj} {pn : List (Addr × Obj)} (hz : Zc cls d oe) (hf : ∃ vs, oe.data = .fields vs) : CallR (X.suite a ((a, oe) :: pn)) (.builtin "isinstance") (rIsX X.K a cls d) := by
  intro pins s σ H xs us Q I r h
  obtain ⟨D, c, cv, b, ec, C, rfl, hcv, e, hd, q⟩ := h
  subst ec
  cases r with
  | cons rx rr =>
    cases rr with
    | cons rt rr =>
      cases rr
      cases rx
      have ec := hcv _ rt
      subst ec
      obtain ⟨hget, _⟩ := I.pin (a, oe) (List.mem_append.mpr (.inl List.mem_cons_self))
      obtain ⟨vs, hv⟩ := hf
      have J : ∃ od, PySem.W.InstAt s.heap a oe D od := by
        obtain ⟨oc, od, oda, osl⟩ := oe
        obtain ⟨h1, h2⟩ := hz
        dsimp only at h1 h2 hv
        subst h1 h2 hv
        cases od with
        | none => exact ⟨none, hget, rfl, rfl, trivial⟩
        | some dd =>
          obtain ⟨fs, ed⟩ := hd
          have hx : ObjOk X.prog X.w H s.heap dd (.xd fs) := I.hok dd _ ed
          obtain ⟨mA, hns, hr⟩ := hx
          obtain ⟨od, ho, hl⟩ := lookIn_ns hns
          exact ⟨some od, hget, rfl, rfl, ho⟩
      obtain ⟨od, J⟩ := J
      exact PySem.W.kia_one (PySem.W.kitx_exc (by obtain ⟨cd, hc, _⟩ := PySem.W.any_some C.hd; rw [hc]; rfl) C.hg C.hk C.hs C.ha C.hn C.ht C.hm) I.kIn J e (fun z => nomatch z) fun tk => ⟨.bl b, H, I.kept (t' := tk) fun _ _ z => z, rfl, q⟩
def Up (H H' : Hp) : Prop := ∀ a o, H a = some o → H' a = some o
theorem Up.refl {H : Hp} : Up H H := fun _ _ h => h
theorem Up.trans {H H1 H2 : Hp} (a : Up H H1) (b : Up H1 H2) : Up H H2 := fun c o h => b c o (a c o h)
theorem Up.new {H : Hp} {p : Addr} {o : HO} (h : H p = none) : Up H (L2.upd H p o) := fun a u e => by rw [upd_ne (fun z => by rw [z, h] at e; cases e)]; exact e
theorem Up.ext {H H' : Hp} (u : Up H H') : Ext H H' := ⟨fun c xs h => u _ _ h, fun c o v h => u _ _ h⟩
theorem RX.up {K : PySem.W.Frag} {H H' : Hp} {x : Exc} {c : Value} {dx : Option Addr} (h : RX K H x c dx) (u : Up H H') : RX K H' x c dx := by
  obtain ⟨h1, h2⟩ := h
  refine ⟨h1, ?_⟩
  cases dx with
  | none => exact h2
  | some d =>
    obtain ⟨ws, e, r⟩ := h2
    exact ⟨ws, u _ _ e, RF.ext u.ext r⟩
theorem RF.look {K : PySem.W.Frag} {H : Hp} {n : Str} {d : D} : ∀ {l : List (Str × D)} {ws : List (Str × V)}, RF K H l ws → l.lookup n = some d → ∃ v, ws.lookup n = some v ∧ RD K H d v
  | [], ws, _, e => by cases e
  | (m, d') :: l, ws, h, e => by
    rw [RF] at h
    obtain ⟨v, r, rfl, h1, h2⟩ := h
    rw [List.lookup_cons] at e ⊢
    cases c : n == m with
    | true =>
      rw [c] at e
      cases e
      exact ⟨v, rfl, h1⟩
    | false =>
      rw [c] at e
      exact RF.look h2 e
def LH (K : PySem.W.Frag) (i : Nat) (a : Addr) (cls : Value) (d : Option Addr) (h : HE) : TE := fun τ H Q => ∃ x S F dd σE, RX K H x cls d ∧ SubC K (gAd K x.cls) ∧ τ[i]? = some (some (.ref a)) ∧ Rel K S F H ∧ hE σE h x = some dd ∧ (∀ (j : Nat) (z : Str), j ≠ i → σE[j]? = some (some (.str z)) → τ[j]? = some (some (.str z))) ∧ ∀ v H', Up H H' → Rel K S F H' → RD K H' dd v → Q v H'
theorem pe_name {X : Cx} {x : Str} {v : V} {u : Value} {pos : Pos} (hg : Gl X x) (hm : X.mg x = some u ∨ (X.mg x = none ∧ bootBuiltins x = some u)) (r : RelV v u) (ok : okN x = true) : PE X (.Name x pos) (tC v) := by
  rcases hm with hm | ⟨hm, hb⟩
  · exact pe_glob hg hm r (okN_1 ok).1
  · exact pe_bltn hg hm hb r (okN_1 ok).2.2 (okN_1 ok).1
theorem sub_mem {c x : Str} {b : Bool} (h : (subOf T c).lookup x = some b) : (x, c, b) ∈ T.sub := by
  unfold subOf at h
  have : ∀ l : List (Str × Str × Bool), (l.filterMap fun y => if y.2.1 = c then some (y.1, y.2.2) else none).lookup x = some b → (x, c, b) ∈ l := by
    intro l
    induction l with
    | nil => intro h; cases h
    | cons y l ih =>
      intro h
      rw [List.filterMap_cons] at h
      by_cases hy : y.2.1 = c
      · rw [if_pos hy] at h
        simp only [List.lookup_cons] at h
        split at h
        · rename_i e
          have e' : x = y.1 := eq_of_beq e
          have e2 := Option.some.inj h
          obtain ⟨y1, y2, y3⟩ := y
          simp only at hy e' e2
          subst hy e' e2
          exact List.mem_cons_self
        · exact List.mem_cons_of_mem _ (ih h)
      · rw [if_neg hy] at h
        exact List.mem_cons_of_mem _ (ih h)
  exact this _ h
theorem cH_sound {X : Cx} {W : WX} {sc : Scope} {own : Str → Bool} (g : Gd T N Γ G X W sc own k) {a : Addr} {cls : Value} {d : Option Addr} {oe : Obj} {pn : List (Addr × Obj)} (hz : Zc cls d oe) (hf : ∃ vs, oe.data = .fields vs) {nm : Str} {i : Nat} (hi : N[i]? = some nm) (hl : sc.names.lookup nm = some .local) (ok : okN nm = true) :
    ∀ (n : Nat) (e : PySem.Expr) (h : HE), cH T N sc nm i n e = some h → PE (X.suite a ((a, oe) :: pn)) e (LH X.K i a cls d h) := by
  have pv : ∀ pos, PE (X.suite a ((a, oe) :: pn)) (.Name nm pos) (tVar i) := fun pos => pe_var (by rw [show (X.suite a ((a, oe) :: pn)).N = X.N from rfl, g.N_eq]; exact hi) (.inl (by rw [show (X.suite a ((a, oe) :: pn)).env = X.env from rfl, g.sc_eq]; exact hl)) (okN_1 ok).1 (okN_1 ok).2.1
  have andP : ∀ {e1 e2 : PySem.Expr} {r : List PySem.Expr} {pos : Pos} {h1 h2 : HE}, PE (X.suite a ((a, oe) :: pn)) e1 (LH X.K i a cls d h1) → PE (X.suite a ((a, oe) :: pn)) (.BoolOp .And (e2 :: r) pos) (LH X.K i a cls d h2) → PE (X.suite a ((a, oe) :: pn)) (.BoolOp .And (e1 :: e2 :: r) pos) (LH X.K i a cls d (.and h1 h2)) := by
    intro e1 e2 r pos h1 h2 p1 p2
    refine PE.imp (pe_and p1 p2) fun τ H Q ⟨x, S, F, dd, σE, rx, sx, ti, rel, hE1, hj, kv⟩ => ?_
    simp only [hE] at hE1
    split at hE1
    case h_1 c hc =>
      refine ⟨x, S, F, _, σE, rx, sx, ti, rel, hc, hj, fun v H1 e1 rel1 rd1 => ⟨c, by rw [rd1.bli], ?_⟩⟩
      cases c with
      | true =>
        rw [if_pos rfl] at hE1 ⊢
        exact ⟨x, S, F, dd, σE, RX.up rx e1, sx, ti, rel1, hE1, hj, fun v H2 e2 => kv v H2 (e1.trans e2)⟩
      | false =>
        rw [if_neg Bool.false_ne_true] at hE1 ⊢
        cases hE1
        exact kv _ _ e1 rel1 .bl
    case h_2 => cases hE1
  intro n
  induction n with
  | zero => intro e h q; simp [cH] at q
  | succ n ih =>
    intro e h q
    unfold cH at q
    split at q
    case h_1 => contradiction
    case h_2 e1 e2 pos hn =>
      cases hn
      simp only [bind, Option.bind_eq_some_iff, pure, Option.some.injEq] at q
      obtain ⟨a', h1, b', h2, rfl⟩ := q
      exact andP (ih _ _ h1) (pe_one (ih _ _ h2))
    case h_3 e1 e2 e3 pos hn =>
      cases hn
      simp only [bind, Option.bind_eq_some_iff, pure, Option.some.injEq] at q
      obtain ⟨a', h1, b', h2, rfl⟩ := q
      exact andP (ih _ _ h1) (ih _ _ h2)
    case h_4 e1 e2 e3 e4 pos hn =>
      cases hn
      simp only [bind, Option.bind_eq_some_iff, pure, Option.some.injEq] at q
      obtain ⟨a', h1, b', h2, rfl⟩ := q
      exact andP (ih _ _ h1) (ih _ _ h2)
    case h_5 e1 pos hn =>
      cases hn
      simp only [Option.map_eq_some_iff] at q
      obtain ⟨a', h1, rfl⟩ := q
      refine PE.imp (pe_not (ih _ _ h1)) fun τ H Q ⟨x, S, F, dd, σE, rx, sx, ti, rel, hE1, hj, kv⟩ => ?_
      simp only [hE] at hE1
      split at hE1
      case h_1 c hc =>
        cases hE1
        exact ⟨x, S, F, _, σE, rx, sx, ti, rel, hc, hj, fun v H1 e1 rel1 rd1 => ⟨c, by rw [rd1.bli], kv _ _ e1 rel1 .bl⟩⟩
      case h_2 => cases hE1
    case h_6 e1 p1 w p2 hn =>
      cases hn
      split at q
      case isFalse => cases q
      case isTrue hh =>
        cases q
        simp only [Bool.and_eq_true, decide_eq_true_eq] at hh
        obtain ⟨h1, h2⟩ := hh
        subst h1 h2
        by_cases hC : ∃ C, cls = .ref C ∧ SubC X.K C
        · obtain ⟨C, rfl, sC⟩ := hC
          refine PE.imp (pe_xf sC.xf sC.hno hz hf (pv _)) fun τ H Q ⟨x, S, F, dd, σE, rx, sx, ti, rel, hE1, hj, kv⟩ => ?_
          simp only [hE] at hE1
          obtain ⟨rx1, rx2⟩ := rx
          cases d with
          | none =>
            have rx2 : x.fs = [] := rx2
            rw [rx2] at hE1
            cases hE1
          | some d' =>
            obtain ⟨ws, e, rf⟩ := rx2
            obtain ⟨v, h1, h2⟩ := RF.look rf hE1
            exact ⟨.ref a, ti, rfl, rfl, d', ws, v, rfl, e, h1, kv _ _ .refl rel h2⟩
        · refine ⟨fun pins s σ H Q I ⟨x, S, F, dd, σE, rx, sx, _⟩ => absurd ⟨_, rx.1, sx⟩ hC⟩
    case h_7 f p1 e1 p2 c p3 pos hn =>
      cases hn
      split at q
      case isFalse => cases q
      case isTrue hh =>
        cases q
        simp only [Bool.and_eq_true, decide_eq_true_eq] at hh
        obtain ⟨⟨⟨⟨⟨h1, h2⟩, h3⟩, h4⟩, h5⟩, h6⟩ := hh
        subst h3 h4
        rw [List.any_eq_true] at h6
        obtain ⟨y, hy, hyc⟩ := h6
        obtain ⟨y1, y2, y3⟩ := y
        simp only [decide_eq_true_eq] at hyc
        subst hyc
        have sf := g.lk.sub _ _ _ hy
        obtain ⟨v, r1, r2⟩ := sf.rel
        have gl : ∀ {x : Str}, glB sc x = true → Gl (X.suite a ((a, oe) :: pn)) x := fun h => g.gl h
        refine PE.imp (pe_callB (call_isX hz hf) (gl h1) (g.lk.free _ h2) boot_isi (pa_cons (pv p2) (pa_cons (pe_name (gl h5) sf.nm r1 (glB_ok h5).2) pa_nil))) fun τ H Q ⟨x, S, F, dd, σE, rx, sx, ti, rel, hE1, hj, kv⟩ => ?_
        simp only [hE, Option.map_eq_some_iff] at hE1
        obtain ⟨b, hb, rfl⟩ := hE1
        have sf2 := g.lk.sub _ _ _ (sub_mem hb)
        refine ⟨.ref a, ti, ?_⟩
        refine ⟨gAd X.K x.cls, v, _, b, rx.1, sx.ec, rfl, r2, sf2.kit, ?_, kv _ _ .refl rel .bl⟩
        cases d with
        | none => trivial
        | some d' =>
          obtain ⟨ws, e, _⟩ := rx.2
          exact ⟨ws, e⟩
    case h_8 e1 p1 w p2 z p3 p4 pos hn =>
      cases hn
      split at q
      case isFalse => cases q
      case isTrue hh =>
        cases q
        simp only [Bool.and_eq_true, decide_eq_true_eq] at hh
        obtain ⟨⟨h1, h2⟩, h3⟩ := hh
        subst h1 h2
        by_cases hC : ∃ C, cls = .ref C ∧ SubC X.K C
        · obtain ⟨C, rfl, sC⟩ := hC
          refine PE.imp (pe_cmpR op_eq (pe_xf sC.xf sC.hno hz hf (pv _)) pe_str rfl) fun τ H Q ⟨x, S, F, dd, σE, rx, sx, ti, rel, hE1, hj, kv⟩ => ?_
          simp only [hE] at hE1
          split at hE1
          case h_1 y hy =>
            cases hE1
            obtain ⟨rx1, rx2⟩ := rx
            cases d with
            | none =>
              have rx2 : x.fs = [] := rx2
              rw [rx2] at hy
              cases hy
            | some d' =>
              obtain ⟨ws, e, rf⟩ := rx2
              obtain ⟨v, h1, h2⟩ := RF.look rf hy
              refine ⟨.ref a, ti, rfl, rfl, d', ws, v, rfl, e, h1, ?_⟩
              rw [h2.stri.1]
              refine ⟨rfl, ?_⟩
              have ed : decide (V.str y = V.str z) = decide (y = z) := decide_eq_decide.mpr ⟨fun q => by cases q; rfl, fun q => by rw [q]⟩
              rw [ed]
              exact kv _ _ .refl rel .bl
          case h_2 => cases hE1
        · refine ⟨fun pins s σ H Q I ⟨x, S, F, dd, σE, rx, sx, _⟩ => absurd ⟨_, rx.1, sx⟩ hC⟩
    case h_9 e1 p1 w p2 y p3 pos hn =>
      cases hn
      split at q
      case h_2 => cases q
      case h_1 j hvj =>
      split at q
      case isFalse => cases q
      case isTrue hh =>
        cases q
        simp only [Bool.and_eq_true, decide_eq_true_eq] at hh
        obtain ⟨⟨h1, h2⟩, h3⟩ := hh
        subst h1 h2
        obtain ⟨v1, v2, v3⟩ := visIx_ok hvj
        have pj : PE (X.suite a ((a, oe) :: pn)) (.Name y p3) (tVar j) := pe_var (by rw [show (X.suite a ((a, oe) :: pn)).N = X.N from rfl, g.N_eq]; exact v1) (by rw [show (X.suite a ((a, oe) :: pn)).env = X.env from rfl, g.sc_eq]; exact v2) (okN_1 v3).1 (okN_1 v3).2.1
        by_cases hC : ∃ C, cls = .ref C ∧ SubC X.K C
        · obtain ⟨C, rfl, sC⟩ := hC
          refine PE.imp (pe_cmpR op_eq (pe_xf sC.xf sC.hno hz hf (pv _)) pj rfl) fun τ H Q ⟨x, S, F, dd, σE, rx, sx, ti, rel, hE1, hj, kv⟩ => ?_
          simp only [hE] at hE1
          split at hE1
          case h_2 => cases hE1
          case h_1 y1 hy =>
          split at hE1
          case h_2 => cases hE1
          case h_1 z1 hz1 =>
            cases hE1
            obtain ⟨rx1, rx2⟩ := rx
            cases d with
            | none =>
              have rx2 : x.fs = [] := rx2
              rw [rx2] at hy
              cases hy
            | some d' =>
              obtain ⟨ws, e, rf⟩ := rx2
              obtain ⟨v, h1, h2⟩ := RF.look rf hy
              refine ⟨.ref a, ti, rfl, rfl, d', ws, v, rfl, e, h1, ?_⟩
              rw [h2.stri.1]
              refine ⟨_, hj j z1 h3 hz1, rfl, ?_⟩
              have ed : decide (V.str y1 = V.str z1) = decide (y1 = z1) := decide_eq_decide.mpr ⟨fun q => by cases q; rfl, fun q => by rw [q]⟩
              rw [ed]
              exact kv _ _ .refl rel .bl
        · refine ⟨fun pins s σ H Q I ⟨x, S, F, dd, σE, rx, sx, _⟩ => absurd ⟨_, rx.1, sx⟩ hC⟩
    case h_10 z p1 p2 e1 x1 pos hn =>
      cases hn
      split at q
      case isFalse => cases q
      case isTrue hz' =>
        simp only [Option.map_eq_some_iff] at q
        obtain ⟨a', h1, rfl⟩ := q
        refine PE.imp (pe_tupF (pa_cons pe_str (pa_cons (ih _ _ h1) pa_nil (plain_star (cH_plain h1) [] _)))) fun τ H Q ⟨x, S, F, dd, σE, rx, sx, ti, rel, hE1, hj, kv⟩ => ?_
        simp only [hE] at hE1
        split at hE1
        case h_1 c hc =>
          cases hE1
          refine ⟨x, S, F, _, σE, rx, sx, ti, rel, hc, hj, fun v H1 e1 rel1 rd1 => ⟨?_, fun p o hp ho => ?_⟩⟩
          · rw [sizeLine_eq]; exact (show (2 : Nat) ≤ 16777216 by decide)
          · exact kv _ _ (e1.trans (.new hp)) (rel1.tup hp) (.tupNew hp ho (.cons (by rw [RD]; exact ⟨rfl, hz'⟩) (.cons rd1 .nil)))
        case h_2 => cases hE1
    case h_11 => cases q
end Mi
namespace Mi
open PySem PySem.Spec PyProof.Rows L2
variable {T : Tb} {N : List Str} {Γ : Str → FS} {G : Str → Option D} {k : Nat}
theorem ls_set {K : PySem.W.Frag} {W : WX} {i : Nat} {w1 : WE1} {D : Ends} {τ : L2.St} {H : Hp} (h : LS K W (fun N σ S => w1 σ S (fun d S1 => N.nx (σ.set i (some d)) S1) fun x S1 => N.xr x σ S1) D τ H) : LE K W w1 τ H fun x H1 => D.nx (τ.set i (some x)) H1 := by
  obtain ⟨σ, S, F, N, rel, rs, hw, lk⟩ := h
  exact ⟨σ, S, F, _, _, rel, rs, hw, fun d S1 x H1 q e r rd => lk.nx _ _ _ _ q e r ((rs.ext e).set i rd), lk.kxs rs⟩
theorem ll_set {K : PySem.W.Frag} {W : WX} {i : Nat} {w : En → Sto → (List D → Sto → Prop) → KX → Prop} {D : Ends} {τ : L2.St} {H : Hp} (h : LS K W (fun N σ S => w σ S (fun ds S2 => ∀ p, S2 p = none → N.nx (σ.set i (some (.ref p))) (S2.upd p (.lst ds))) fun x S1 => N.xr x σ S1) D τ H) :
    LL K W w τ H fun x H1 => D.nx (τ.set i (some x)) H1 := by
  obtain ⟨σ, S, F, N, rel, rs, hw, lk⟩ := h
  exact ⟨σ, S, F, _, _, rel, rs, hw, fun ds S' a vs H' q e fa rel' rd => lk.nx _ _ _ _ (q a (rel'.sep a _ upd_same)) e (rel'.show fa rd) ((rs.ext e).set i .ref), lk.kxs rs⟩
theorem ld_set {K : PySem.W.Frag} {W : WX} {i : Nat} {w : En → Sto → (List (D × D) → Sto → Prop) → KX → Prop} {D : Ends} {τ : L2.St} {H : Hp} (h : LS K W (fun N σ S => w σ S (fun kvs S2 => ∀ p, S2 p = none → N.nx (σ.set i (some (.ref p))) (S2.upd p (.dct kvs))) fun x S1 => N.xr x σ S1) D τ H) :
    LD K W w τ H fun x H1 => D.nx (τ.set i (some x)) H1 := by
  obtain ⟨σ, S, F, N, rel, rs, hw, lk⟩ := h
  exact ⟨σ, S, F, _, _, rel, rs, hw, fun kvs S' a ws H' q e fa rel' rk => lk.nx _ _ _ _ (q a (rel'.sep a _ upd_same)) e (rel'.showD fa rk) ((rs.ext e).set i .ref), lk.kxs rs⟩
theorem fset_of {X : Cx} {W : WX} {sc : Scope} {own : Str → Bool} (g : Gd T N Γ G X W sc own k) {f : Str} {x d : D} {S : Sto} {F H : Hp} {y : V} {Q : Sto → Prop} (rel : Rel X.K S F H) (rd : RD X.K H x y) (h : fsetR (fldC T f) f x d S Q) :
    ∃ a dx C fs ws, y = .ref a ∧ S a = some (.ins C fs) ∧ H a = some (.ins (gAd X.K C) dx ws) ∧ RF X.K H fs ws ∧ Cls X.K (gAd X.K C) ∧ NoAttr X.K (gAd X.K C) f ∧ fs.length < 1000 ∧ Q (S.upd a (.ins C (fput f d fs))) := by
  unfold fsetR at h
  split at h
  case h_2 => exact h.elim
  case h_1 a =>
  split at h
  case h_2 => exact h.elim
  case h_1 C fs hS =>
  obtain ⟨hc, hl, q⟩ := h
  obtain ⟨dx, ws, h1, h2⟩ := rel.ins hS
  obtain ⟨c1, c2⟩ := g.lk.fld C f (fldC_mem hc)
  exact ⟨a, dx, C, fs, ws, rd.refi, hS, h1, h2, c1, c2, hl, q⟩
theorem sw_par {env : Env} {x y : Str} {px py p p2 : Pos} {kk k2} {a b : PySem.Expr} (hk : env.scope.kind = .function) (hx : env.scope.names.lookup x = some .local) (hy : env.scope.names.lookup y = some .local) (hpl : (px.line == py.line) = true)
    (hf : foldedForSure 8 a = false) (hc : constantsAlone 8 a = false) (hne : (x == y) = false) (pa : plainX a = true) (pb : plainX b = true) : swappedStores [.Tuple [.Name x px, .Name y py] kk p] (.Tuple [a, b] k2 p2) env = pure (some [x, y]) := by
  have e1 : env.kindOf x = some .local := hx
  have e2 : env.kindOf y = some .local := hy
  have e3 : env.blockKind = .function := by unfold Env.blockKind; rw [hk]; rfl
  have e4 : ([a, b].any fun | .Starred .. => true | _ => false) = false := by
    cases a <;> first | (cases pa; done) | skip
    all_goals (cases b <;> first | (cases pb; done) | rfl)
  have e5 : (py.line == px.line) = true := by rw [beq_iff_eq] at hpl ⊢; exact hpl.symm
  have e6 : (y == x) = false := by
    rw [beq_eq_false_iff_ne] at hne ⊢
    exact fun z => hne z.symm
  unfold swappedStores
  simp only [e3]
  have e7 : ([PySem.Expr.Name x px, .Name y py].filterMap fun
    | .Name id pos => if env.kindOf id == some .local && pos.line == (([PySem.Expr.Name x px, .Name y py].head?.map (·.pos.line)).getD 0) then some id else none
    | _ => none) = [x, y] := by
    have e5' : py.line = px.line := by simpa using e5
    simp [List.filterMap_cons, e1, e2, e5', Expr.pos]
  have e8 : ([x, y] : List Str).eraseDups.length = 2 := by
    simp [List.eraseDups, List.eraseDupsBy, List.eraseDupsBy.loop, hne, e6]
  have e9 : [a, b].all (foldedForSure 8) = false := by simp [hf]
  have e10 : [a, b].all (constantsAlone 8) = false := by simp [hc]
  generalize hL : List.filterMap _ [PySem.Expr.Name x px, PySem.Expr.Name y py] = L
  obtain rfl : L = [x, y] := hL.symm.trans e7
  simp only [e8]
  have z1 : ∀ {α : Type} {b : Bool} {u v : α}, b = false → (if b = true then u else v) = v := fun h => by rw [h]; rfl
  refine (z1 (by rfl)).trans ((z1 e4).trans ((z1 (by rfl)).trans ((z1 e9).trans (z1 e10))))
theorem stepS {n : Nat} (hA' : All T N Γ G k (n - 1)) (hA : All T N Γ G k n) (hSs : SSs T N Γ G k n) : SS T N Γ G k (n + 1) := by
  intro X W sc g st s c h po
  unfold cS at h
  split at h
  case h_1 => contradiction
  case h_2 x py e pos hn =>
    cases hn
    simp only [bind, Option.bind_eq_some_iff, pure, Option.some.injEq] at h
    obtain ⟨i, h1, e', h2, _, h3, rfl⟩ := h
    rw [gd_some] at h3
    obtain ⟨h4, h5⟩ := locIx_ok h1
    have hi : X.N[i]? = some x := by rw [g.N_eq]; exact h4
    have hx : Loc X.env.scope x := by rw [g.sc_eq]; rcases h5 with h5 | h5; exact .inl h5; exact .inr h5.1
    have hN : X.N.Nodup := by rw [g.N_eq]; exact g.nd
    cases hl : noLC e with
    | true => exact PS.imp (ps_set hN hi hx (hA.e X W _ _ g e e' h2) (sw_false (cE_plain h2) (cE_nocomp h2 hl)) (.inl (g.own x rfl))) fun D τ H q => ls_set q
    | false =>
      cases n with
      | zero => simp [cE] at h2
      | succ n =>
      unfold cE at h2
      split at h2 <;> first | (cases hl; done) | (cases h2; done) | skip
      case h_18 elt tg it ifs scope p hm =>
        cases hm
        obtain ⟨e1, tg1, it1, c1, vs, rfl, hpe, hp⟩ := hA'.c X W _ _ g _ _ _ _ _ _ _ h2
        rw [Bool.or_eq_true, decide_eq_true_eq] at h3
        rcases h3 with h3 | h3
        · exact PS.imp (ps_set hN hi hx (hpe p) (sw_cell (by rw [g.sc_eq]; exact h3)) (.inl (g.own x rfl))) fun D τ H q => ll_set q
        rw [Bool.and_eq_true, Bool.and_eq_true, decide_eq_true_eq] at h3
        obtain ⟨⟨h6, h7⟩, h8⟩ := h3
        have hyl : X.env.scope.names.lookup x = some .local := by rw [g.sc_eq]; exact h7
        refine PS.imp (hp p pos i x py hi hyl (sw_true (by rw [g.sc_eq]; exact g.kd) hyl h6 (by rw [Bool.not_eq_true'] at h8; exact h8))) fun D τ H q => ll_set q
      case h_20 kx vx tg it ifs scope p hm =>
        cases hm
        obtain ⟨ke1, ve1, tg1, it1, c1, vs, rfl, hpe, hp⟩ := hA'.d X W _ _ g _ _ _ _ _ _ _ h2
        rw [Bool.and_eq_true, Bool.and_eq_true, decide_eq_true_eq] at h3
        obtain ⟨⟨h6, h7⟩, h8⟩ := h3
        have hyl : X.env.scope.names.lookup x = some .local := by rw [g.sc_eq]; exact h7
        refine PS.imp (hp p pos i x py hi hyl (sw_trueD (by rw [g.sc_eq]; exact g.kd) hyl h6 (by rw [Bool.not_eq_true'] at h8; exact h8))) fun D τ H q => ld_set q
  case h_3 x px y py kk p a b k2 p2 pos hn =>
    cases hn
    simp only [bind, Option.bind_eq_some_iff, pure, Option.some.injEq] at h
    obtain ⟨i, h1, j, h2, _, h3, a', h4, b', h5, rfl⟩ := h
    rw [gd_some] at h3
    simp only [Bool.and_eq_true, decide_eq_true_eq, Bool.not_eq_true'] at h3
    obtain ⟨⟨⟨⟨⟨⟨hij, hx⟩, hy⟩, hpl⟩, hf⟩, hcc⟩, hne⟩ := h3
    have hi : X.N[i]? = some x := by rw [g.N_eq]; exact (locIx_ok h1).1
    have hj : X.N[j]? = some y := by rw [g.N_eq]; exact (locIx_ok h2).1
    have hx' : X.env.scope.names.lookup x = some .local := by rw [g.sc_eq]; exact hx
    have hy' : X.env.scope.names.lookup y = some .local := by rw [g.sc_eq]; exact hy
    have hkd : X.env.scope.kind = .function := by rw [g.sc_eq]; exact g.kd
    have hN : X.N.Nodup := by rw [g.N_eq]; exact g.nd
    refine PS.imp (ps_par g.calm hN hi hj hij hx' hy' (pa_cons (hA.e X W _ _ g a a' h4) (pa_cons (hA.e X W _ _ g b b' h5) pa_nil (plain_star (cE_plain h5) [] X.env)) (plain_star (cE_plain h4) _ X.env)) (sw_par hkd hx' hy' hpl hf hcc hne (cE_plain h4) (cE_plain h5))) fun D τ H ⟨σ, S, F, N, rel, rs, hw, lk⟩ => ?_
    refine ⟨σ, S, F, _, _, rel, rs, hw, fun d S1 x1 H1 q1 e1 rel1 rd1 => ?_, lk.kxs rs⟩
    refine ⟨σ, S1, F, _, _, rel1, rs.ext e1, q1, fun d2 S2 x2 H2 q2 e2 rel2 rd2 => ?_, (lk.ext e1).kxs (rs.ext e1)⟩
    exact ⟨x1, x2, rfl, lk.nx _ _ _ _ q2 (e1.trans e2) rel2 (((rs.ext (e1.trans e2)).set i (RD.ext e2 _ _ rd1)).set j rd2)⟩
  case h_4 o f p e pos hn =>
    cases hn
    simp only [bind, Option.bind_eq_some_iff, pure, Option.some.injEq] at h
    obtain ⟨_, h2, o', h3, e', h5, rfl⟩ := h
    rw [gd_some] at h2
    have hlc : noLC e = true := by cases e <;> first | rfl | cases h2
    refine PS.imp (ps_fld (hA.e X W _ _ g o o' h3) (hA.e X W _ _ g e e' h5) (sw_false (cE_plain h5) (cE_nocomp h5 hlc))) fun D τ H ⟨σ, S, F, N, rel, rs, hw, lk⟩ => ?_
    refine ⟨σ, S, F, _, _, rel, rs, hw, fun d S1 x H1 q1 e1 rel1 rd1 => ?_, lk.kxs rs⟩
    refine ⟨σ, S1, F, _, _, rel1, rs.ext e1, q1, fun d2 S2 y H2 q2 e2 rel2 rd2 => ?_, (lk.ext e1).kxs (rs.ext e1)⟩
    obtain ⟨a, dx, C, fs, ws, rfl, h6, h7, h8, c1, c2, hl, q3⟩ := fset_of g rel2 rd2 q2
    obtain ⟨x3, rel3⟩ := rel2.setIns h6 h7 (RF.put (RD.ext e2 _ _ rd1) h8)
    exact ⟨a, _, dx, ws, rfl, h7, c1, c2, by rw [h8.length]; exact hl, lk.nx _ _ _ _ q3 ((e1.trans e2).trans x3) rel3 (rs.ext ((e1.trans e2).trans x3))⟩
  case h_5 o f p op e pos hn =>
    cases hn
    simp only [bind, Option.bind_eq_some_iff, pure, Option.some.injEq] at h
    obtain ⟨op', h2, o', h3, e', h5, rfl⟩ := h
    rw [opOf_opO h2]
    refine PS.imp (ps_fldaug (rd := LO X.K (augR op')) (hA.e X W _ _ g o o' h3) (hA.e X W _ _ g e e' h5) (aug_sound op')) fun D τ H ⟨σ, S, F, N, rel, rs, hw, lk⟩ => ?_
    refine ⟨σ, S, F, _, _, rel, rs, hw, fun d S1 x H1 q1 e1 rel1 rd1 => ?_, lk.kxs rs⟩
    change fldR _ _ _ _ _ at q1
    unfold fldR at q1
    split at q1
    case h_2 => exact q1.elim
    case h_1 a =>
    split at q1
    case h_2 => exact q1.elim
    case h_1 C fs hS =>
    obtain ⟨hc, q1⟩ := q1
    split at q1
    case h_2 => exact q1.elim
    case h_1 v hv =>
    obtain ⟨dx, ws, h6, h7⟩ := rel1.ins hS
    obtain ⟨c1, c2⟩ := g.lk.fld C f (fldC_mem hc)
    obtain ⟨u, h8, h9⟩ := (RF.get h7).1 v hv
    refine ⟨a, _, dx, ws, u, rd1.refi, h6, c1, c2, h8, ?_⟩
    refine ⟨σ, S1, F, _, _, rel1, rs.ext e1, q1, fun d2 S2 y H2 q2 e2 rel2 rd2 => ?_, (lk.ext e1).kxs (rs.ext e1)⟩
    refine ⟨v, d2, S2, F, _, rel2, RD.ext e2 _ _ h9, rd2, q2, fun d3 S3 z H3 q3 e3 rel3 rd3 => ?_⟩
    obtain ⟨hcl, q3⟩ := q3
    obtain ⟨a2, dx2, C2, fs2, ws2, ea, k6, k7, k8, k1, k2, kl, k9⟩ := fset_of g rel3 (show RD X.K H3 (.ref a) (.ref a) from .ref) q3
    cases ea
    have eC : C2 = C := by
      unfold clsO at hcl
      simp only [hS, k6] at hcl
      exact (Option.some.inj hcl).symm
    subst eC
    obtain ⟨x3, rel4⟩ := rel3.setIns k6 k7 (RF.put rd3 k8)
    exact ⟨dx2, ws2, k7, by rw [k8.length]; exact kl, lk.nx _ _ _ _ k9 (((e1.trans e2).trans e3).trans x3) rel4 (rs.ext (((e1.trans e2).trans e3).trans x3))⟩
  case h_6 x p op e pos hn =>
    cases hn
    simp only [bind, Option.bind_eq_some_iff, pure, Option.some.injEq] at h
    obtain ⟨i, h1, op', h2, e', h3, rfl⟩ := h
    rw [opOf_opO h2]
    obtain ⟨h4, h5⟩ := locIx_ok h1
    have hi : X.N[i]? = some x := by rw [g.N_eq]; exact h4
    have hx : Loc X.env.scope x := by rw [g.sc_eq]; rcases h5 with h5 | h5; exact .inl h5; exact .inr h5.1
    have hN : X.N.Nodup := by rw [g.N_eq]; exact g.nd
    refine PS.imp (ps_aug hN hi hx (hA.e X W _ _ g e e' h3) (aug_sound op') (.inl (g.own x rfl))) fun D τ H ⟨σ, S, F, N, rel, rs, hw, lk⟩ => ?_
    have hw : (match σ[i]? with | some (some x) => wE Γ G e' σ S (fun y S1 => augR op' x y S1 fun d S2 => N.nx (σ.set i (some d)) S2) (fun x S1 => N.xr x σ S1) | _ => False) := hw
    split at hw
    case h_2 => exact hw.elim
    case h_1 v hv =>
    obtain ⟨u, h8, h9⟩ := rs.get i v hv
    refine ⟨u, h8, σ, S, F, _, _, rel, rs, hw, fun d S1 y H1 q1 e1 rel1 rd1 => ?_, lk.kxs rs⟩
    exact ⟨v, d, S1, F, _, rel1, RD.ext e1 _ _ h9, rd1, q1, fun d3 S3 z H3 q3 e3 rel3 rd3 => lk.nx _ _ _ _ q3 (e1.trans e3) rel3 ((rs.ext (e1.trans e3)).set i rd3)⟩
  case h_7 o i p op e pos hn =>
    cases hn
    simp only [bind, Option.bind_eq_some_iff, pure, Option.some.injEq] at h
    obtain ⟨_, h1, op', h2, o', h3, i', h4, e', h5, rfl⟩ := h
    rw [gd_some] at h1
    rw [opOf_opO h2]
    refine PS.imp (ps_augS (hA.e X W _ _ g o o' h3) (hA.e X W _ _ g i i' h4) gix_sound (hA.e X W _ _ g e e' h5) (aug_sound op') (set_sound g.room) (by intro ov iv new; cases i <;> first | rfl | cases h1)) fun D τ H ⟨σ, S, F, N, rel, rs, hw, lk⟩ => ?_
    refine ⟨σ, S, F, _, _, rel, rs, hw, fun d S1 x H1 q1 e1 rel1 rd1 => ?_, lk.kxs rs⟩
    refine ⟨σ, S1, F, _, _, rel1, rs.ext e1, q1, fun d2 S2 y H2 q2 e2 rel2 rd2 => ?_, (lk.ext e1).kxs (rs.ext e1)⟩
    refine ⟨d, d2, S2, F, _, rel2, RD.ext e2 _ _ rd1, rd2, q2, fun v vv q3 rdv => ?_⟩
    refine ⟨σ, S2, F, _, _, rel2, rs.ext (e1.trans e2), q3, fun d4 S4 z H4 q4 e4 rel4 rd4 => ?_, (lk.ext (e1.trans e2)).kxs (rs.ext (e1.trans e2))⟩
    refine ⟨v, d4, S4, F, _, rel4, RD.ext e4 _ _ rdv, rd4, q4, fun d5 S5 w H5 q5 e5 rel5 rd5 => ?_⟩
    exact ⟨d, d2, d5, S5, F, _, rel5, RD.ext ((e2.trans e4).trans e5) _ _ rd1, RD.ext (e4.trans e5) _ _ rd2, rd5, q5, fun S' H' q' e' r' => lk.nx _ _ _ _ q' ((((e1.trans e2).trans e4).trans e5).trans e') r' (rs.ext ((((e1.trans e2).trans e4).trans e5).trans e'))⟩
  case h_8 ts kk p e pos _ hn =>
    cases hn
    simp only [bind, Option.bind_eq_some_iff, pure, Option.some.injEq] at h
    obtain ⟨ts', h1, _, h2, e', h3, rfl⟩ := h
    rw [gd_some] at h2
    have hlc : noLC e = true := by cases e <;> first | rfl | cases h2
    refine PS.imp (ps_asg (hA.e X W _ _ g e e' h3) (sG g n _ ts' false h1 (fun z => nomatch z)) (show swapsWith e (some (.Tuple ts kk p)) pos.line X.env = pure false from sw_false (cE_plain h3) (cE_nocomp h3 hlc)) (sw_none h2)) fun D τ H ⟨σ, S, F, N, rel, rs, hw, lk⟩ => ?_
    refine ⟨σ, S, F, _, _, rel, rs, hw, fun d S1 x H1 q e1 r rd => ?_, lk.kxs rs⟩
    exact ⟨d, σ, _, rd, rs.ext e1, q, fun σ' τ' q' rs' _ => lk.nx _ _ _ _ q' e1 r rs'⟩
  case h_9 o i p e pos hn =>
    cases hn
    simp only [bind, Option.bind_eq_some_iff, pure, Option.some.injEq] at h
    obtain ⟨_, h1, _, h2, o', h3, i', h4, e', h5, rfl⟩ := h
    rw [gd_some] at h1 h2
    have hlc : noLC e = true := by cases e <;> first | rfl | cases h2
    refine PS.imp (ps_asg (hA.e X W _ _ g e e' h5) (pg_sub (hA.e X W _ _ g o o' h3) (hA.e X W _ _ g i i' h4) (set_sound g.room) (by intro v; cases i <;> first | rfl | cases h1)) (show swapsWith e (some (.Subscript o i p)) pos.line X.env = pure false from sw_false (cE_plain h5) (cE_nocomp h5 hlc))) fun D τ H ⟨σ, S, F, N, rel, rs, hw, lk⟩ => ?_
    refine ⟨σ, S, F, _, _, rel, rs, hw, fun d S1 x H1 q1 e1 rel1 rd1 => ?_, lk.kxs rs⟩
    refine ⟨σ, S1, F, _, _, rel1, rs.ext e1, q1, fun d2 S2 y H2 q2 e2 rel2 rd2 => ?_, (lk.ext e1).kxs (rs.ext e1)⟩
    refine ⟨σ, S2, F, _, _, rel2, rs.ext (e1.trans e2), q2, fun d3 S3 z H3 q3 e3 rel3 rd3 => ?_, (lk.ext (e1.trans e2)).kxs (rs.ext (e1.trans e2))⟩
    exact ⟨d2, d3, d, S3, F, _, rel3, RD.ext e3 _ _ rd2, rd3, RD.ext (e2.trans e3) _ _ rd1, q3, fun S' H' q' e' r' => lk.nx _ _ _ _ q' (((e1.trans e2).trans e3).trans e') r' (rs.ext (((e1.trans e2).trans e3).trans e'))⟩
  case h_10 f p1 e pos p2 hn =>
    cases hn
    simp only [bind, Option.bind_eq_some_iff, pure, Option.some.injEq] at h
    obtain ⟨_, h1, e', h2, rfl⟩ := h
    rw [gd_some, Bool.and_eq_true] at h1
    have ef := g.lk.exc _ h1.2
    obtain ⟨fI, F0, nf, iC, tI⟩ := ef.ini
    have pmono : ∀ (σ : L2.St) (H : Hp) (Q Q' : VK), (∀ v H', Q v H' → Q' v H') → LE X.K W (wE Γ G e') σ H Q → LE X.K W (wE Γ G e') σ H Q' := fun _ _ _ _ i q => LE.monoQ q i
    have tkm := g.tk
    have fin : ∀ (D : Ends) (τ : L2.St) (H : Hp), LS X.K W (wS Γ G (.raise f e')) D τ H → LE X.K W (wE Γ G e') τ H (fun v H1 => ∃ z : Str, v = .str z ∧ z.length ≤ 1000000 ∧ ∀ d, H1 d = none → W (.ref (gAd X.K f)) (some d) τ (L2.upd H1 d (.xd [("word", .str z)]))) := by
      intro D τ H ⟨σ, S, F, N, rel, rs, hw, lk⟩
      refine ⟨σ, S, F, _, _, rel, rs, hw, fun d S1 v H1 q e1 rel1 rd1 => ?_, lk.kxs rs⟩
      cases d <;> first | exact (show False from q).elim | skip
      rename_i z
      obtain ⟨q1, q2⟩ : z.length ≤ 1000000 ∧ N.xr ⟨f, [("word", .str z)]⟩ σ S1 := q
      refine ⟨z, rd1.stri.1, q1, fun d hd => ?_⟩
      refine lk.xr _ _ _ _ _ _ _ q2 (e1.trans (.new hd)) (rel1.tup hd) (rs.ext (e1.trans (.new hd))) ⟨rfl, _, upd_same, ?_⟩
      rw [RF]
      exact ⟨.str z, [], rfl, by rw [RD]; exact ⟨rfl, rd1.stri.2⟩, by rw [RF]⟩
    cases hmd : T.md with
    | false =>
      rw [hmd] at tkm
      exact PS.imp (ps_raise g.calm tkm (pmk_nf (k := 0) (te := LE X.K W (wE Γ G e')) nf iC tI (g.room.mono g.k2) pmono (g.gl h1.1) ef.mgx (hA.e X W _ _ g e e' h2) (okN_1 (glB_ok h1.1).2).1 (plain_star (cE_plain h2) [] X.env))) fun D τ H q => fin D τ H q
    | true =>
      rw [hmd] at tkm
      exact PS.imp (L2N.ps_raise g.calm tkm (pmk_nfN (k := 0) (te := LE X.K W (wE Γ G e')) nf iC tI (g.room.mono g.k2) pmono (g.gl h1.1) ef.mgx (hA.e X W _ _ g e e' h2) (okN_1 (glB_ok h1.1).2).1 (plain_star (cE_plain h2) [] X.env))) fun D τ H q => fin D τ H q
  case h_11 b x p1 nm e p2 p3 p4 hn =>
    cases hn
    have e0 := g.sc_eq
    subst e0
    simp only [bind, Option.bind_eq_some_iff, pure, Option.some.injEq] at h
    obtain ⟨i, h0, _, h1, hh, h2, b', h3, _, h7, rfl⟩ := h
    rw [gd_some, Bool.and_eq_true, Bool.and_eq_true] at h1
    rw [gd_some, Bool.and_eq_true, Bool.not_eq_true'] at h7
    obtain ⟨hmd, hnr⟩ := h7
    have tkm := g.tk
    rw [hmd] at tkm
    have toM : ∀ {Y : Cx} {W1 : WX}, L2.Takes Y W1 → TkM T.md Y W1 := fun t => by rw [hmd]; exact t
    obtain ⟨⟨h4, h5⟩, h6⟩ := h1
    obtain ⟨hl, hi⟩ : X.env.scope.names.lookup nm = some .local ∧ ixOf N nm = some i := by
      split at h0
      case h_1 e => exact ⟨e, h0⟩
      case h_2 => cases h0
    have hi' := ixOf_get hi
    rw [List.any_eq_true] at h6
    obtain ⟨⟨y1, y2, y3⟩, hy, hyc⟩ := h6
    simp only [decide_eq_true_eq] at hyc
    subst hyc
    have sf := g.lk.sub _ _ _ hy
    have nms : Names X y2 (cvOf X.mg y2) := ⟨g.gl h4, (okN_1 (glB_ok h4).2).1, by
      rcases sf.nm with z | ⟨z1, z2⟩
      · exact .inl z
      · exact .inr ⟨z1, z2, (okN_1 (glB_ok h4).2).2.2⟩⟩
    refine PS.imp (ps_try_as (tb := fun W => LS X.K W (wSs Γ G b')) (i := i) (n := nm) (c := cvOf X.mg y2) (Wout := W) (ts := fun a cls d => tRet (LH X.K i a cls d hh)) st.stk st.frm (by rw [g.N_eq]; exact g.nd) (by rw [g.N_eq]; exact hi') hl nms tkm
      (fun W1 pn xe tk1 po1 => hSs (X.tr pn xe) W1 _ ⟨g.N_eq, g.sc_eq, g.nd, g.kd, g.room, g.room1, g.k2, g.calm, toM tk1, po1, g.own, g.lk⟩ ⟨st.stk, st.frm⟩ b b' h3 (.inr hnr))
      (fun a oe cls d pn hz hf => pss_one (ps_ret (cH_sound g hz hf hi' hl h5 n e hh h2)))) fun D τ H ⟨σ, S, F, N, rel, rs, hw, lk⟩ => ?_
    refine ⟨σ, S, F, _, rel, rs, hw, lk.nx, lk.rt, lk.bk, lk.ct, fun x σ1 S1 τ1 c dx H1 q e1 rel1 rs1 rx1 => ?_⟩
    dsimp only at q
    split at q
    case h_1 cb hcb =>
      have sf2 := g.lk.sub _ _ _ (sub_mem hcb)
      refine ⟨cb, by rw [rx1.1]; exact sf2.exm, fun hb a ha => ?_, fun hb => ?_⟩
      · subst hb
        rw [if_pos rfl] at q
        obtain ⟨q1, q2⟩ := q
        split at q2
        case h_1 dd hdd =>
          exact ⟨x, S1, F, dd, σ1, rx1, sf2.sc, by rw [List.getElem?_set_self (by have z := rs1.1; omega)], rel1, hdd, fun j z hj hz => (by rw [List.getElem?_set_ne (fun e => hj e.symm)]; obtain ⟨v, h8, h9⟩ := rs1.get j _ hz; rw [h8, h9.stri.1]), fun v H2 u2 rel2 rd2 => lk.rt _ _ _ _ q2 (e1.trans u2.ext) rel2 rd2⟩
        case h_2 => exact q2.elim
      · subst hb
        rw [if_neg Bool.false_ne_true] at q
        exact lk.xr _ _ _ _ _ _ _ q e1 rel1 rs1 rx1
    case h_2 => exact q.elim
  case h_12 tg gn p1 v p2 p3 p4 x p5 f p6 z j6 p7 p8 j9 p9 p10 p11 p12 hn =>
    cases hn
    simp only [bind, Option.bind_eq_some_iff, pure, Option.some.injEq] at h
    obtain ⟨_, h1, t', h2, i, h3, _, h4, rfl⟩ := h
    have poa : PoA X := po.resolve_right fun z => nomatch z
    simp only [gd_some, Bool.and_eq_true, Bool.not_eq_true'] at h1
    obtain ⟨⟨⟨⟨hmd, hg1, hg2⟩, hx1, hx2⟩, hf1, hf2⟩, hz⟩ := h1
    have tkm := g.tk
    rw [hmd] at tkm
    rw [List.any_eq_true] at hx2
    obtain ⟨⟨y1, y2, y3⟩, hy, hyc⟩ := hx2
    simp only [decide_eq_true_eq] at hyc
    subst hyc
    have sf := g.lk.sub _ _ _ hy
    have nms : Names X y2 (cvOf X.mg y2) := ⟨g.gl hx1, (okN_1 (glB_ok hx1).2).1, by
      rcases sf.nm with z | ⟨z1, z2⟩
      · exact .inl z
      · exact .inr ⟨z1, z2, (okN_1 (glB_ok hx1).2).2.2⟩⟩
    have ef := g.lk.exc _ hf2
    obtain ⟨fI, F0, nf, iC, tI⟩ := ef.ini
    obtain ⟨ga, gd', gps, m1, m2, m3, m4⟩ := g.lk.cln gn hg2
    obtain ⟨hv1, hv2, hv3⟩ := visIx_ok h3
    obtain ⟨tes, tk, tp, rfl⟩ : ∃ es kk p, tg = .Tuple es kk p := by
      cases tg <;> first | exact ⟨_, _, _, rfl⟩ | cases h4
    have toM : ∀ {Y : Cx} {W1 : WX}, L2.Takes Y W1 → TkM T.md Y W1 := fun t => by rw [hmd]; exact t
    have n1 := (okN_1 (glB_ok hg1).2).1
    have n2 := (okN_1 (glB_ok hf1).2).1
    let wA : De → En → Sto → Prop := fun N σ S => (match σ[i]? with
      | some (some d) => Γ gn [d] S (fun r S1 => wG t' r σ fun σ' => N.nx σ' S1) fun x S1 => N.xr x σ S1
      | _ => False)
    refine PS.imp (L2H.ps_try_onlyX (tb := fun W1 => LS X.K W1 wA) (c := cvOf X.mg y2) (Wout := W) (ts := fun a cls d D τ H => z.length ≤ 1000000 ∧ ∀ dd, H dd = none → W (.ref (gAd X.K f)) (some dd) τ (L2.upd H dd (.xd [("word", .str z)]))) st.stk st.frm nms poa tkm
      (fun W1 pn xe tkN tkP po1 => ?_)
      (fun a oe cls d pn hzn hvs tk5 hot => ?_)) fun D τ H ⟨σ, S, F, N, rel, rs, hw, lk⟩ => ?_
    · have gY : Gd T N Γ G (X.tr pn xe) (L2H.wPass X.K (cvOf X.mg y2) W) _ (fun _ => true) k := ⟨g.N_eq, g.sc_eq, g.nd, g.kd, g.room, g.room1, g.k2, g.calm, toM tkP, po1, g.own, g.lk⟩
      have pv : PE (X.tr pn xe) (.Name v p2) (tVar i) := pe_var (i := i) (by rw [show (X.tr pn xe).N = X.N from rfl, g.N_eq]; exact hv1) (by rw [show (X.tr pn xe).env = X.env from rfl, g.sc_eq]; exact hv2) (okN_1 hv3).1 (okN_1 hv3).2.1
      have pc := pe_callS (X := X.tr pn xe) (E := WE W1) (pos := p3) (p := p1) m4 g.room (g.gl hg1) m1 m2 m3 (fun σ => L2N.passAt tkN σ) (pa_cons pv pa_nil rfl) n1 rfl rfl
      refine pss_one (PS.imp (ps_asg pc (sG gY n _ t' false h2 (fun z => nomatch z)) rfl (sw_none rfl)) fun D τ H ⟨σ, S, F, N, rel, rs, hw, lk⟩ => ?_)
      have hw : (match σ[i]? with
        | some (some d) => Γ gn [d] S (fun r S1 => wG t' r σ fun σ' => N.nx σ' S1) fun x S1 => N.xr x σ S1
        | _ => False) := hw
      split at hw
      case h_1 d hd =>
        obtain ⟨u, e1, rd⟩ := rs.get i d hd
        refine ⟨u, e1, [d], S, F, _, _, rel, .cons rd .nil, hw, fun r S1 x H1 q1 e2 rel1 rd1 => ?_, lk.kxs rs⟩
        exact ⟨r, σ, _, rd1, rs.ext e2, q1, fun σ' τ' q' rs' _ => lk.nx _ _ _ _ q' e2 rel1 rs'⟩
      case h_2 => exact hw.elim
    · refine pss_one (PS.imp (L2H.ps_raiseHN hot tk5 (pmk5_nfH (k := 0) (te := tC (.str z)) nf iC tI (L2H.roomH_mark (g.room.mono g.k2) _) hot (fun _ _ _ _ m q => m _ _ q) (g.gl hf1) ef.mgx pe_str n2 rfl)) fun D τ H q => ?_)
      exact ⟨z, rfl, q.1, q.2⟩
    · obtain ⟨hlen, hw⟩ := (show z.length ≤ 1000000 ∧ (match σ[i]? with
        | some (some d) => Γ gn [d] S (fun r S1 => wG t' r σ fun σ' => N.nx σ' S1) (fun x S1 => (match (subOf T y2).lookup x.cls with
          | some c => c = true ∧ N.xr ⟨f, [("word", .str z)]⟩ σ S1
          | none => False))
        | _ => False) from hw)
      split at hw
      case h_2 => exact hw.elim
      case h_1 d hd =>
        refine ⟨σ, S, F, { N with xr := fun x σ' S1 => σ' = σ ∧ (match (subOf T y2).lookup x.cls with
          | some c => c = true ∧ N.xr ⟨f, [("word", .str z)]⟩ σ S1
          | none => False) }, rel, rs, ?_, lk.nx, lk.rt, lk.bk, lk.ct, fun x σ1 S1 τ1 c dx H1 q e1 rel1 rs1 rx1 => ?_⟩
        · show (match σ[i]? with
            | some (some d) => Γ gn [d] S (fun r S1 => wG t' r σ fun σ' => N.nx σ' S1) (fun x S1 => σ = σ ∧ (match (subOf T y2).lookup x.cls with
              | some c => c = true ∧ N.xr ⟨f, [("word", .str z)]⟩ σ S1
              | none => False))
            | _ => False)
          rw [hd]
          have e : (fun (x : Exc) S1 => σ = σ ∧ (match (subOf T y2).lookup x.cls with
            | some c => c = true ∧ N.xr ⟨f, [("word", .str z)]⟩ σ S1
            | none => False)) = fun (x : Exc) S1 => (match (subOf T y2).lookup x.cls with
            | some c => c = true ∧ N.xr ⟨f, [("word", .str z)]⟩ σ S1
            | none => False) := by
            funext x S1
            exact propext ⟨fun w => w.2, fun w => ⟨rfl, w⟩⟩
          show Γ gn [d] S _ (fun (x : Exc) S1 => σ = σ ∧ (match (subOf T y2).lookup x.cls with
            | some c => c = true ∧ N.xr ⟨f, [("word", .str z)]⟩ σ S1
            | none => False))
          rw [e]
          exact hw
        · obtain ⟨eσ, q⟩ := q
          subst eσ
          split at q
          case h_1 cb hcb =>
            obtain ⟨hb, q⟩ := q
            subst hb
            have sf2 := g.lk.sub _ _ _ (sub_mem hcb)
            refine ⟨true, by rw [rx1.1]; exact sf2.exm, fun _ a ha => ⟨hlen, fun dd hdd => ?_⟩, fun z => nomatch z⟩
            refine lk.xr _ _ _ _ _ _ _ q (e1.trans (.new hdd)) (rel1.tup hdd) (rs1.ext (.new hdd)) ⟨rfl, _, upd_same, ?_⟩
            rw [RF]
            exact ⟨.str z, [], rfl, by rw [RD]; exact ⟨rfl, hz⟩, by rw [RF]⟩
          case h_2 => exact q.elim
  case h_13 =>
    cases h
    exact PS.imp ps_doc fun D τ H ⟨σ, S, F, N, rel, rs, hw, lk⟩ => lk.nx _ _ _ _ hw .refl rel rs
  case h_14 e pos _ hn =>
    cases hn
    simp only [bind, Option.bind_eq_some_iff, pure, Option.some.injEq] at h
    obtain ⟨_, h1, e', h2, rfl⟩ := h
    rw [gd_some] at h1
    have hsw : swapsWith e none pos.line X.env = pure false := by cases e <;> first | rfl | cases h1
    refine PS.imp (ps_expr (hA.e X W _ _ g e e' h2) hsw) fun D τ H ⟨σ, S, F, N, rel, rs, hw, lk⟩ => ?_
    exact ⟨σ, S, F, _, _, rel, rs, hw, fun d S1 x H1 q e1 r rd => lk.nx _ _ _ _ q e1 r (rs.ext e1), lk.kxs rs⟩
  case h_15 e pos hn =>
    cases hn
    simp only [Option.map_eq_some_iff] at h
    obtain ⟨e', h1, rfl⟩ := h
    refine PS.imp (ps_ret (hA.e X W _ _ g e e' h1)) fun D τ H ⟨σ, S, F, N, rel, rs, hw, lk⟩ => ?_
    exact ⟨σ, S, F, _, _, rel, rs, hw, fun d S1 x H1 q e1 r rd => lk.rt _ _ _ _ q e1 r rd, lk.kxs rs⟩
  case h_16 =>
    cases h
    exact PS.imp ps_retN fun D τ H ⟨σ, S, F, N, rel, rs, hw, lk⟩ => lk.rt _ _ _ _ hw .refl rel .non
  case h_17 =>
    cases h
    exact PS.imp ps_pass fun D τ H ⟨σ, S, F, N, rel, rs, hw, lk⟩ => lk.nx _ _ _ _ hw .refl rel rs
  case h_18 =>
    cases h
    exact PS.imp ps_break fun D τ H ⟨σ, S, F, N, rel, rs, hw, lk⟩ => lk.bk _ _ _ _ hw .refl rel rs
  case h_19 =>
    cases h
    exact PS.imp ps_continue fun D τ H ⟨σ, S, F, N, rel, rs, hw, lk⟩ => lk.ct _ _ _ _ hw .refl rel rs
  case h_20 t a b pos hn =>
    cases hn
    simp only [bind, Option.bind_eq_some_iff, pure, Option.some.injEq] at h
    obtain ⟨t', h1, a', h2, b', h3, rfl⟩ := h
    refine PS.imp (ps_if (hA.t X W _ _ g t t' h1) (hSs X W _ g st a a' h2 (po.imp id fun z => (Bool.and_eq_true _ _ ▸ (show (nrSs a' && nrSs b') = true from z)).1)) (hSs X W _ g st b b' h3 (po.imp id fun z => (Bool.and_eq_true _ _ ▸ (show (nrSs a' && nrSs b') = true from z)).2))) fun D τ H ⟨σ, S, F, N, rel, rs, hw, lk⟩ => ?_
    refine ⟨σ, S, F, _, _, rel, rs, hw, fun c S1 H1 q e1 r => ?_, lk.kxs rs⟩
    cases c with
    | true => exact ⟨σ, S1, F, N, r, rs.ext e1, q, lk.ext e1⟩
    | false => exact ⟨σ, S1, F, N, r, rs.ext e1, q, lk.ext e1⟩
  case h_21 t b pos hn =>
    cases hn
    simp only [bind, Option.bind_eq_some_iff, pure, Option.some.injEq] at h
    obtain ⟨t', h1, b', h2, rfl⟩ := h
    exact PS.imp (ps_while g.po (hA.t X W _ _ g t t' h1) (hSs X W _ g st b b' h2 (po.imp id fun z => z))) fun D τ H q => while_conv q
  case h_22 tg it b pos hn =>
    cases hn
    simp only [bind, Option.bind_eq_some_iff, pure, Option.some.injEq] at h
    obtain ⟨_, h0, tg', h1, it', h2, _, h7, b', h3, rfl⟩ := h
    have hs : ∀ x, foldedSetIterable it X.env x = pure x := by
      rw [gd_some] at h0
      intro x
      cases it <;> first | rfl | cases h0
    rw [gd_some] at h7
    have hwk : wkI it' = true → tupX tg = true := fun q => by
      rw [q] at h7
      exact h7
    have hwg : wkI it' = true → ∃ ts, tg' = .tup ts := fun q => by
      have h8 := hwk q
      cases n with
      | zero => simp [cG] at h1
      | succ n =>
        cases tg <;> first | (cases h8; done) | skip
        simp only [cG, Option.map_eq_some_iff] at h1
        obtain ⟨ts, _, e⟩ := h1
        exact ⟨ts, e.symm⟩
    exact PS.imp (ps_for g.po g.calm (hA.i X W _ _ g tg it it' h2 hwk) (sG g n tg tg' _ h1 hwg) (hSs X W _ g st b b' h3 (po.imp id fun z => z)) hs) fun D τ H q => for_conv q
  case h_23 => cases h
theorem ss2 : ∀ n, SS T N Γ G k n ∧ SSs T N Γ G k n
  | 0 => ⟨fun X W sc g st s c h => by simp [cS] at h, fun X W sc g st s c h => by simp [cSs] at h⟩
  | n + 1 => by
    obtain ⟨h1, h2⟩ := ss2 n
    exact ⟨stepS (all (n - 1)) (all n) h2, stepSs h1 h2⟩
theorem cSs_sound {n : Nat} {X : Cx} {W : WX} {sc : Scope} (g : Gd T N Γ G X W sc (fun _ => true) k) (st : Stk X) {s : List PySem.Stmt} {c : Ss} (h : cSs T N n sc s = some c) (po : PoA X ∨ nrSs c = true) : PSs X s (LS X.K W (wSs Γ G c)) := (ss2 n).2 X W sc g st s c h po
end Mi
namespace Mi
open PySem PySem.Spec PyProof.Rows L2
structure Dn where
  d : He.DefD
  ps : List Str
  N : List Str
  body : Ss
def startD (n : Nat) (ds : List D) : En := ds.map some ++ List.replicate (n - ds.length) none
def Gam (bd : Str → Option (Nat × Nat × Ss)) (G : Str → Option D) : Nat → Str → FS
  | 0, _ => fun _ _ _ _ => False
  | k + 1, f => fun ds S Q X => (match bd f with
    | some (np, nn, b) => ds.length = np ∧ wSs (Gam bd G k) G b ⟨fun _ S' => ∃ S0 : Sto, S0.le S' ∧ Q .non S0, fun d S' => ∃ S0 : Sto, S0.le S' ∧ Q d S0, fun _ _ => False, fun _ _ => False, fun x _ S' => ∃ S0 : Sto, S0.le S' ∧ X x S0⟩ (startD nn ds) S
    | none => False)
theorem RDs.getSome {K : PySem.W.Frag} {H : Hp} {ds : List D} {vs : List V} (h : RDs K H ds vs) (n : Nat) : RS K H (startD n ds) ((vs.map some ++ List.replicate (n - vs.length) none : L2.St)) := by
  have hl := h.length
  refine ⟨by unfold startD; simp [hl], fun i d e => ?_⟩
  unfold startD at e
  by_cases hi : i < ds.length
  · rw [List.getElem?_append_left (by simpa using hi), List.getElem?_map, Option.map_eq_some_iff] at e
    obtain ⟨d', e1, e2⟩ := e
    cases e2
    obtain ⟨v, e3, r⟩ := h.get e1
    exact ⟨v, by rw [List.getElem?_append_left (by simp; omega), List.getElem?_map, e3]; rfl, r⟩
  · rw [List.getElem?_append_right (by simpa using hi), List.getElem?_replicate] at e
    split at e
    case isTrue => cases e
    case isFalse => cases e
section
variable {P : Program} {w : World} {K : PySem.W.Frag} {mg : Str → Option Value} {base : Heap} {T : Tb} {G : Str → Option D}
structure DnOk (T : Tb) (x : Dn) : Prop where
  sc : FnScope x.N x.ps x.d.scope
  comp : ∃ n, cSs T x.N n x.d.scope x.d.body = some x.body
  bnd : ∀ (kV doc pm : Value) (an : Option Addr) (cdv ct : Value) (us : List Value), us.length = x.ps.length → bindArgs (PySem.W.fnOf x.d.name x.d.qual x.d.params x.d.body x.d.scope .none kV doc pm an cdv ct) ⟨us, []⟩ = pure (x.ps.zip us)
abbrev DnD (K : PySem.W.Frag) (x : Dn) (f : Addr) (fd : FuncData) : Prop := FunD K x.d.name x.d.qual x.d.params x.d.body x.d.scope [] [] f fd
theorem prog_ok {bd : Str → Option (Nat × Nat × Ss)} {fs : List Dn} (st : ∀ d ∈ fs, DnOk T d) (hbd : ∀ d ∈ fs, bd d.d.qual = some (d.ps.length, d.N.length, d.body))
    (hT : ∀ x : Str, T.fns.contains x = true → ∃ d ∈ fs, d.d.qual = x ∧ ∃ f fd, mg x = some (.ref f) ∧ DnD K d f fd) (free : ∀ x : Str, T.free.contains x = true → mg x = none) (mfn : ∀ (x : Str) (b : Bl), T.mfn.contains x = true → mfOf x = some b → mg x = some (blV b))
    (glob : ∀ (x : Str) (d : D), T.glob.contains x = true → G x = some d → ∃ v u, mg x = some u ∧ RelV v u ∧ ∀ H, RD K H d v)
    (exc : ∀ x : Str, T.exc.contains x = true → ExcF P K mg x) (sub : ∀ (x c : Str) (b : Bool), (x, c, b) ∈ T.sub → SubF K mg x c b)
    (fld : ∀ C f : Str, (C, f) ∈ T.fld → Cls K (gAd K C) ∧ NoAttr K (gAd K C) f)
    (mth : ∀ C m key : Str, (C, m, key) ∈ T.mth → Cls K (gAd K C) ∧ ∃ d ∈ fs, d.d.qual = key ∧ ∃ f fd, Meth K (gAd K C) m f ∧ DnD K d f fd)
    (mks : ∀ C key : Str, (C, key) ∈ T.mks → mg C = some (.ref (gAd K C)) ∧ ∃ d ∈ fs, d.d.qual = key ∧ ∃ f fd, Mk K (gAd K C) f ∧ DnD K d f fd)
    (cln : ∀ (k : Nat) (x : Str), T.cln.contains x = true → ∃ f fd ps, mg x = some (.ref f) ∧ PySem.W.keepIn K (.ref f) = true ∧ Binds K fd ps [] ∧ FnOk P w K mg base (L2N.CX P w) (2 * k + 2) f fd ps (LF K (Gam bd G k x))) :
    ∀ (k : Nat) (d : Dn), d ∈ fs → ∀ f fd, DnD K d f fd → FnOk P w K mg base (CXM T.md P w) (2 * k + 2) f fd d.ps (LF K (Gam bd G k d.d.qual))
  | 0, d, hd, f, fd, F => ⟨fun vs H Q E h => by obtain ⟨ds, S, F, Qd, Xd, rel, rds, g, _⟩ := h; exact g.elim, fun A outer s H args us vs Q E hr e0 hb r h => by obtain ⟨ds, S, F, Qd, Xd, rel, rds, g, _⟩ := h; exact g.elim⟩
  | k + 1, d, hd, f, fd, F => by
    have S0 := st d hd
    have hb0 := hbd d hd
    have len : ∀ vs H Q E, LF K (Gam bd G (k + 1) d.d.qual) vs H Q E → vs.length = d.ps.length := fun vs H Q E h => by
      obtain ⟨ds, S, F, Qd, Xd, rel, rds, g, _⟩ := h
      unfold Gam at g
      rw [hb0] at g
      rw [rds.length]
      exact g.1
    show FnOk P w K mg base (CXM T.md P w) ((2 * k + 3) + 1) f fd d.ps (LF K (Gam bd G (k + 1) d.d.qual))
    refine F.ok S0.sc len fun cdv A outer s H vs Q E hr h => ?_
    obtain ⟨n, hc⟩ := S0.comp
    have lk : Link P w K mg base T (Gam bd G k) G (2 * k + 2) := ⟨free, mfn, glob, fun x hx => by
      obtain ⟨d', hd', rfl, f', fd', h1, h2⟩ := hT x hx
      exact ⟨f', fd', d'.ps, h1, h2.kp, h2.bindsN (st d' hd').bnd, prog_ok st hbd hT free mfn glob exc sub fld mth mks cln k d' hd' f' fd' h2⟩, fun x hx => cln k x hx, exc, sub, fld, fun C m key hk => by
      obtain ⟨c1, d', hd', rfl, f', fd', h1, h2⟩ := mth C m key hk
      exact ⟨c1, f', fd', d'.ps, h1, h2.bindsN (st d' hd').bnd, prog_ok st hbd hT free mfn glob exc sub fld mth mks cln k d' hd' f' fd' h2⟩, fun C key hk => by
      obtain ⟨c1, d', hd', rfl, f', fd', h1, h2⟩ := mks C key hk
      exact ⟨c1, f', fd', d'.ps, h1, h2.bindsN (st d' hd').bnd, prog_ok st hbd hT free mfn glob exc sub fld mth mks cln k d' hd' f' fd' h2⟩⟩
    have tkOf : ∀ {md : Bool}, TkM md (cxOf (CXM md P w) P w K mg base d.N d.d.qual d.d.scope f cdv A outer s H E) (fun c dx _ H' => E c dx H') := fun {md} => by
      cases md
      · exact L2.takes_of rfl rfl rfl rfl
      · exact L2N.takes_of rfl rfl rfl rfl
    have g : Gd T d.N (Gam bd G k) G (cxOf (CXM T.md P w) P w K mg base d.N d.d.qual d.d.scope f cdv A outer s H E) (fun c dx _ H' => E c dx H') d.d.scope (fun _ => true) (2 * k + 2) :=
      ⟨rfl, rfl, S0.sc.nd, S0.sc.kind, hr.mono (Nat.le_succ _), hr, by omega, rfl, tkOf, L2.passes_of rfl, fun _ _ => rfl, lk⟩
    refine ⟨_, cSs_sound g ⟨rfl, rfl⟩ hc (.inl (L2H.passesAt_of rfl)), ?_⟩
    obtain ⟨ds, S, F', Qd, Xd, rel, rds, gg, kv, kx⟩ := h
    unfold Gam at gg
    rw [hb0] at gg
    obtain ⟨hl, gg⟩ := gg
    refine ⟨_, S, F', _, rel, rds.getSome d.N.length, gg, ?_⟩
    refine ⟨fun σ S' τ H' q e r rs => ?_, fun dd S' v H' q e r rd => ?_, fun _ _ _ _ q => q.elim, fun _ _ _ _ q => q.elim, fun x σ S' τ c dx H' q e r rs rx => ?_⟩
    · obtain ⟨S1, l, q⟩ := q
      exact kv _ _ _ _ q e (r.less l) .non
    · obtain ⟨S1, l, q⟩ := q
      exact kv _ _ _ _ q e (r.less l) rd
    · obtain ⟨S1, l, q⟩ := q
      exact kx _ _ _ _ _ q e (r.less l) rx
theorem script_rd {H : Hp} {a : Addr} {ns : List Int} (hO : Only H) (h : SqL K H a (ns.map V.int)) : RD K H (.rl (ns.map D.int)) (.ref a) := by
  rw [RD]
  refine ⟨a, _, rfl, ?_, RDs.ofInts ns⟩
  rcases h with (h | h) | h
  · rcases hO a with z | ⟨o, xs, z⟩
    · rw [h] at z; cases z
    · rw [h] at z; cases z
  · exact .inl h
  · exact .inr h
theorem empty_rel {H : Hp} : Rel K (fun _ => none) (fun _ => none) H := ⟨(fun _ _ e => by cases e), (fun _ _ e => by cases e), (fun _ _ e => by cases e)⟩
end
end Mi
namespace Mi
open PySem PySem.Spec PyProof.Rows L2
theorem law_walk {l : PySem.W.OpenLaw} {n k : Nat} {q : Program} {loose : List Str} {XP : (Str → Option Value) → Heap → Prop} {YP : World → Heap → Prop} {d : DefRec} {x : Str}
    (hn : l.most = some n) (hn2 : n ≤ sizeLine) (hdf : d.params.defaults = []) (hr : Room k callerA)
    (F : ∀ (w : World) (mg : Str → Option Value) (fa : Addr) (h : Heap), YP w h → h.Ns mainGlobals mg → mg d.name = some (.ref fa) →
      ∃ (K : PySem.W.Frag) (fd : FuncData) (sp : Sp), K.In h ∧ (∀ (s : Shared) (u : Value), BindsTo s fd ⟨[u], []⟩ [(x, u)]) ∧
        (∀ (H : Hp) (a : Addr) (ns : List Int), ns.length ≤ n → Only H → SqL K H a (ns.map V.int) → sp [.ref a] H (fun v _ => v = .bl true) fun _ _ _ => False) ∧
        ∀ base : Heap, K.In base → base.Ns mainGlobals mg → FnOk l.prog w K mg base (L2.CX l.prog w) k fa fd [x] sp) :
    PySem.W.WalkO q loose XP YP l.row.toRowW d [] (fun f vs => PySem.call f vs) := by
  refine Att.attach_call hn hdf fun w s₀ s₁ mg mb fa o pm cd doc a vs ns G Y ho hd hcd hmg hobj hints hlen hg => ?_
  obtain ⟨K, fd, sp, KX, hb, hsp, hF⟩ := F w mg fa _ Y G.T.g hmg
  refine law_call KX G.T.g G.T.b G.T.builtins G.T.nolimit hg hobj hints (Nat.le_trans hlen hn2) hr hF hb (fun H hO hS => hsp H a ns hlen hO hS) fun H e s' c => ?_
  obtain ⟨_, _, _, _, _, _, _, _, _, _, _, _, z⟩ := c
  exact z
end Mi
namespace Mi
open PySem PySem.Spec PyProof.Rows L2
theorem gam {bd : Str → Option (Nat × Nat × Ss)} {G : Str → Option D} {f : Str} {np nn : Nat} {b : Ss} (h : bd f = some (np, nn, b)) {k : Nat} {ds : List D} {S : Sto} {Q : KD} {X : KX} (hl : ds.length = np)
    (w : wSs (Gam bd G k) G b ⟨fun _ S' => ∃ S0 : Sto, S0.le S' ∧ Q .non S0, fun d S' => ∃ S0 : Sto, S0.le S' ∧ Q d S0, fun _ _ => False, fun _ _ => False, fun x _ S' => ∃ S0 : Sto, S0.le S' ∧ X x S0⟩ (startD nn ds) S) : Gam bd G (k + 1) f ds S Q X := by
  unfold Gam
  rw [h]
  exact ⟨hl, w⟩
theorem forL_inv {tg : Tg} {b : De → En → Sto → Prop} {chk : Sto → Prop} {N : De} (l : List D) (I : Nat → En → Sto → Prop) (hchk : ∀ i σ S, I i σ S → chk S)
    (step : ∀ i d σ S (NX : En → Sto → Prop), l[i]? = some d → I i σ S → (∀ σ' S', I (i + 1) σ' S' → NX σ' S') → wG tg d σ fun σ' => b { N with nx := NX, ct := NX, bk := N.nx } σ' S)
    (fin : ∀ σ S, I l.length σ S → N.nx σ S) {σ : En} {S : Sto} (h0 : I 0 σ S) : forL tg b chk l N σ S := by
  have key : ∀ (r : List D) (i : Nat), l.drop i = r → i ≤ l.length → ∀ σ S, I i σ S → forL tg b chk r N σ S := by
    intro r
    induction r with
    | nil =>
      intro i hd hi σ S h
      have e : i = l.length := by
        have := congrArg List.length hd
        rw [List.length_drop, List.length_nil] at this
        omega
      subst e
      exact ⟨hchk _ _ _ h, fin _ _ h⟩
    | cons d r ih =>
      intro i hd hi σ S h
      have hl : i < l.length := by
        have := congrArg List.length hd
        rw [List.length_drop, List.length_cons] at this
        omega
      have he : l[i]? = some d := by
        have := List.drop_eq_getElem_cons hl
        rw [hd] at this
        injection this with e1 e2
        rw [List.getElem?_eq_getElem hl, e1]
      have hr : l.drop (i + 1) = r := by
        have := List.drop_eq_getElem_cons hl
        rw [hd] at this
        injection this with e1 e2
        exact e2.symm
      exact ⟨hchk _ _ _ h, step i d σ S _ he h fun σ' S' h' => ih (i + 1) hr hl σ' S' h'⟩
  exact key l 0 rfl (Nat.zero_le _) σ S h0
theorem cmpL_pure {tg : Tg} {c : En → Sto → (Bool → Sto → Prop) → Prop} {e : En → Sto → KD → Prop} {chk : Sto → Prop} {σ : En} {S : Sto} (g : D → Option D) (hc : chk S) : ∀ {l : List D} {Q : List D → Sto → Prop},
    (∀ d ∈ l, ∀ P : Option D → Sto → Prop, P (g d) S → wG tg d σ fun σ' => c σ' S fun b S1 => if b = true then e σ' S1 fun v S2 => P (some v) S2 else P none S1) → Q (l.filterMap g) S → cmpL tg c e chk l σ S Q
  | [], Q, h, q => ⟨hc, q⟩
  | d :: l, Q, h, q => by
    refine ⟨hc, h d (List.mem_cons_self ..) (fun o S2 => match o with | some v => cmpL tg c e chk l σ S2 fun vs S3 => Q (v :: vs) S3 | none => cmpL tg c e chk l σ S2 Q) ?_⟩
    rw [List.filterMap_cons] at q
    cases hg : g d with
    | none =>
      rw [hg] at q
      exact cmpL_pure g hc (fun d' hd => h d' (List.mem_cons_of_mem _ hd)) q
    | some v =>
      rw [hg] at q
      exact cmpL_pure g hc (fun d' hd => h d' (List.mem_cons_of_mem _ hd)) q
theorem Sto.le_set {S S' : Sto} {p : Addr} {c c' : Cell} (h : (S.upd p c).le S') : (S.upd p c').le (S'.upd p c') := fun a x e => by
  by_cases ha : a = p
  · subst ha; rw [Sto.upd_same] at e ⊢; exact e
  · rw [Sto.upd_ne ha] at e ⊢
    exact h a x (by rw [Sto.upd_ne ha]; exact e)
theorem Sto.le_new' {A S' : Sto} {p : Addr} {c : Cell} (h : A.le S') (e : S' p = none) : A.le (S'.upd p c) := fun a x q => by
  have := h a x q
  rw [Sto.upd_ne (Sto.ne_of this e)]
  exact this
theorem Sto.le_at {S S' : Sto} {p : Addr} {c : Cell} (h : (S.upd p c).le S') : S' p = some c := h p c Sto.upd_same
theorem Sto.le_of {S S' : Sto} {p : Addr} {c : Cell} (e : S p = none) (h : (S.upd p c).le S') : S.le S' := fun a x q => h a x (by rw [Sto.upd_ne (Sto.ne_of q e)]; exact q)
def Sto.off (a : Addr) (S S' : Sto) : Prop := ∀ b c, b ≠ a → S b = some c → S' b = some c
theorem Sto.off.refl {a : Addr} {S : Sto} : S.off a S := fun _ _ _ h => h
theorem Sto.off.trans {a : Addr} {S S1 S2 : Sto} (h : S.off a S1) (g : S1.off a S2) : S.off a S2 := fun b c hb e => g b c hb (h b c hb e)
theorem Sto.off.new {a p : Addr} {S S1 : Sto} {c : Cell} (h : S.off a S1) (e : S1 p = none) : S.off a (S1.upd p c) := fun b x hb q => by
  have := h b x hb q
  rw [Sto.upd_ne (Sto.ne_of this e)]; exact this
theorem Sto.off.set {a : Addr} {S S1 : Sto} {c : Cell} (h : S.off a S1) : S.off a (S1.upd a c) := fun b x hb q => by rw [Sto.upd_ne hb]; exact h b x hb q
theorem Sto.off.same {a : Addr} {S S1 : Sto} {p : Addr} {c c' : Cell} (h : S.off a S1) (e : S p = none) : S.off a (S1.upd p c') := fun b x hb q => by
  rw [Sto.upd_ne (Sto.ne_of q e)]; exact h b x hb q
def ok : Nat → D → Bool
  | 0, d => (match d with | .int _ => true | .str _ => true | _ => false)
  | n + 1, d => (match d with | .int _ => true | .str _ => true | .tup l => decide (l.length ≤ 10000000) && l.all (ok n) | _ => false)
theorem ok_int {n : Nat} {i : Int} : ok n (.int i) = true := by cases n <;> rfl
theorem ok_str {n : Nat} {i : Str} : ok n (.str i) = true := by cases n <;> rfl
theorem ok_tup {n : Nat} {l : List D} : ok (n + 1) (.tup l) = true ↔ l.length ≤ 10000000 ∧ ∀ d ∈ l, ok n d = true := by
  show (decide (l.length ≤ 10000000) && l.all (ok n)) = true ↔ _
  rw [Bool.and_eq_true, decide_eq_true_eq, List.all_eq_true]
theorem ok_mk {n : Nat} {l : List D} (h : l.length ≤ 10000000) (g : ∀ d ∈ l, ok n d = true) : ok (n + 1) (.tup l) = true := ok_tup.mpr ⟨h, g⟩
theorem ok_mono : ∀ {n m : Nat} {d : D}, n ≤ m → ok n d = true → ok m d = true
  | 0, m, d, _, h => by cases d <;> first | (cases h; done) | exact ok_int | exact ok_str
  | n + 1, 0, d, hn, _ => absurd hn (by omega)
  | n + 1, m + 1, d, hn, h => by
    cases d with
    | int i => rfl
    | str i => rfl
    | tup l =>
      rw [ok_tup] at h ⊢
      exact ⟨h.1, fun x hx => ok_mono (by omega) (h.2 x hx)⟩
    | _ => cases h
theorem ok_dep : ∀ {n : Nat} {d : D}, ok n d = true → D.dep d ≤ n
  | 0, d, h => by cases d <;> first | (cases h; done) | simp [D.dep]
  | n + 1, d, h => by
    cases d with
    | int i => simp [D.dep]
    | str i => simp [D.dep]
    | tup l =>
      rw [ok_tup] at h
      rw [D.dep]
      have : ∀ (l : List D), (∀ x ∈ l, ok n x = true) → D.deps l ≤ n := by
        intro l
        induction l with
        | nil => intro _; simp [D.deps]
        | cons x l ih =>
          intro hx
          rw [D.deps]
          have h1 := ok_dep (hx x (List.mem_cons_self ..))
          have h2 := ih fun y hy => hx y (List.mem_cons_of_mem _ hy)
          omega
      have := this l h.2
      omega
    | _ => cases h
theorem line : sizeLine = 16777216 := sizeLine_eq
section
variable {S : Sto} {Q : KD} {X : KX} {a b : Addr} {d d0 d1 d2 d3 d4 d5 d6 : D} {l m : List D} {i j : Int} {x y z : Str} {QB : Bool → Prop} {kvs : List (D × D)}
theorem opAddI : opR .add (.int i) (.int j) S Q = Q (.int (i + j)) S := rfl
theorem opSubI : opR .sub (.int i) (.int j) S Q = Q (.int (i - j)) S := rfl
theorem opMulI : opR .mul (.int i) (.int j) S Q = (CMulW i j ∧ Q (.int (i * j)) S) := rfl
theorem opDivI : opR .fdiv (.int i) (.int j) S Q = (CDivW i j ∧ Q (.int (i / j)) S) := rfl
theorem opModI : opR .mod (.int i) (.int j) S Q = (0 < j ∧ Q (.int (i % j)) S) := rfl
theorem opPowI : opR .pow (.int i) (.int j) S Q = (CPow i j ∧ Q (.int (i ^ j.toNat)) S) := rfl
theorem opAddT : opR .add (.tup l) (.tup m) S Q = (l.length + m.length ≤ sizeLine ∧ Q (.tup (l ++ m)) S) := rfl
theorem opAddL (h : S a = some (.lst l)) (g : S b = some (.lst m)) : opR .add (.ref a) (.ref b) S Q = (l.length + m.length ≤ sizeLine ∧ ∀ p, S p = none → Q (.ref p) (S.upd p (.lst (l ++ m)))) := by
  show (match S a, S b with | some (.lst x), some (.lst y) => _ | _, _ => False) = _
  rw [h, g]
theorem cmEq : cmR .eq d d1 S QB = eqR d d1 S QB := rfl
theorem cmNe : cmR .ne d d1 S QB = eqR d d1 S fun b => QB (!b) := rfl
theorem cmLt : cmR .lt (.int i) (.int j) S QB = QB (decide (i < j)) := rfl
theorem cmLe : cmR .le (.int i) (.int j) S QB = QB (decide (i ≤ j)) := rfl
theorem cmGt : cmR .gt (.int i) (.int j) S QB = QB (decide (j < i)) := rfl
theorem cmGe : cmR .ge (.int i) (.int j) S QB = QB (decide (j ≤ i)) := rfl
theorem cmIn : cmR .isin d d1 S QB = Mi.inR d d1 S QB := rfl
theorem eqI : eqR (.int i) (.int j) S QB = QB (decide (i = j)) := by
  simp only [eqR, plainR, D.pure, if_true, D.dep, D.eqv]
  simp [Bool.beq_eq_decide_eq]
theorem eqS : eqR (.str x) (.str y) S QB = QB (decide (x = y)) := by
  simp only [eqR, plainR, D.pure, if_true, D.dep, D.eqv]
  simp [Bool.beq_eq_decide_eq]
theorem inS2 : Mi.inR (.str x) (.tup [.str y, .str z]) S QB = QB (decide (x = y ∨ x = z)) := by
  simp only [Mi.inR, flatD, List.all_cons, List.all_nil, inD, List.any_cons, List.any_nil, D.eqv]
  simp [Bool.beq_eq_decide_eq, eq_comm]
theorem truB {b : Bool} {QB : Bool → Prop} : truR (.bl b) S QB = QB b := rfl
theorem atIk {α : Type} {l : List α} {d : α} (n : Nat) {i : Int} (e : i = (n : Int)) (h : l[n]? = some d) : atI l i = some d := by
  have hn : n < l.length := (List.getElem?_eq_some_iff.mp h).1
  have hi : ixN l.length i = some n := by
    unfold ixN
    rw [if_pos (by omega), if_pos (by omega)]
    congr 1
    omega
  unfold atI
  rw [hi]
  exact h
theorem ixT (h : atI l i = some d) : ixR (.tup l) (.int i) S Q = Q d S := by simp only [ixR, h]
theorem ixT0 : ixR (.tup (d0 :: l)) (.int 0) S Q = Q d0 S := ixT (atIk 0 rfl rfl)
theorem ixT1 : ixR (.tup (d0 :: d1 :: l)) (.int 1) S Q = Q d1 S := ixT (atIk 1 rfl rfl)
theorem ixT2 : ixR (.tup (d0 :: d1 :: d2 :: l)) (.int 2) S Q = Q d2 S := ixT (atIk 2 rfl rfl)
theorem ixT3 : ixR (.tup (d0 :: d1 :: d2 :: d3 :: l)) (.int 3) S Q = Q d3 S := ixT (atIk 3 rfl rfl)
theorem ixT4 : ixR (.tup (d0 :: d1 :: d2 :: d3 :: d4 :: l)) (.int 4) S Q = Q d4 S := ixT (atIk 4 rfl rfl)
theorem ixT6 : ixR (.tup (d0 :: d1 :: d2 :: d3 :: d4 :: d5 :: d6 :: l)) (.int 6) S Q = Q d6 S := ixT (atIk 6 rfl rfl)
theorem ixL (h : S a = some (.lst l)) (g : atI l i = some d) : ixR (.ref a) (.int i) S Q = Q d S := by simp only [ixR, h, g]
theorem ixD (h : S a = some (.dct kvs)) (hk : (keyD d).isSome = true) (g : dget kvs d = some d0) : ixR (.ref a) d S Q = Q d0 S := by
  cases d <;> simp only [ixR, h, g, keyOk, hk, true_and]
theorem setL {Q : Sto → Prop} {n : Nat} (h : S a = some (.lst l)) (e : i = (n : Int)) (hn : n < l.length) : setR (.ref a) (.int i) d S Q = Q (S.upd a (.lst (l.set n d))) := by
  have hi : ixN l.length i = some n := by
    unfold ixN
    rw [if_pos (by omega), if_pos (by omega)]
    congr 1
    omega
  simp only [setR, h, hi]
theorem setD {Q : Sto → Prop} (h : S a = some (.dct kvs)) (hk : (keyD d0).isSome = true) : setR (.ref a) d0 d S Q = (kvs.length < sizeLine ∧ Q (S.upd a (.dct (dput kvs d0 d)))) := by
  simp only [setR, h, keyOk, hk, true_and]
theorem slcT {lo hi : Option Int} : slcR (.tup l) lo hi S Q = Q (.tup (cutD l lo hi)) S := rfl
theorem lenT : bltR .len [.tup l] S Q = Q (.int l.length) S := rfl
theorem lenL (h : S a = some (.lst l)) : bltR .len [.ref a] S Q = Q (.int l.length) S := by simp only [bltR, h, bllR]
theorem absI : bltR .abs [.int i] S Q = Q (.int (if i < 0 then -i else i)) S := rfl
theorem intI : bltR .int [.int i] S Q = Q (.int i) S := rfl
theorem tupleT : bltR .tuple [.tup l] S Q = Q (.tup l) S := rfl
theorem tupleL (h : S a = some (.lst l)) : bltR .tuple [.ref a] S Q = Q (.tup l) S := by simp only [bltR, h, bllR]
theorem listT : bltR .list [.tup l] S Q = ∀ p, S p = none → Q (.ref p) (S.upd p (.lst l)) := rfl
theorem listRl : bltR .list [.rl l] S Q = ∀ p, S p = none → Q (.ref p) (S.upd p (.lst l)) := rfl
theorem listL (h : S a = some (.lst l)) : bltR .list [.ref a] S Q = ∀ p, S p = none → Q (.ref p) (S.upd p (.lst l)) := by simp only [bltR, h]
theorem dictT (h : asPairs l = some kvs) (hk : kvs.all (fun kv => (keyD kv.1).isSome) = true) : bltR .dict [.tup l] S Q = ∀ p, S p = none → Q (.ref p) (S.upd p (.dct (dmerge [] kvs))) := by simp only [bltR, h, hk, true_and]
theorem appL (h : S a = some (.lst l)) : mthR .append (.ref a) [d] S Q = (l.length < sizeLine ∧ Q .non (S.upd a (.lst (l ++ [d])))) := by simp only [mthR, h]
theorem extL (h : S a = some (.lst l)) (g : S b = some (.lst m)) : mthR .extend (.ref a) [.ref b] S Q = (l.length + m.length ≤ sizeLine ∧ Q .non (S.upd a (.lst (l ++ m)))) := by simp only [mthR, h, g]
theorem extT (h : S a = some (.lst l)) : mthR .extend (.ref a) [.tup m] S Q = (l.length + m.length ≤ sizeLine ∧ Q .non (S.upd a (.lst (l ++ m)))) := by simp only [mthR, h]
theorem getDt (h : S a = some (.dct kvs)) (hk : (keyD d).isSome = true) : mthR .get (.ref a) [d, d0] S Q = Q ((dget kvs d).getD d0) S := by simp only [mthR, h, keyOk, hk, true_and]
theorem mtyA (h : S a = some (.lst l)) : mtyR .append (.ref a) S = true := by simp only [mtyR, h]
theorem mtyE (h : S a = some (.lst l)) : mtyR .extend (.ref a) S = true := by simp only [mtyR, h]
theorem mtyG (h : S a = some (.dct kvs)) : mtyR .get (.ref a) S = true := by simp only [mtyR, h]
theorem itT {Q : KI} : itR (.tup l) S Q = Q l (fun _ => True) S := rfl
theorem itL {Q : KI} (h : S a = some (.lst l)) : itR (.ref a) S Q = Q l (fun S' => S' a = some (.lst l)) S := by simp only [itR, h]
theorem isi1 {t : Ty} {b : Bool} (h : isT t d S = some b) : (match [t].mapM (fun t => isT t d S) with | some bs => Q (.bl (bs.any id)) S | none => False) = Q (.bl b) S := by simp [h]
theorem isiT1 {t : Ty} {b : Bool} {Q : Bool → Sto → Prop} (h : isT t d S = some b) : (match [t].mapM (fun t => isT t d S) with | some bs => Q (bs.any id) S | none => False) = Q b S := by simp [h]
theorem mI_int {bb : Bool} : List.mapM (fun t => isT t (.int i) S) [Ty.int] = some [true] := rfl
theorem mI_bool {bb : Bool} : List.mapM (fun t => isT t (.int i) S) [Ty.bool] = some [false] := rfl
theorem mI_str {bb : Bool} : List.mapM (fun t => isT t (.int i) S) [Ty.str] = some [false] := rfl
theorem mI_tuple {bb : Bool} : List.mapM (fun t => isT t (.int i) S) [Ty.tuple] = some [false] := rfl
theorem mI_list {bb : Bool} : List.mapM (fun t => isT t (.int i) S) [Ty.list] = some [false] := rfl
theorem mB_int {bb : Bool} : List.mapM (fun t => isT t (.bl bb) S) [Ty.int] = some [true] := rfl
theorem mB_bool {bb : Bool} : List.mapM (fun t => isT t (.bl bb) S) [Ty.bool] = some [true] := rfl
theorem mB_str {bb : Bool} : List.mapM (fun t => isT t (.bl bb) S) [Ty.str] = some [false] := rfl
theorem mB_tuple {bb : Bool} : List.mapM (fun t => isT t (.bl bb) S) [Ty.tuple] = some [false] := rfl
theorem mB_list {bb : Bool} : List.mapM (fun t => isT t (.bl bb) S) [Ty.list] = some [false] := rfl
theorem mS_int {bb : Bool} : List.mapM (fun t => isT t (.str x) S) [Ty.int] = some [false] := rfl
theorem mS_bool {bb : Bool} : List.mapM (fun t => isT t (.str x) S) [Ty.bool] = some [false] := rfl
theorem mS_str {bb : Bool} : List.mapM (fun t => isT t (.str x) S) [Ty.str] = some [true] := rfl
theorem mS_tuple {bb : Bool} : List.mapM (fun t => isT t (.str x) S) [Ty.tuple] = some [false] := rfl
theorem mS_list {bb : Bool} : List.mapM (fun t => isT t (.str x) S) [Ty.list] = some [false] := rfl
theorem mT_int {bb : Bool} : List.mapM (fun t => isT t (.tup l) S) [Ty.int] = some [false] := rfl
theorem mT_bool {bb : Bool} : List.mapM (fun t => isT t (.tup l) S) [Ty.bool] = some [false] := rfl
theorem mT_str {bb : Bool} : List.mapM (fun t => isT t (.tup l) S) [Ty.str] = some [false] := rfl
theorem mT_tuple {bb : Bool} : List.mapM (fun t => isT t (.tup l) S) [Ty.tuple] = some [true] := rfl
theorem mT_list {bb : Bool} : List.mapM (fun t => isT t (.tup l) S) [Ty.list] = some [false] := rfl
theorem mN_int {bb : Bool} : List.mapM (fun t => isT t .non S) [Ty.int] = some [false] := rfl
theorem mN_bool {bb : Bool} : List.mapM (fun t => isT t .non S) [Ty.bool] = some [false] := rfl
theorem mN_str {bb : Bool} : List.mapM (fun t => isT t .non S) [Ty.str] = some [false] := rfl
theorem mN_tuple {bb : Bool} : List.mapM (fun t => isT t .non S) [Ty.tuple] = some [false] := rfl
theorem mN_list {bb : Bool} : List.mapM (fun t => isT t .non S) [Ty.list] = some [false] := rfl
theorem anyT : [true].any id = true := rfl
theorem anyF : [false].any id = false := rfl
theorem ixS0 (h : S a = some (.lst (d0 :: l))) : ixR (.ref a) (.int 0) S Q = Q d0 S := ixL h (atIk 0 rfl rfl)
theorem ixS1 (h : S a = some (.lst (d0 :: d1 :: l))) : ixR (.ref a) (.int 1) S Q = Q d1 S := ixL h (atIk 1 rfl rfl)
theorem ixS2 (h : S a = some (.lst (d0 :: d1 :: d2 :: l))) : ixR (.ref a) (.int 2) S Q = Q d2 S := ixL h (atIk 2 rfl rfl)
theorem ixS3 (h : S a = some (.lst (d0 :: d1 :: d2 :: d3 :: l))) : ixR (.ref a) (.int 3) S Q = Q d3 S := ixL h (atIk 3 rfl rfl)
theorem ixU0 : ixR (.ref a) (.int 0) (S.upd a (.lst (d0 :: l))) Q = Q d0 (S.upd a (.lst (d0 :: l))) := ixS0 Sto.upd_same
theorem ixU1 : ixR (.ref a) (.int 1) (S.upd a (.lst (d0 :: d1 :: l))) Q = Q d1 (S.upd a (.lst (d0 :: d1 :: l))) := ixS1 Sto.upd_same
theorem ixU2 : ixR (.ref a) (.int 2) (S.upd a (.lst (d0 :: d1 :: d2 :: l))) Q = Q d2 (S.upd a (.lst (d0 :: d1 :: d2 :: l))) := ixS2 Sto.upd_same
theorem ixU3 : ixR (.ref a) (.int 3) (S.upd a (.lst (d0 :: d1 :: d2 :: d3 :: l))) Q = Q d3 (S.upd a (.lst (d0 :: d1 :: d2 :: d3 :: l))) := ixS3 Sto.upd_same
theorem setS3 {Q : Sto → Prop} (h : S a = some (.lst (d0 :: d1 :: d2 :: d3 :: l))) : setR (.ref a) (.int 3) d S Q = Q (S.upd a (.lst (d0 :: d1 :: d2 :: d :: l))) := setL h (n := 3) rfl (by simp)
theorem setU1 {Q : Sto → Prop} : setR (.ref a) (.int 1) d (S.upd a (.lst (d0 :: d1 :: l))) Q = Q (S.upd a (.lst (d0 :: d :: l))) := (setL Sto.upd_same (i := 1) (n := 1) rfl (by simp)).trans (by rw [Sto.upd_upd]; rfl)
theorem setU2 {Q : Sto → Prop} : setR (.ref a) (.int 2) d (S.upd a (.lst (d0 :: d1 :: d2 :: l))) Q = Q (S.upd a (.lst (d0 :: d1 :: d :: l))) := (setL Sto.upd_same (i := 2) (n := 2) rfl (by simp)).trans (by rw [Sto.upd_upd]; rfl)
theorem lenU {c : Cell} (hap : a ≠ b) (h : S b = some (.lst l)) : bltR .len [.ref b] (S.upd a c) Q = Q (.int l.length) (S.upd a c) := lenL (by rw [Sto.upd_ne (Ne.symm hap)]; exact h)
theorem ixU {c : Cell} (hap : a ≠ b) (h : S b = some (.lst l)) (g : atI l i = some d) : ixR (.ref b) (.int i) (S.upd a c) Q = Q d (S.upd a c) := ixL (by rw [Sto.upd_ne (Ne.symm hap)]; exact h) g
end
end Mi
namespace Mi
open PySem PySem.Spec PyProof.Rows L2 NdefX
structure InD where
  cls : Str
  name : Str
  qual : Str
  params : Arguments
  body : List PySem.Stmt
  scope : Scope
abbrev InW : Type := Option (Str × Str × Arguments × FuncBody × Scope × Addr × Addr)
def iAd (K : PySem.W.Frag) (x : Str) : Addr := He.ma K (gAd K x) "__init__"
def inW (K : PySem.W.Frag) (x : Str) : InW := match K.lookup (iAd K x) with
  | some ⟨_, _, .func fd, _⟩ => some (fd.name, fd.qualname, fd.params, fd.body, fd.scope, fd.globals, fd.builtins)
  | _ => none
def InD.val (d : InD) : InW := some (d.name, d.qual, d.params, .stmts d.body, d.scope, mainGlobals, builtinsNs)
def InD.nf (d : InD) (cl : List (Str × Addr)) (c : Addr) : NF := ⟨d.name, d.qual, d.params, d.body, d.scope, cl, c⟩
def oexB (K : PySem.W.Frag) (C : Addr) : Bool := (match K.lookup C with
    | some ⟨.type t, _, .cls cd, sl⟩ => (match cd.mro, sl.toList with
      | .ref C' :: bm, [_, _, _, _, some (.builtin n), _] => decide (t = "type") && decide (C' = C) && decide (n = "ValueError.__new__") && !cd.hasDel && cd.hasDict && PySem.HandSPX.refsVE bm
      | _, _ => false)
    | _ => false) && He.eqO (PySem.W.findIn K (.ref C) "__setattr__") (some (some (.builtin "object.__setattr__"))) && decide (PySem.W.subIn K (.ref C) (.type "BaseException") = some true) && decide (PySem.W.typeIn K (.ref C) = some (.type "type")) && PySem.W.keepIn K (.ref C)
theorem oexB_ok {K : PySem.W.Frag} {C : Addr} (h : oexB K C = true) : OexC K C := by
  unfold oexB at h
  simp only [Bool.and_eq_true, decide_eq_true_eq] at h
  obtain ⟨⟨⟨⟨h1, h2⟩, h3⟩, h4⟩, h5⟩ := h
  refine ⟨?_, He.eqO_ok h2, h3, h4, h5⟩
  split at h1
  case h_1 t dd cd sl ho =>
    split at h1
    case h_1 C' bm k0 k1 k2 k3 n k5 hm hs =>
      simp only [Bool.and_eq_true, decide_eq_true_eq, Bool.not_eq_true'] at h1
      obtain ⟨⟨⟨⟨⟨rfl, rfl⟩, rfl⟩, hdel⟩, hdc⟩, hv⟩ := h1
      obtain ⟨nm, bs, mro, ns, qn, hd, sn, sub, ab, col, del⟩ := cd
      dsimp only at hm hdel hdc
      subst hm hdel hdc
      have hsl : sl = #[k0, k1, k2, k3, some (.builtin "ValueError.__new__"), k5] := by
        obtain ⟨l⟩ := sl
        simp only at hs
        rw [hs]
      subst hsl
      exact ⟨nm, qn, ns, bs, bm, sn, sub, ab, col, dd, k0, k1, k2, k3, k5, ho, hv⟩
    case h_2 => cases h1
  case h_2 => cases h1
def fileB (K : PySem.W.Frag) (file : Str) (c : Addr) : Bool := match K.lookup c with
  | some ⟨_, _, .fields vs, _⟩ => (match (vs[2]? : Option Value) with
    | some (.str f _) => file == f
    | _ => false)
  | _ => false
def cellB (K : PySem.W.Frag) (C cc : Addr) : Bool := match K.lookup cc with
  | some ⟨_, _, .cell (some (.ref C')), _⟩ => decide (C' = C)
  | _ => false
def noneB : Value → Bool
  | .none => true
  | _ => false
def fnB (K : PySem.W.Frag) (file : Str) (C f : Addr) (qual : Str) : Bool := match K.lookup f with
  | some ⟨_, _, .func fd, _⟩ => (match fd.closure, fd.code with
    | [(n, cc)], .ref c => decide (n = ("__class__" : Str)) && cellB K C cc && noneB fd.defaults && noneB fd.kwdefaults && fd.annotations.isNone && PySem.W.codeIn K (.ref c) qual && fileB K file c
    | _, _ => false)
  | _ => false
def nfB (K : PySem.W.Frag) (file : Str) (d : InD) : Bool :=
  He.eqO (PySem.W.nsIn K mainGlobals d.cls) (some (some (.ref (gAd K d.cls)))) && oexB K (gAd K d.cls) && He.eqO (PySem.W.findIn K (.ref (gAd K d.cls)) "word") (some none) && He.eqO (PySem.W.findIn K (.ref (gAd K d.cls)) "__init__") (some (some (.ref (iAd K d.cls)))) &&
  decide (PySem.W.typeIn K (.ref (iAd K d.cls)) = some (.type "function")) && fnB K file (gAd K d.cls) (iAd K d.cls) d.qual && He.eqO (PySem.W.nsIn K PySem.cStatics "thirdparty.any") (some none) && He.eqO (PySem.W.ks_superIn K (gAd K d.cls) (gAd K d.cls) "__init__") (some (some (.builtin "ValueError.__init__"))) &&
  decide (PySem.W.subIn K (.ref (gAd K d.cls)) (.type "ValueError") = some true) && decide (PySem.W.mroIn K (gAd K d.cls) (.ref (gAd K d.cls)) = some true) && He.eqO (PySem.W.nsIn K mainGlobals "super") (some none)
structure InS (P : Program) (d : InD) : Prop where
  S : NScope ["self", "word", "__class__"] ["self", "word"] ["__class__"] d.scope
  sup : d.scope.names.lookup ("super" : Str) = some .globalImplicit
  htop : (P.main.scope.names.lookup ("super" : Str)).isSome = false
  body : ∃ (q1 q2 q3 q4 p0 p1 p2 p3 p4 p5 q5 q6 q7 : Pos) (j : Nat) (m : Str), d.body = [.Assign [.Attribute (.Name "self" q1) "word" q2] (.Name "word" q3) q4,
    .Expr (.Call (.Attribute (.Call (.Name "super" p0) [] [] p1) "__init__" p2) [.JoinedStr [.Constant (.str m) j q5, .FormattedValue (.Name "word" q6) (-1) none q7] p3] [] p4) p5] ∧ m.length ≤ 1000 ∧ ∃ pl : Sem Bool, ∀ env : Env, eval (.Call (.Attribute (.Call (.Name "super" p0) [] [] p1) "__init__" p2) [.JoinedStr [.Constant (.str m) j q5, .FormattedValue (.Name "word" q6) (-1) none q7] p3] [] p4) env = (do
      let ov ← attributeBase (.Call (.Name "super" p0) [] [] p1) "__init__" env (eval (.Call (.Name "super" p0) [] [] p1) env)
      standAt p2.atName
      let (f, first) ← holding [ov] (getMethod ov "__init__" pl)
      callWith p4 f first (backTo p4 (starEach [.JoinedStr [.Constant (.str m) j q5, .FormattedValue (.Name "word" q6) (-1) none q7] p3] env)) [])
  par : ∃ ar, (d.params.posonlyargs ++ d.params.args).head? = some ar ∧ ar.arg = ("self" : Str)
  bnd : ∀ (cl : List (Str × Addr)) (c : Addr) (doc pm ctv : Value) (us : List Value), us.length = 2 → bindArgs ((d.nf cl c).fd doc pm ctv) ⟨us, []⟩ = pure ((["self", "word"] : List Str).zip us)
theorem noneB_ok {v : Value} (h : noneB v = true) : v = .none := by cases v <;> first | rfl | cases h
theorem excF_of {P : Program} {K : PySem.W.Frag} {h : Heap} {mg : Str → Option Value} {d : InD} (X : K.In h) (G : h.Ns mainGlobals mg) (S : InS P d) (e : inW K d.cls = d.val) (b : nfB K P.main.file d = true) : ExcF P K mg d.cls := by
  unfold nfB at b
  simp only [Bool.and_eq_true, decide_eq_true_eq] at b
  obtain ⟨⟨⟨⟨⟨⟨⟨⟨⟨⟨b1, b2⟩, b3⟩, b4⟩, b5⟩, b6⟩, b7⟩, b8⟩, b9⟩, b10⟩, b11⟩ := b
  refine ⟨PySem.W.mg_of X G (He.eqO_ok b1), iAd K d.cls, ?_⟩
  unfold fnB at b6
  unfold inW at e
  split at b6
  case h_1 oc od fd osl lk =>
    rw [lk] at e
    obtain ⟨n1, n2, n3, n4, n5, n6, n7, n8, n9, n10, n11, n12, n13, n14, n15⟩ := fd
    have e2 : (some (n1, n2, n3, n4, n5, n6, n15) : InW) = some (d.name, d.qual, d.params, .stmts d.body, d.scope, mainGlobals, builtinsNs) := e
    simp only [Option.some.injEq, Prod.mk.injEq] at e2
    obtain ⟨h1, h2, h3, h4, h5, h6, h8⟩ := e2
    subst h1 h2 h3 h4 h5 h6 h8
    dsimp only at b6
    split at b6
    case h_1 _ _ n cc c =>
      simp only [Bool.and_eq_true, decide_eq_true_eq] at b6
      obtain ⟨⟨⟨⟨⟨⟨c1, c2⟩, c3⟩, c4⟩, c5⟩, c6⟩, c7⟩ := b6
      subst c1
      obtain rfl := noneB_ok c3
      obtain rfl := noneB_ok c4
      obtain rfl := Option.isNone_iff_eq_none.mp c5
      refine ⟨d.nf [("__class__", cc)] c, ⟨oexB_ok b2, He.eqO_ok b3, ⟨oc, od, n10, n11, n14, osl, lk⟩, c6, ⟨cc, ?_⟩, ?_, S.S, S.sup, S.htop, PySem.W.mg_none_of X G (He.eqO_ok b11), He.eqO_ok b7, He.eqO_ok b8, b9, b10, S.body, S.par, S.bnd _ _⟩, He.eqO_ok b4, b5⟩
      · unfold cellB at c2
        split at c2
        case h_1 ccl ccd C' ccs lkc =>
          rw [decide_eq_true_eq] at c2
          subst c2
          exact ⟨ccl, ccd, ccs, rfl, lkc⟩
        case h_2 => cases c2
      · unfold fileB at c7
        split at c7
        case h_1 vcl vcd vs vcs lkv =>
          split at c7
          case h_1 f tf hf => exact ⟨vcl, vcd, vs, vcs, f, tf, lkv, hf, c7⟩
          case h_2 => cases c7
        case h_2 => cases c7
    case h_2 => cases b6
  case h_2 => cases b6
def excB (K : PySem.W.Frag) (D : Addr) : Bool := He.eqO (PySem.W.findIn K (.ref D) "__getattribute__") (some (some (.builtin "BaseException.__getattribute__"))) && He.eqO (PySem.W.findIn K (.ref D) "__getattr__") (some none) && decide (PySem.W.subIn K (.ref D) (.type "BaseException") = some true) &&
  PySem.W.hasDictIn K D && He.eqO (PySem.W.findIn K (.ref D) "__class__") (some (some (.builtin "object.__class__"))) && He.eqO (PySem.W.specialIn K (.builtin "object.__class__") "__get__") (some (some (.builtin "getset_descriptor.__get__"))) &&
  decide (PySem.W.takesIn K (.builtin "object.__class__") = some true) && decide (PySem.W.mroIn K D (.type "object") = some true)
theorem excB_ok {K : PySem.W.Frag} {D : Addr} (h : excB K D = true) : ExcC K D := by
  unfold excB at h
  simp only [Bool.and_eq_true, decide_eq_true_eq] at h
  obtain ⟨⟨⟨⟨⟨⟨⟨h1, h2⟩, h3⟩, h4⟩, h5⟩, h6⟩, h7⟩, h8⟩ := h
  exact ⟨He.eqO_ok h1, He.eqO_ok h2, h3, h4, He.eqO_ok h5, He.eqO_ok h6, h7, h8⟩
def kxB (K : PySem.W.Frag) (x : Str) (b : Bool) (cv : Value) : Bool := decide (PySem.W.exmOne K (.ref (gAd K x)) cv = some b) && decide (PySem.W.kitOne K (.ref (gAd K x)) cv = some b)
def subB (K : PySem.W.Frag) (y : Str × Str × Bool) : Bool := (match PySem.W.nsIn K mainGlobals y.2.1 with
  | some (some (.ref a)) => kxB K y.1 y.2.2 (.ref a)
  | some none => (match bootBuiltins y.2.1 with
    | some (.type T) => kxB K y.1 y.2.2 (.type T)
    | _ => false)
  | _ => false) && excB K (gAd K y.1) && xfB K (gAd K y.1) && He.eqO (PySem.W.findIn K (.ref (gAd K y.1)) "word") (some none)
theorem subF_of {K : PySem.W.Frag} {h : Heap} {mg : Str → Option Value} {x c : Str} {b : Bool} (X : K.In h) (G : h.Ns mainGlobals mg) (s : subB K (x, c, b) = true) : SubF K mg x c b := by
  unfold subB at s
  simp only [Bool.and_eq_true] at s
  obtain ⟨⟨⟨s1, s2⟩, s3⟩, s4⟩ := s
  have sc : SubC K (gAd K x) := ⟨excB_ok s2, xfB_ok s3, He.eqO_ok s4⟩
  split at s1
  case h_1 a hn =>
    have hm := PySem.W.mg_of X G hn
    have e : cvOf mg c = .ref a := by unfold cvOf; rw [hm]
    unfold kxB at s1
    simp only [Bool.and_eq_true, decide_eq_true_eq] at s1
    exact ⟨.inl (by rw [e]; exact hm), ⟨.ref a, by rw [e]; rfl, fun u q => by rw [e]; exact q⟩, by rw [e]; exact s1.1, by rw [e]; exact s1.2, sc⟩
  case h_2 hn =>
    split at s1
    case h_1 T hT =>
      have hm := PySem.W.mg_none_of X G hn
      have e : cvOf mg c = .type T := by unfold cvOf; rw [hm]; show (bootBuiltins c).getD .none = _; rw [hT]; rfl
      unfold kxB at s1
      simp only [Bool.and_eq_true, decide_eq_true_eq] at s1
      exact ⟨.inr ⟨hm, by rw [e]; exact hT⟩, ⟨.ty T, by rw [e]; rfl, fun u q => by rw [e]; exact q⟩, by rw [e]; exact s1.1, by rw [e]; exact s1.2, sc⟩
    case h_2 => cases s1
  case h_3 => cases s1
def gB (K : PySem.W.Frag) : Nat → D → Value → Bool
  | n + 1, .tup l, .ref a => (match K.lookup a with
    | some ⟨.type c, none, .seq its _, _⟩ => decide (c = "tuple") && decide (its.size ≤ sizeLine) && (decide (l.length = its.toList.length) && (l.zip its.toList).all fun p => gB K n p.1 p.2)
    | _ => false)
  | _, .int i, .int j _ => decide (j = i)
  | _, .str x, .str y _ => decide (y = x) && PyData.strOk x
  | _, .bl b, .bool c => decide (c = b)
  | _, .non, .none => true
  | _, _, _ => false
theorem gB_ok {K : PySem.W.Frag} : ∀ (n : Nat) (d : D) (u : Value), gB K n d u = true → ∃ v, RelV v u ∧ ∀ H, RD K H d v := by
  have base : ∀ (d : D) (u : Value), (∀ l a, ¬(d = .tup l ∧ u = .ref a)) → ∀ n, gB K n d u = true → ∃ v, RelV v u ∧ ∀ H, RD K H d v := by
    intro d u hn n h
    cases d <;> cases u <;> cases n <;> first | (cases h; done) | (exact absurd ⟨rfl, rfl⟩ (hn _ _)) | skip
    all_goals first
      | (rename_i i j t; exact ⟨.int i, ⟨t, by have := of_decide_eq_true h; rw [this]⟩, fun H => .int⟩)
      | (rename_i i j t n; exact ⟨.int i, ⟨t, by have := of_decide_eq_true h; rw [this]⟩, fun H => .int⟩)
      | (rename_i x y t; simp only [gB, Bool.and_eq_true, decide_eq_true_eq] at h; exact ⟨.str x, ⟨t, by rw [h.1]⟩, fun H => .str h.2⟩)
      | (rename_i x y t n; simp only [gB, Bool.and_eq_true, decide_eq_true_eq] at h; exact ⟨.str x, ⟨t, by rw [h.1]⟩, fun H => .str h.2⟩)
      | (rename_i b c; exact ⟨.bl b, by have := of_decide_eq_true h; rw [this]; rfl, fun H => .bl⟩)
      | (rename_i b c n; exact ⟨.bl b, by have := of_decide_eq_true h; rw [this]; rfl, fun H => .bl⟩)
      | exact ⟨.non, rfl, fun H => .non⟩
  intro n
  induction n with
  | zero =>
    intro d u h
    refine base d u (fun l a e => ?_) 0 h
    rw [e.1, e.2] at h
    cases h
  | succ n ih =>
    intro d u h
    by_cases hn : ∃ l a, d = .tup l ∧ u = .ref a
    · obtain ⟨l, a, rfl, rfl⟩ := hn
      unfold gB at h
      split at h
      case h_1 c its m sl lk =>
        simp only [Bool.and_eq_true, decide_eq_true_eq, List.all_eq_true] at h
        obtain ⟨⟨h1, h2⟩, h3, h4⟩ := h
        subst h1
        have key : ∀ (l : List D) (us : List Value), l.length = us.length → (∀ p ∈ l.zip us, gB K n p.1 p.2 = true) → ∃ vs, Vals vs us ∧ ∀ H, RDs K H l vs := by
          intro l
          induction l with
          | nil =>
            intro us e _
            cases us with
            | nil => exact ⟨[], .nil, fun H => .nil⟩
            | cons _ _ => cases e
          | cons d l ihl =>
            intro us e hp
            cases us with
            | nil => cases e
            | cons u us =>
              obtain ⟨v, r1, r2⟩ := ih d u (hp (d, u) (by simp))
              obtain ⟨vs, q1, q2⟩ := ihl us (Nat.succ.inj e) fun p hp' => hp p (by rw [List.zip_cons_cons]; exact List.mem_cons_of_mem _ hp')
              exact ⟨v :: vs, .cons r1 q1, fun H => .cons (r2 H) (q2 H)⟩
        obtain ⟨vs, q1, q2⟩ := key l its.toList h3 h4
        exact ⟨.ref a, rfl, fun H => .tup (.inr ⟨_, its, m, lk, rfl, rfl, rfl, h2, q1⟩) (q2 H)⟩
      case h_2 => cases h
    · exact base d u (fun l a e => hn ⟨l, a, e⟩) (n + 1) h
theorem look_mem {x : Str} {d : D} : ∀ {l : List (Str × D)}, l.lookup x = some d → (x, d) ∈ l
  | [], h => by cases h
  | (y, e) :: l, h => by
    rw [List.lookup_cons] at h
    cases c : x == y with
    | true =>
      rw [c] at h
      cases h
      rw [eq_of_beq c]
      exact List.mem_cons_self
    | false =>
      rw [c] at h
      exact List.mem_cons_of_mem _ (look_mem h)
def mfV (x : Str) : Value := match mfOf x with
  | some b => blV b
  | none => .none
abbrev AlE : Type := He.AlD × (Bool × List InW)
def exB (file : Str) (ins : List InD) (sub : List (Str × Str × Bool)) (mf : List Str) (gl : List (Str × D)) (K : PySem.W.Frag) : Bool := (ins.all fun d => nfB K file d) && (sub.all fun y => subB K y) && (gl.all fun p => (match PySem.W.nsIn K mainGlobals p.1 with | some (some u) => gB K 20 p.2 u | _ => false)) && (mf.all fun x => He.eqO (PySem.W.nsIn K mainGlobals x) (some (some (mfV x))))
def obsE (fa : List He.Fa) (fn : List He.DefD) (file : Str) (ins : List InD) (sub : List (Str × Str × Bool)) (mf : List Str) (gl : List (Str × D)) (K : PySem.W.Frag) : AlE := (He.obsD fa fn K, (exB file ins sub mf gl K, ins.map fun d => inW K d.cls))
def valE (fn : List He.DefD) (ins : List InD) : AlE := (He.valD fn, (true, ins.map InD.val))
def SaysE (fa : List He.Fa) (fn : List He.DefD) (file : Str) (ins : List InD) (sub : List (Str × Str × Bool)) (mf : List Str) (gl : List (Str × D)) (K : PySem.W.Frag) : Prop := obsE fa fn file ins sub mf gl K = valE fn ins
def obsEG (n : Nat) (fa : List He.Fa) (fn : List He.DefD) (file : Str) (ins : List InD) (sub : List (Str × Str × Bool)) (mf : List Str) (gl : List (Str × D)) (g : Addr → Option Obj) : AlE := obsE fa fn file ins sub mf gl (He.frG g (PySem.cStatics :: He.asD g n))
def hookE (n : Nat) (fa : List He.Fa) (fn : List He.DefD) (file : Str) (ins : List InD) (sub : List (Str × Str × Bool)) (mf : List Str) (gl : List (Str × D)) : PySem.W.Hook where
  α := AlE
  obs := fun s => obsEG n fa fn file ins sub mf gl s.heap.get?
  val := fun _ => valE fn ins
  says := fun _ h => ∃ K : PySem.W.Frag, K.In h ∧ SaysE fa fn file ins sub mf gl K
  of := fun _ _ e => ⟨_, He.frG_in, e⟩
  keeps := fun _ _ _ ⟨K, hK, c⟩ k => ⟨K, PySem.W.Frag.In.keeps hK k, c⟩
theorem obsEG_eq {n : Nat} {fa : List He.Fa} {fn : List He.DefD} {file : Str} {ins : List InD} {sub : List (Str × Str × Bool)} {mf : List Str} {gl : List (Str × D)} {g : Addr → Option Obj} {s : Shared} (h : ∀ a, g a = s.heap.get? a) : obsEG n fa fn file ins sub mf gl g = (hookE n fa fn file ins sub mf gl).obs s := by
  have e : g = s.heap.get? := funext h
  rw [e] <;> rfl
section
variable {fa : List He.Fa} {fn : List He.DefD} {file : Str} {ins : List InD} {sub : List (Str × Str × Bool)} {mf : List Str} {gl : List (Str × D)} {K : PySem.W.Frag}
theorem SaysE.d (c : SaysE fa fn file ins sub mf gl K) : He.SaysD fa fn K := congrArg (fun z : AlE => z.1) c
theorem SaysE.sub_ (c : SaysE fa fn file ins sub mf gl K) {y : Str × Str × Bool} (h : y ∈ sub) : subB K y = true := by
  have c1 : exB file ins sub mf gl K = true := congrArg (fun z : AlE => z.2.1) c
  unfold exB at c1
  rw [Bool.and_eq_true, Bool.and_eq_true, Bool.and_eq_true] at c1
  exact List.all_eq_true.mp c1.1.1.2 _ h
theorem SaysE.glb (c : SaysE fa fn file ins sub mf gl K) {h : Heap} {mg : Str → Option Value} (X : K.In h) (G : h.Ns mainGlobals mg) {x : Str} {d : D} (hx : gl.lookup x = some d) : ∃ v u, mg x = some u ∧ RelV v u ∧ ∀ H, RD K H d v := by
  have c1 : exB file ins sub mf gl K = true := congrArg (fun z : AlE => z.2.1) c
  unfold exB at c1
  rw [Bool.and_eq_true, Bool.and_eq_true, Bool.and_eq_true] at c1
  have c2 := List.all_eq_true.mp c1.1.2 _ (look_mem hx)
  dsimp only at c2
  split at c2
  case h_1 u hu =>
    obtain ⟨v, r1, r2⟩ := gB_ok _ _ _ c2
    exact ⟨v, u, PySem.W.mg_of X G hu, r1, r2⟩
  case h_2 => cases c2
theorem SaysE.mfn (c : SaysE fa fn file ins sub mf gl K) {h : Heap} {mg : Str → Option Value} (X : K.In h) (G : h.Ns mainGlobals mg) (x : Str) (b : Bl) (hx : mf.contains x = true) (hb : mfOf x = some b) : mg x = some (blV b) := by
  have c1 : exB file ins sub mf gl K = true := congrArg (fun z : AlE => z.2.1) c
  unfold exB at c1
  rw [Bool.and_eq_true] at c1
  have hm : x ∈ mf := by simpa using hx
  have c2 := List.all_eq_true.mp c1.2 x hm
  have e : mfV x = blV b := by unfold mfV; rw [hb]
  rw [e] at c2
  exact PySem.W.mg_of X G (He.eqO_ok c2)
theorem SaysE.ins_ (c : SaysE fa fn file ins sub mf gl K) {d : InD} (h : d ∈ ins) : inW K d.cls = d.val ∧ nfB K file d = true := by
  have c1 : exB file ins sub mf gl K = true := congrArg (fun z : AlE => z.2.1) c
  unfold exB at c1
  rw [Bool.and_eq_true, Bool.and_eq_true, Bool.and_eq_true] at c1
  have c2 : (ins.map fun d => inW K d.cls) = ins.map InD.val := congrArg (fun z : AlE => z.2.2) c
  refine ⟨?_, List.all_eq_true.mp c1.1.1.1 _ h⟩
  exact List.map_inj_left.mp c2 d h
end
end Mi
set_option maxHeartbeats 0
namespace K49
open PySem PySem.Spec PyProof.Rows L2 Mi
def mtop (j : Nat) : Stmt → Stmt
  | .ClassDef _ _ _ b _ _ _ _ _ _ _ => b.getD j (.Pass ⟨0, 0, 0, 0⟩)
  | s => s
def top (i : Nat) : Stmt := PySem.Challenge.pw_castbypowers_k49_trees_walked_by_own_han.main.body.getD i (.Pass ⟨0, 0, 0, 0⟩)
def Tm : Mi.Tb := ⟨[("fraction" : Str), ("plus" : Str), ("minus" : Str), ("times" : Str), ("over" : Str), ("met_nodes" : Str), ("ending_nodes" : Str), ("stuck_node" : Str), ("ways_of" : Str), ("left_out" : Str), ("visits" : Str), ("law_from" : Str), ("mean_from" : Str), ("tree_law" : Str), ("tree_mean" : Str), ("is_number" : Str), ("is_side" : Str), ("is_node" : Str), ("is_tree" : Str), ("walk_tree" : Str), ("_law_start" : Str), ("_law_draw" : Str), ("_law_is_int" : Str), ("_law_same" : Str), ("_law_gcd" : Str), ("_law_fraction" : Str), ("_law_plus" : Str), ("_law_times" : Str), ("_law_note" : Str), ("_law_side" : Str), ("_law_tree" : Str), ("_law_walk" : Str), ("_law_reach" : Str), ("_law_stuck" : Str), ("_law_share" : Str), ("_law_no_more" : Str), ("_law_is_law" : Str), ("_law_turned" : Str), ("_law_mean_fits" : Str), ("_law_refuses" : Str), ("law" : Str)], [("ZERO" : Str), ("ONE" : Str), ("HALF" : Str)], [("abs" : Str), ("all" : Str), ("any" : Str), ("bool" : Str), ("enumerate" : Str), ("int" : Str), ("isinstance" : Str), ("len" : Str), ("list" : Str), ("range" : Str), ("sorted" : Str), ("str" : Str), ("tuple" : Str)], [("gcd" : Str)], [("NotFit" : Str)], [("NotFit", "NotFit", true), ("NotFit", "CastError", true)], false, [], [], [], []⟩
def TmC : Mi.Tb := ⟨K49.Tm.cln, K49.Tm.glob, K49.Tm.free, K49.Tm.mfn, K49.Tm.exc, K49.Tm.sub, true, [], [], [], []⟩
def b_fraction : Ss := (.cons (.ite (.cmp .lt (.var 1) (.lit (.int (0)))) (.cons (.set 0 (.neg (.var 0))) (.cons (.set 1 (.neg (.var 1))) .nil)) .nil) (.cons (.set 2 (.blt .gcd (.cons (.var 0) (.cons (.var 1) .nil)))) (.cons (.ret (.tup (.cons (.op .fdiv (.var 0) (.var 2)) (.cons (.op .fdiv (.var 1) (.var 2)) .nil)))) .nil)))
def b_plus : Ss := (.cons (.ite (.and (.cmp .eq (.ix (.var 0) (.lit (.int (1)))) (.lit (.int (1)))) (.cmp .eq (.ix (.var 1) (.lit (.int (1)))) (.lit (.int (1))))) (.cons (.ret (.tup (.cons (.op .add (.ix (.var 0) (.lit (.int (0)))) (.ix (.var 1) (.lit (.int (0))))) (.cons (.lit (.int (1))) .nil)))) .nil) .nil) (.cons (.ret (.call "fraction" (.cons (.op .add (.op .mul (.ix (.var 0) (.lit (.int (0)))) (.ix (.var 1) (.lit (.int (1))))) (.op .mul (.ix (.var 1) (.lit (.int (0)))) (.ix (.var 0) (.lit (.int (1)))))) (.cons (.op .mul (.ix (.var 0) (.lit (.int (1)))) (.ix (.var 1) (.lit (.int (1))))) .nil)))) .nil))
def b_minus : Ss := (.cons (.ret (.call "fraction" (.cons (.op .sub (.op .mul (.ix (.var 0) (.lit (.int (0)))) (.ix (.var 1) (.lit (.int (1))))) (.op .mul (.ix (.var 1) (.lit (.int (0)))) (.ix (.var 0) (.lit (.int (1)))))) (.cons (.op .mul (.ix (.var 0) (.lit (.int (1)))) (.ix (.var 1) (.lit (.int (1))))) .nil)))) .nil)
def b_times : Ss := (.cons (.ret (.call "fraction" (.cons (.op .mul (.ix (.var 0) (.lit (.int (0)))) (.ix (.var 1) (.lit (.int (0))))) (.cons (.op .mul (.ix (.var 0) (.lit (.int (1)))) (.ix (.var 1) (.lit (.int (1))))) .nil)))) .nil)
def b_over : Ss := (.cons (.ite (.cmp .eq (.ix (.var 1) (.lit (.int (0)))) (.lit (.int (0)))) (.cons (.raise "NotFit" (.lit (.str "nought"))) .nil) .nil) (.cons (.ret (.call "fraction" (.cons (.op .mul (.ix (.var 0) (.lit (.int (0)))) (.ix (.var 1) (.lit (.int (1))))) (.cons (.op .mul (.ix (.var 0) (.lit (.int (1)))) (.ix (.var 1) (.lit (.int (0))))) .nil)))) .nil))
def s_met_nodes_1 : Ss := (.cons (.ite (.and (.cmp .eq (.var 5) (.lit (.str "node"))) (.cmp .notin (.var 6) (.var 2))) (.cons (.exp (.mth .append (.var 2) (.cons (.var 6) .nil))) (.cons (.exp (.mth .append (.var 3) (.cons (.var 6) .nil))) .nil)) .nil) .nil)
def s_met_nodes_2 : Ss := (.cons (.set 4 (.mth .pop (.var 3) .nil)) (.cons (.for (.tup (.cons (.nm 5) (.cons (.nm 6) .nil))) (.of (.ix (.var 0) (.var 4))) s_met_nodes_1) .nil))
def e_met_nodes_3 : E := (.cmp .ne (.var 3) (.lst .nil))
def b_met_nodes : Ss := (.cons (.set 2 (.lst (.cons (.var 1) .nil))) (.cons (.set 3 (.lst (.cons (.var 1) .nil))) (.cons (.whl e_met_nodes_3 s_met_nodes_2) (.cons (.ret (.blt .sorted (.cons (.var 2) .nil))) .nil))))
def e_ending_nodes_1 : E := (.or (.cmp .eq (.var 6) (.lit (.str "tell"))) (.cmp .isin (.var 7) (.var 2)))
def s_ending_nodes_2 : Ss := (.cons (.ite (.and (.cmp .notin (.var 5) (.var 2)) (.comp (some .any) e_ending_nodes_1 (.tup (.cons (.nm 6) (.cons (.nm 7) .nil))) (.of (.ix (.var 0) (.var 5))) .none [6, 7])) (.cons (.exp (.mth .append (.var 4) (.cons (.var 5) .nil))) .nil) .nil) .nil)
def s_ending_nodes_3 : Ss := (.cons (.set 4 (.lst .nil)) (.cons (.for (.nm 5) (.of (.var 1)) s_ending_nodes_2) (.cons (.set 2 (.op .add (.var 2) (.var 4))) (.cons (.set 3 (.cmp .ne (.var 4) (.lst .nil))) .nil))))
def e_ending_nodes_4 : E := (.var 3)
def b_ending_nodes : Ss := (.cons (.set 2 (.lst .nil)) (.cons (.set 3 (.lit (.bl true))) (.cons (.whl e_ending_nodes_4 s_ending_nodes_3) (.cons (.ret (.var 2)) .nil))))
def e_stuck_node_1 : E := (.var 4)
def b_stuck_node : Ss := (.cons (.set 2 (.call "met_nodes" (.cons (.var 0) (.cons (.var 1) .nil)))) (.cons (.set 3 (.call "ending_nodes" (.cons (.var 0) (.cons (.var 2) .nil)))) (.cons (.ret (.blt .tuple (.cons (.slc (.comp none e_stuck_node_1 (.nm 4) (.of (.var 2)) (.some (.cmp .notin (.var 4) (.var 3))) [4]) .none (.some (.lit (.int (1))))) .nil))) .nil)))
def s_ways_of_1 : Ss := (.cons (.ite (.cmp .eq (.var 4) (.lit (.str "node"))) (.cons (.sub (.ix (.var 2) (.var 3)) (.var 5) (.call "plus" (.cons (.mth .get (.ix (.var 2) (.var 3)) (.cons (.var 5) (.cons (.glob "ZERO") .nil))) (.cons (.glob "HALF") .nil)))) .nil) .nil) .nil)
def s_ways_of_2 : Ss := (.cons (.sub (.var 2) (.var 3) .dnew) (.cons (.for (.tup (.cons (.nm 4) (.cons (.nm 5) .nil))) (.of (.ix (.var 0) (.var 3))) s_ways_of_1) .nil))
def b_ways_of : Ss := (.cons (.set 2 .dnew) (.cons (.for (.nm 3) (.of (.var 1)) s_ways_of_2) (.cons (.ret (.var 2)) .nil)))
def s_left_out_1 : Ss := (.cons (.ite (.cmp .isin (.var 2) (.ix (.var 0) (.var 6))) (.cons (.sub (.var 5) (.var 6) (.call "over" (.cons (.ix (.ix (.var 0) (.var 6)) (.var 2)) (.cons (.var 4) .nil)))) .nil) .nil) .nil)
def e_left_out_2 : E := (.var 8)
def e_left_out_3 : E := (.var 9)
def s_left_out_4 : Ss := (.cons (.ite (.cmp .ne (.var 8) (.var 2)) (.cons (.sub (.var 7) (.var 8) (.call "plus" (.cons (.mth .get (.var 7) (.cons (.var 8) (.cons (.glob "ZERO") .nil))) (.cons (.call "times" (.cons (.ix (.var 5) (.var 6)) (.cons (.var 9) .nil))) .nil)))) .nil) .nil) .nil)
def s_left_out_5 : Ss := (.cons (.set 7 (.dcomp e_left_out_2 e_left_out_3 (.tup (.cons (.nm 8) (.cons (.nm 9) .nil))) (.items (.ix (.var 0) (.var 6))) (.some (.cmp .ne (.var 8) (.var 2))) [8, 9])) (.cons (.for (.tup (.cons (.nm 8) (.cons (.nm 9) .nil))) (.items (.var 3)) s_left_out_4) (.cons (.sub (.var 0) (.var 6) (.var 7)) .nil)))
def b_left_out : Ss := (.cons (.set 3 (.ix (.var 0) (.var 2))) (.cons (.set 4 (.call "minus" (.cons (.glob "ONE") (.cons (.mth .get (.var 3) (.cons (.var 2) (.cons (.glob "ZERO") .nil))) .nil)))) (.cons (.set 5 .dnew) (.cons (.for (.nm 6) (.of (.var 1)) s_left_out_1) (.cons (.for (.nm 6) (.of (.var 5)) s_left_out_5) (.cons (.ret (.var 5)) .nil))))))
def e_visits_1 : E := (.var 8)
def s_visits_2 : Ss := (.cons (.sub (.var 5) (.ix (.var 3) (.var 6)) (.call "left_out" (.cons (.var 4) (.cons (.slc (.var 3) .none (.some (.var 6))) (.cons (.ix (.var 3) (.var 6)) .nil))))) .nil)
def s_visits_3 : Ss := (.cons (.set 9 (.call "plus" (.cons (.var 9) (.cons (.call "times" (.cons (.ix (.var 7) (.var 10)) (.cons (.var 11) .nil))) .nil)))) .nil)
def s_visits_4 : Ss := (.cons (.set 9 (.glob "ZERO")) (.cons (.for (.tup (.cons (.nm 10) (.cons (.nm 11) .nil))) (.items (.ix (.var 5) (.var 8))) s_visits_3) (.cons (.sub (.var 7) (.var 8) (.var 9)) .nil)))
def b_visits : Ss := (.cons (.set 2 (.call "met_nodes" (.cons (.var 0) (.cons (.var 1) .nil)))) (.cons (.set 3 (.op .add (.lst (.cons (.var 1) .nil)) (.comp none e_visits_1 (.nm 8) (.of (.var 2)) (.some (.cmp .ne (.var 8) (.var 1))) [8]))) (.cons (.set 4 (.call "ways_of" (.cons (.var 0) (.cons (.var 2) .nil)))) (.cons (.set 5 .dnew) (.cons (.for (.nm 6) (.rng3 (.op .sub (.blt .len (.cons (.var 3) .nil)) (.lit (.int (1)))) (.lit (.int (0))) (.neg (.lit (.int (1))))) s_visits_2) (.cons (.set 7 (.disp (.cons (.var 1) .nil) (.cons (.call "over" (.cons (.glob "ONE") (.cons (.call "minus" (.cons (.glob "ONE") (.cons (.mth .get (.ix (.var 4) (.var 1)) (.cons (.var 1) (.cons (.glob "ZERO") .nil))) .nil))) .nil))) .nil))) (.cons (.for (.nm 8) (.of (.slc (.var 3) (.some (.lit (.int (1)))) .none)) s_visits_4) (.cons (.ret (.var 7)) .nil))))))))
def s_law_from_1 : Ss := (.cons (.ite (.cmp .eq (.var 5) (.lit (.str "tell"))) (.cons (.sub (.var 2) (.var 6) (.call "plus" (.cons (.mth .get (.var 2) (.cons (.var 6) (.cons (.glob "ZERO") .nil))) (.cons (.call "times" (.cons (.var 4) (.cons (.glob "HALF") .nil))) .nil)))) .nil) .nil) .nil)
def s_law_from_2 : Ss := (.cons (.for (.tup (.cons (.nm 5) (.cons (.nm 6) .nil))) (.of (.ix (.var 0) (.var 3))) s_law_from_1) .nil)
def e_law_from_3 : E := (.tup (.cons (.var 6) (.cons (.ix (.var 2) (.var 6)) .nil)))
def b_law_from : Ss := (.cons (.set 2 .dnew) (.cons (.for (.tup (.cons (.nm 3) (.cons (.nm 4) .nil))) (.items (.call "visits" (.cons (.var 0) (.cons (.var 1) .nil)))) s_law_from_2) (.cons (.ret (.comp (some .tuple) e_law_from_3 (.nm 6) (.of (.blt .sorted (.cons (.var 2) .nil))) .none [6])) .nil)))
def s_mean_from_1 : Ss := (.cons (.set 2 (.call "plus" (.cons (.var 2) (.cons (.var 4) .nil)))) .nil)
def b_mean_from : Ss := (.cons (.set 2 (.glob "ZERO")) (.cons (.for (.tup (.cons (.nm 3) (.cons (.nm 4) .nil))) (.items (.call "visits" (.cons (.var 0) (.cons (.var 1) .nil)))) s_mean_from_1) (.cons (.ret (.var 2)) .nil)))
def b_tree_law : Ss := (.cons (.set 1 (.call "stuck_node" (.cons (.var 0) (.cons (.lit (.int (0))) .nil)))) (.cons (.ite (.cmp .ne (.var 1) (.tup .nil)) (.cons (.ret (.tup (.cons (.lit (.str "stays")) (.cons (.ix (.var 1) (.lit (.int (0)))) .nil)))) .nil) .nil) (.cons (.ret (.tup (.cons (.lit (.str "law")) (.cons (.call "law_from" (.cons (.var 0) (.cons (.lit (.int (0))) .nil))) .nil)))) .nil)))
def b_tree_mean : Ss := (.cons (.ite (.cmp .ne (.call "stuck_node" (.cons (.var 0) (.cons (.lit (.int (0))) .nil))) (.tup .nil)) (.cons (.raise "NotFit" (.lit (.str "stays"))) .nil) .nil) (.cons (.ret (.call "mean_from" (.cons (.var 0) (.cons (.lit (.int (0))) .nil)))) .nil))
def b_is_number : Ss := (.cons (.ret (.and (.isi (.var 0) [.int]) (.and (.not (.isi (.var 0) [.bool])) (.cmp .ge (.var 0) (.lit (.int (0))))))) .nil)
def b_is_side : Ss := (.cons (.ite (.or (.not (.isi (.var 0) [.tuple])) (.or (.cmp .ne (.blt .len (.cons (.var 0) .nil)) (.lit (.int (2)))) (.not (.call "is_number" (.cons (.ix (.var 0) (.lit (.int (1)))) .nil))))) (.cons (.ret (.lit (.bl false))) .nil) .nil) (.cons (.ret (.or (.cmp .eq (.ix (.var 0) (.lit (.int (0)))) (.lit (.str "tell"))) (.and (.cmp .eq (.ix (.var 0) (.lit (.int (0)))) (.lit (.str "node"))) (.cmp .lt (.ix (.var 0) (.lit (.int (1)))) (.var 1))))) .nil))
def e_is_node_1 : E := (.call "is_side" (.cons (.var 2) (.cons (.var 1) .nil)))
def b_is_node : Ss := (.cons (.ret (.and (.isi (.var 0) [.tuple]) (.and (.cmp .eq (.blt .len (.cons (.var 0) .nil)) (.lit (.int (2)))) (.comp (some .all) e_is_node_1 (.nm 2) (.of (.var 0)) .none [2])))) .nil)
def e_is_tree_1 : E := (.call "is_node" (.cons (.var 1) (.cons (.blt .len (.cons (.var 0) .nil)) .nil)))
def b_is_tree : Ss := (.cons (.ite (.or (.not (.isi (.var 0) [.tuple])) (.cmp .eq (.blt .len (.cons (.var 0) .nil)) (.lit (.int (0))))) (.cons (.ret (.lit (.bl false))) .nil) .nil) (.cons (.ret (.comp (some .all) e_is_tree_1 (.nm 1) (.of (.var 0)) .none [1])) .nil))
def s_walk_tree_1 : Ss := (.cons (.asg (.tup (.cons (.nm 5) (.cons (.nm 6) .nil))) (.ix (.ix (.var 0) (.var 2)) (.var 4))) (.cons (.ite (.cmp .eq (.var 5) (.lit (.str "tell"))) (.cons (.ret (.tup (.cons (.lit (.str "told")) (.cons (.var 6) (.cons (.op .add (.var 3) (.lit (.int (1)))) .nil))))) .nil) .nil) (.cons (.set 2 (.var 6)) .nil)))
def b_walk_tree : Ss := (.cons (.set 2 (.lit (.int (0)))) (.cons (.for (.tup (.cons (.nm 3) (.cons (.nm 4) .nil))) (.enum (.var 1)) s_walk_tree_1) (.cons (.ret (.tup (.cons (.lit (.str "coins")) .nil))) .nil)))
def b__law_start : Ss := (.cons (.ret (.lst (.cons (.blt .list (.cons (.var 0) .nil)) (.cons (.lit (.int (0))) (.cons (.lit (.int (0))) (.cons (.lit (.int (0))) .nil)))))) .nil)
def b__law_draw : Ss := (.cons (.sub (.var 0) (.lit (.int (3))) (.op .add (.ix (.var 0) (.lit (.int (3)))) (.lit (.int (1))))) (.cons (.ite (.cmp .gt (.ix (.var 0) (.lit (.int (2)))) (.lit (.int (0)))) (.cons (.set 4 (.op .mod (.blt .int (.cons (.ix (.var 0) (.lit (.int (2)))) .nil)) (.var 1))) (.cons (.sub (.var 0) (.lit (.int (2))) (.op .fdiv (.ix (.var 0) (.lit (.int (2)))) (.var 1))) (.cons (.ret (.var 4)) .nil))) .nil) (.cons (.set 2 (.lit (.int (0)))) (.cons (.ite (.cmp .gt (.blt .len (.cons (.ix (.var 0) (.lit (.int (0)))) .nil)) (.lit (.int (0)))) (.cons (.set 2 (.blt .abs (.cons (.ix (.ix (.var 0) (.lit (.int (0)))) (.op .mod (.blt .int (.cons (.ix (.var 0) (.lit (.int (1)))) .nil)) (.blt .len (.cons (.ix (.var 0) (.lit (.int (0)))) .nil)))) .nil))) .nil) .nil) (.cons (.sub (.var 0) (.lit (.int (1))) (.op .add (.ix (.var 0) (.lit (.int (1)))) (.lit (.int (1))))) (.cons (.ite (.cmp .ge (.var 2) (.op .pow (.lit (.int (10))) (.lit (.int (18))))) (.cons (.sub (.var 0) (.lit (.int (2))) (.op .fdiv (.var 2) (.var 1))) (.cons (.ret (.op .mod (.blt .int (.cons (.var 2) .nil)) (.var 1))) .nil)) .nil) (.cons (.set 3 (.op .mod (.blt .int (.cons (.op .add (.op .mul (.op .add (.var 2) (.lit (.int (1)))) (.lit (.int (48271)))) (.op .mul (.ix (.var 0) (.lit (.int (3)))) (.lit (.int (69621))))) .nil)) (.lit (.int (2147483647))))) (.cons (.set 3 (.op .mod (.blt .int (.cons (.op .add (.op .add (.op .mul (.var 3) (.lit (.int (16807)))) (.op .fdiv (.var 2) (.lit (.int (97))))) (.ix (.var 0) (.lit (.int (3))))) .nil)) (.lit (.int (2147483629))))) (.cons (.ret (.op .mod (.op .fdiv (.var 3) (.lit (.int (11)))) (.var 1))) .nil)))))))))
def b__law_is_int : Ss := (.cons (.ret (.and (.isi (.var 0) [.int]) (.not (.isi (.var 0) [.bool])))) .nil)
def e__law_same_1 : E := (.call "_law_same" (.cons (.ix (.var 0) (.var 2)) (.cons (.ix (.var 1) (.var 2)) .nil)))
def b__law_same : Ss := (.cons (.ite (.isi (.var 1) [.tuple]) (.cons (.ite (.or (.not (.isi (.var 0) [.tuple])) (.cmp .ne (.blt .len (.cons (.var 0) .nil)) (.blt .len (.cons (.var 1) .nil)))) (.cons (.ret (.lit (.bl false))) .nil) .nil) (.cons (.ret (.comp (some .all) e__law_same_1 (.nm 2) (.rng1 (.blt .len (.cons (.var 1) .nil))) .none [2])) .nil)) .nil) (.cons (.ite (.isi (.var 1) [.str]) (.cons (.ret (.and (.isi (.var 0) [.str]) (.cmp .eq (.var 0) (.var 1)))) .nil) .nil) (.cons (.ret (.and (.call "_law_is_int" (.cons (.var 0) .nil)) (.cmp .eq (.var 0) (.var 1)))) .nil)))
def s__law_gcd_1 : Ss := (.cons (.set 2 (.op .mod (.blt .int (.cons (.var 0) .nil)) (.var 1))) (.cons (.set 0 (.var 1)) (.cons (.set 1 (.var 2)) .nil)))
def e__law_gcd_2 : E := (.cmp .ne (.var 1) (.lit (.int (0))))
def b__law_gcd : Ss := (.cons (.whl e__law_gcd_2 s__law_gcd_1) (.cons (.ret (.var 0)) .nil))
def b__law_fraction : Ss := (.cons (.set 2 (.call "_law_gcd" (.cons (.blt .abs (.cons (.var 0) .nil)) (.cons (.var 1) .nil)))) (.cons (.ret (.tup (.cons (.op .fdiv (.var 0) (.var 2)) (.cons (.op .fdiv (.var 1) (.var 2)) .nil)))) .nil))
def b__law_plus : Ss := (.cons (.ret (.call "_law_fraction" (.cons (.op .add (.op .mul (.ix (.var 0) (.lit (.int (0)))) (.ix (.var 1) (.lit (.int (1))))) (.op .mul (.ix (.var 1) (.lit (.int (0)))) (.ix (.var 0) (.lit (.int (1)))))) (.cons (.op .mul (.ix (.var 0) (.lit (.int (1)))) (.ix (.var 1) (.lit (.int (1))))) .nil)))) .nil)
def b__law_times : Ss := (.cons (.ret (.call "_law_fraction" (.cons (.op .mul (.ix (.var 0) (.lit (.int (0)))) (.ix (.var 1) (.lit (.int (0))))) (.cons (.op .mul (.ix (.var 0) (.lit (.int (1)))) (.ix (.var 1) (.lit (.int (1))))) .nil)))) .nil)
def b__law_note : Ss := (.cons (.sub (.var 0) (.var 1) (.call "_law_plus" (.cons (.mth .get (.var 0) (.cons (.var 1) (.cons (.tup (.cons (.lit (.int (0))) (.cons (.lit (.int (1))) .nil))) .nil))) (.cons (.var 2) .nil)))) .nil)
def b__law_side : Ss := (.cons (.ite (.or (.cmp .eq (.call "_law_draw" (.cons (.var 0) (.cons (.lit (.int (2))) .nil))) (.lit (.int (0)))) (.var 2)) (.cons (.ret (.tup (.cons (.lit (.str "tell")) (.cons (.call "_law_draw" (.cons (.var 0) (.cons (.lit (.int (4))) .nil))) .nil)))) .nil) .nil) (.cons (.ret (.tup (.cons (.lit (.str "node")) (.cons (.call "_law_draw" (.cons (.var 0) (.cons (.var 1) .nil))) .nil)))) .nil))
def e__law_tree_1 : E := (.tup (.cons (.call "_law_side" (.cons (.var 0) (.cons (.var 1) (.cons (.var 2) .nil)))) (.cons (.call "_law_side" (.cons (.var 0) (.cons (.var 1) (.cons (.lit (.bl false)) .nil)))) .nil)))
def b__law_tree : Ss := (.cons (.set 1 (.op .add (.lit (.int (1))) (.call "_law_draw" (.cons (.var 0) (.cons (.lit (.int (5))) .nil))))) (.cons (.set 2 (.cmp .eq (.call "_law_draw" (.cons (.var 0) (.cons (.lit (.int (2))) .nil))) (.lit (.int (0))))) (.cons (.ret (.comp (some .tuple) e__law_tree_1 (.nm 3) (.rng1 (.var 1)) .none [3])) .nil)))
def s__law_walk_1 : Ss := (.cons (.set 4 (.ix (.ix (.var 0) (.var 2)) (.ix (.var 1) (.var 3)))) (.cons (.ite (.cmp .eq (.ix (.var 4) (.lit (.int (0)))) (.lit (.str "tell"))) (.cons (.ret (.tup (.cons (.lit (.str "told")) (.cons (.ix (.var 4) (.lit (.int (1)))) (.cons (.op .add (.var 3) (.lit (.int (1)))) .nil))))) .nil) .nil) (.cons (.set 2 (.ix (.var 4) (.lit (.int (1))))) .nil)))
def b__law_walk : Ss := (.cons (.set 2 (.lit (.int (0)))) (.cons (.for (.nm 3) (.rng1 (.blt .len (.cons (.var 1) .nil))) s__law_walk_1) (.cons (.ret (.tup (.cons (.lit (.str "coins")) .nil))) .nil)))
def s__law_reach_1 : Ss := (.cons (.ite (.and (.cmp .eq (.var 5) (.lit (.str "node"))) (.cmp .notin (.var 6) (.var 2))) (.cons (.exp (.mth .append (.var 2) (.cons (.var 6) .nil))) .nil) .nil) .nil)
def s__law_reach_2 : Ss := (.cons (.for (.tup (.cons (.nm 5) (.cons (.nm 6) .nil))) (.of (.ix (.var 0) (.var 4))) s__law_reach_1) .nil)
def s__law_reach_3 : Ss := (.cons (.for (.nm 4) (.of (.blt .list (.cons (.var 2) .nil))) s__law_reach_2) .nil)
def b__law_reach : Ss := (.cons (.set 2 (.lst (.cons (.var 1) .nil))) (.cons (.for (.nm 3) (.rng1 (.blt .len (.cons (.var 0) .nil))) s__law_reach_3) (.cons (.ret (.var 2)) .nil)))
def e__law_stuck_1 : E := (.var 4)
def s__law_stuck_2 : Ss := (.cons (.set 2 (.op .add (.var 2) (.comp none e__law_stuck_1 (.tup (.cons (.nm 4) (.cons (.nm 5) .nil))) (.of (.ix (.var 0) (.var 3))) .none [4, 5]))) .nil)
def s__law_stuck_3 : Ss := (.cons (.set 2 (.lst .nil)) (.cons (.for (.nm 3) (.of (.call "_law_reach" (.cons (.var 0) (.cons (.var 1) .nil)))) s__law_stuck_2) (.cons (.ite (.cmp .notin (.lit (.str "tell")) (.var 2)) (.cons (.ret (.var 1)) .nil) .nil) .nil)))
def b__law_stuck : Ss := (.cons (.for (.nm 1) (.of (.blt .sorted (.cons (.call "_law_reach" (.cons (.var 0) (.cons (.lit (.int (0))) .nil))) .nil))) s__law_stuck_3) (.cons (.ret (.neg (.lit (.int (1))))) .nil))
def s__law_share_1 : Ss := (.cons (.ite (.cmp .eq (.var 10) (.lit (.str "tell"))) (.cons (.exp (.call "_law_note" (.cons (.var 4) (.cons (.var 11) (.cons (.call "_law_times" (.cons (.ix (.var 3) (.var 8)) (.cons (.tup (.cons (.lit (.int (1))) (.cons (.lit (.int (2))) .nil))) .nil))) .nil))))) .nil) (.cons (.exp (.call "_law_note" (.cons (.var 9) (.cons (.var 11) (.cons (.call "_law_times" (.cons (.ix (.var 3) (.var 8)) (.cons (.tup (.cons (.lit (.int (1))) (.cons (.lit (.int (2))) .nil))) .nil))) .nil))))) .nil)) .nil)
def s__law_share_2 : Ss := (.cons (.set 5 (.call "_law_plus" (.cons (.var 5) (.cons (.ix (.var 3) (.var 8)) .nil)))) (.cons (.for (.tup (.cons (.nm 10) (.cons (.nm 11) .nil))) (.of (.ix (.var 0) (.var 8))) s__law_share_1) .nil))
def s__law_share_3 : Ss := (.cons (.set 9 .dnew) (.cons (.for (.nm 8) (.of (.var 3)) s__law_share_2) (.cons (.set 3 (.var 9)) .nil)))
def s__law_share_4 : Ss := (.cons (.set 7 (.call "_law_plus" (.cons (.var 7) (.cons (.ix (.var 3) (.var 8)) .nil)))) .nil)
def b__law_share : Ss := (.cons (.set 3 (.disp (.cons (.var 1) .nil) (.cons (.tup (.cons (.lit (.int (1))) (.cons (.lit (.int (1))) .nil))) .nil))) (.cons (.set 4 .dnew) (.cons (.set 5 (.tup (.cons (.lit (.int (0))) (.cons (.lit (.int (1))) .nil)))) (.cons (.for (.nm 6) (.rng1 (.var 2)) s__law_share_3) (.cons (.set 7 (.tup (.cons (.lit (.int (0))) (.cons (.lit (.int (1))) .nil)))) (.cons (.for (.nm 8) (.of (.var 3)) s__law_share_4) (.cons (.ret (.tup (.cons (.var 4) (.cons (.var 7) (.cons (.var 5) .nil))))) .nil)))))))
def b__law_no_more : Ss := (.cons (.ret (.cmp .le (.op .mul (.ix (.var 0) (.lit (.int (0)))) (.ix (.var 1) (.lit (.int (1))))) (.op .mul (.ix (.var 1) (.lit (.int (0)))) (.ix (.var 0) (.lit (.int (1))))))) .nil)
def s__law_is_law_1 : Ss := (.cons (.ite (.or (.not (.call "_law_is_int" (.cons (.var 6) .nil))) (.or (.cmp .notin (.var 6) (.var 3)) (.or (.not (.call "_law_same" (.cons (.var 7) (.cons (.call "_law_fraction" (.cons (.ix (.var 7) (.lit (.int (0)))) (.cons (.ix (.var 7) (.lit (.int (1)))) .nil))) .nil)))) (.cmp .le (.ix (.var 7) (.lit (.int (0)))) (.lit (.int (0))))))) (.cons (.ret (.lit (.bl false))) .nil) .nil) (.cons (.set 8 (.mth .get (.var 3) (.cons (.var 6) (.cons (.tup (.cons (.lit (.int (0))) (.cons (.lit (.int (1))) .nil))) .nil)))) (.cons (.ite (.or (.not (.call "_law_no_more" (.cons (.var 8) (.cons (.var 7) .nil)))) (.not (.call "_law_no_more" (.cons (.var 7) (.cons (.call "_law_plus" (.cons (.var 8) (.cons (.var 4) .nil))) .nil))))) (.cons (.ret (.lit (.bl false))) .nil) .nil) (.cons (.set 2 (.call "_law_plus" (.cons (.var 2) (.cons (.var 7) .nil)))) .nil))))
def e__law_is_law_2 : E := (.cmp .ge (.ix (.ix (.var 1) (.var 9)) (.lit (.int (0)))) (.ix (.ix (.var 1) (.op .add (.var 9) (.lit (.int (1))))) (.lit (.int (0)))))
def e__law_is_law_3 : E := (.var 10)
def e__law_is_law_4 : E := (.cmp .isin (.var 6) (.comp none e__law_is_law_3 (.tup (.cons (.nm 10) (.cons (.nm 7) .nil))) (.of (.var 1)) .none [10, 7]))
def b__law_is_law : Ss := (.cons (.asg (.tup (.cons (.nm 3) (.cons (.nm 4) (.cons (.nm 5) .nil)))) (.call "_law_share" (.cons (.var 0) (.cons (.lit (.int (0))) (.cons (.lit (.int (12))) .nil))))) (.cons (.set 2 (.tup (.cons (.lit (.int (0))) (.cons (.lit (.int (1))) .nil)))) (.cons (.for (.tup (.cons (.nm 6) (.cons (.nm 7) .nil))) (.of (.var 1)) s__law_is_law_1) (.cons (.ite (.comp (some .any) e__law_is_law_2 (.nm 9) (.rng1 (.op .sub (.blt .len (.cons (.var 1) .nil)) (.lit (.int (1))))) .none [9]) (.cons (.ret (.lit (.bl false))) .nil) .nil) (.cons (.ret (.and (.cmp .eq (.var 2) (.tup (.cons (.lit (.int (1))) (.cons (.lit (.int (1))) .nil)))) (.comp (some .all) e__law_is_law_4 (.nm 6) (.of (.var 3)) .none [6]))) .nil)))))
def e__law_turned_1 : E := (.var 4)
def s__law_turned_2 : Ss := (.cons (.ite (.cmp .eq (.var 6) (.lit (.str "node"))) (.cons (.set 7 (.mth .index (.var 2) (.cons (.var 7) .nil))) .nil) .nil) (.cons (.exp (.mth .append (.var 5) (.cons (.tup (.cons (.var 6) (.cons (.var 7) .nil))) .nil))) .nil))
def s__law_turned_3 : Ss := (.cons (.set 5 (.lst .nil)) (.cons (.for (.tup (.cons (.nm 6) (.cons (.nm 7) .nil))) (.of (.ix (.var 0) (.var 4))) s__law_turned_2) (.cons (.exp (.mth .append (.var 3) (.cons (.blt .tuple (.cons (.var 5) .nil)) .nil))) .nil)))
def b__law_turned : Ss := (.cons (.set 2 (.op .add (.lst (.cons (.var 1) .nil)) (.comp none e__law_turned_1 (.nm 4) (.rng1 (.blt .len (.cons (.var 0) .nil))) (.some (.cmp .ne (.var 4) (.var 1))) [4]))) (.cons (.set 3 (.lst .nil)) (.cons (.for (.nm 4) (.of (.var 2)) s__law_turned_3) (.cons (.ret (.blt .tuple (.cons (.var 3) .nil))) .nil))))
def s__law_mean_fits_1 : Ss := (.cons (.ite (.cmp .eq (.var 6) (.lit (.str "node"))) (.cons (.set 2 (.call "_law_plus" (.cons (.var 2) (.cons (.call "_law_times" (.cons (.tup (.cons (.lit (.int (1))) (.cons (.lit (.int (2))) .nil))) (.cons (.call "tree_mean" (.cons (.call "_law_turned" (.cons (.var 0) (.cons (.var 7) .nil))) .nil)) .nil))) .nil)))) .nil) .nil) .nil)
def b__law_mean_fits : Ss := (.cons (.set 1 (.call "tree_mean" (.cons (.var 0) .nil))) (.cons (.asg (.tup (.cons (.nm 3) (.cons (.nm 4) (.cons (.nm 5) .nil)))) (.call "_law_share" (.cons (.var 0) (.cons (.lit (.int (0))) (.cons (.lit (.int (12))) .nil))))) (.cons (.ite (.or (.not (.call "_law_same" (.cons (.var 1) (.cons (.call "_law_fraction" (.cons (.ix (.var 1) (.lit (.int (0)))) (.cons (.ix (.var 1) (.lit (.int (1)))) .nil))) .nil)))) (.not (.call "_law_no_more" (.cons (.var 5) (.cons (.var 1) .nil))))) (.cons (.ret (.lit (.bl false))) .nil) .nil) (.cons (.set 2 (.tup (.cons (.lit (.int (1))) (.cons (.lit (.int (1))) .nil)))) (.cons (.for (.tup (.cons (.nm 6) (.cons (.nm 7) .nil))) (.of (.ix (.var 0) (.lit (.int (0))))) s__law_mean_fits_1) (.cons (.ret (.cmp .eq (.var 1) (.var 2))) .nil))))))
def b__law_refuses : Ss := (.cons (.tryx (.cons (.exp (.call "tree_mean" (.cons (.var 0) .nil))) .nil) [("NotFit", true)] 1 (.and (.word "stays") (.isi [("NotFit", true)]))) (.cons (.ret (.lit (.bl false))) .nil))
def e_law_1 : E := (.call "_law_draw" (.cons (.var 1) (.cons (.lit (.int (2))) .nil)))
def s_law_2 : Ss := (.cons (.set 7 (.comp (some .tuple) e_law_1 (.nm 8) (.rng1 (.var 4)) .none [8])) (.cons (.ite (.not (.call "_law_same" (.cons (.call "walk_tree" (.cons (.var 3) (.cons (.var 7) .nil))) (.cons (.call "_law_walk" (.cons (.var 3) (.cons (.var 7) .nil))) .nil)))) (.cons (.ret (.lit (.bl false))) .nil) .nil) .nil))
def s_law_3 : Ss := (.cons (.set 3 (.call "_law_tree" (.cons (.var 1) .nil))) (.cons (.ite (.cmp .isnot (.call "is_tree" (.cons (.var 3) .nil)) (.lit (.bl true))) (.cons (.ret (.lit (.bl false))) .nil) .nil) (.cons (.for (.nm 4) (.of (.lst (.cons (.lit (.int (0))) (.cons (.lit (.int (1))) (.cons (.lit (.int (3))) (.cons (.lit (.int (7))) .nil)))))) s_law_2) (.cons (.set 5 (.call "_law_stuck" (.cons (.var 3) .nil))) (.cons (.set 6 (.call "tree_law" (.cons (.var 3) .nil))) (.cons (.ite (.cmp .ge (.var 5) (.lit (.int (0)))) (.cons (.ite (.or (.not (.call "_law_same" (.cons (.var 6) (.cons (.tup (.cons (.lit (.str "stays")) (.cons (.var 5) .nil))) .nil)))) (.not (.call "_law_refuses" (.cons (.var 3) .nil)))) (.cons (.ret (.lit (.bl false))) .nil) .nil) .nil) (.cons (.ite (.or (.not (.isi (.var 6) [.tuple])) (.or (.cmp .ne (.blt .len (.cons (.var 6) .nil)) (.lit (.int (2)))) (.or (.cmp .ne (.ix (.var 6) (.lit (.int (0)))) (.lit (.str "law"))) (.not (.call "_law_is_law" (.cons (.var 3) (.cons (.ix (.var 6) (.lit (.int (1)))) .nil))))))) (.cons (.ret (.lit (.bl false))) .nil) (.cons (.ite (.not (.call "_law_mean_fits" (.cons (.var 3) .nil))) (.cons (.ret (.lit (.bl false))) .nil) .nil) .nil)) .nil)) .nil))))))
def b_law : Ss := (.cons (.set 1 (.call "_law_start" (.cons (.var 0) .nil))) (.cons (.for (.nm 2) (.rng1 (.lit (.int (2)))) s_law_3) (.cons (.ret (.lit (.bl true))) .nil)))
def d_fraction : Mi.Dn := ⟨⟨("fraction", none), "fraction", "fraction", defArgs (top 5), defBody (top 5), defScope (top 5), [], []⟩, [("n" : Str), ("d" : Str)], [("n" : Str), ("d" : Str), ("common" : Str)], b_fraction⟩
def d_plus : Mi.Dn := ⟨⟨("plus", none), "plus", "plus", defArgs (top 6), defBody (top 6), defScope (top 6), [], []⟩, [("a" : Str), ("b" : Str)], [("a" : Str), ("b" : Str)], b_plus⟩
def d_minus : Mi.Dn := ⟨⟨("minus", none), "minus", "minus", defArgs (top 7), defBody (top 7), defScope (top 7), [], []⟩, [("a" : Str), ("b" : Str)], [("a" : Str), ("b" : Str)], b_minus⟩
def d_times : Mi.Dn := ⟨⟨("times", none), "times", "times", defArgs (top 8), defBody (top 8), defScope (top 8), [], []⟩, [("a" : Str), ("b" : Str)], [("a" : Str), ("b" : Str)], b_times⟩
def d_over : Mi.Dn := ⟨⟨("over", none), "over", "over", defArgs (top 9), defBody (top 9), defScope (top 9), [], []⟩, [("a" : Str), ("b" : Str)], [("a" : Str), ("b" : Str)], b_over⟩
def d_met_nodes : Mi.Dn := ⟨⟨("met_nodes", none), "met_nodes", "met_nodes", defArgs (top 14), defBody (top 14), defScope (top 14), [], []⟩, [("tree" : Str), ("start" : Str)], [("tree" : Str), ("start" : Str), ("found" : Str), ("waiting" : Str), ("at" : Str), ("kind" : Str), ("number" : Str)], b_met_nodes⟩
def d_ending_nodes : Mi.Dn := ⟨⟨("ending_nodes", none), "ending_nodes", "ending_nodes", defArgs (top 15), defBody (top 15), defScope (top 15), [], []⟩, [("tree" : Str), ("met" : Str)], [("tree" : Str), ("met" : Str), ("ending" : Str), ("growing" : Str), ("more" : Str), ("at" : Str), ("kind" : Str), ("number" : Str)], b_ending_nodes⟩
def d_stuck_node : Mi.Dn := ⟨⟨("stuck_node", none), "stuck_node", "stuck_node", defArgs (top 16), defBody (top 16), defScope (top 16), [], []⟩, [("tree" : Str), ("start" : Str)], [("tree" : Str), ("start" : Str), ("met" : Str), ("ending" : Str), ("at" : Str)], b_stuck_node⟩
def d_ways_of : Mi.Dn := ⟨⟨("ways_of", none), "ways_of", "ways_of", defArgs (top 17), defBody (top 17), defScope (top 17), [], []⟩, [("tree" : Str), ("met" : Str)], [("tree" : Str), ("met" : Str), ("ways" : Str), ("at" : Str), ("kind" : Str), ("number" : Str)], b_ways_of⟩
def d_left_out : Mi.Dn := ⟨⟨("left_out", none), "left_out", "left_out", defArgs (top 18), defBody (top 18), defScope (top 18), [], []⟩, [("ways" : Str), ("met" : Str), ("at" : Str)], [("ways" : Str), ("met" : Str), ("at" : Str), ("own" : Str), ("again" : Str), ("coming" : Str), ("before" : Str), ("row" : Str), ("node" : Str), ("chance" : Str)], b_left_out⟩
def d_visits : Mi.Dn := ⟨⟨("visits", none), "visits", "visits", defArgs (top 19), defBody (top 19), defScope (top 19), [], []⟩, [("tree" : Str), ("start" : Str)], [("tree" : Str), ("start" : Str), ("met" : Str), ("order" : Str), ("ways" : Str), ("coming" : Str), ("k" : Str), ("found" : Str), ("at" : Str), ("total" : Str), ("before" : Str), ("chance" : Str)], b_visits⟩
def d_law_from : Mi.Dn := ⟨⟨("law_from", none), "law_from", "law_from", defArgs (top 20), defBody (top 20), defScope (top 20), [], []⟩, [("tree" : Str), ("start" : Str)], [("tree" : Str), ("start" : Str), ("table" : Str), ("at" : Str), ("many" : Str), ("kind" : Str), ("number" : Str)], b_law_from⟩
def d_mean_from : Mi.Dn := ⟨⟨("mean_from", none), "mean_from", "mean_from", defArgs (top 21), defBody (top 21), defScope (top 21), [], []⟩, [("tree" : Str), ("start" : Str)], [("tree" : Str), ("start" : Str), ("total" : Str), ("at" : Str), ("many" : Str)], b_mean_from⟩
def d_tree_law : Mi.Dn := ⟨⟨("tree_law", none), "tree_law", "tree_law", defArgs (top 22), defBody (top 22), defScope (top 22), [], []⟩, [("tree" : Str)], [("tree" : Str), ("stuck" : Str)], b_tree_law⟩
def d_tree_mean : Mi.Dn := ⟨⟨("tree_mean", none), "tree_mean", "tree_mean", defArgs (top 23), defBody (top 23), defScope (top 23), [], []⟩, [("tree" : Str)], [("tree" : Str)], b_tree_mean⟩
def d_is_number : Mi.Dn := ⟨⟨("is_number", none), "is_number", "is_number", defArgs (top 25), defBody (top 25), defScope (top 25), [], []⟩, [("datum" : Str)], [("datum" : Str)], b_is_number⟩
def d_is_side : Mi.Dn := ⟨⟨("is_side", none), "is_side", "is_side", defArgs (top 26), defBody (top 26), defScope (top 26), [], []⟩, [("datum" : Str), ("many" : Str)], [("datum" : Str), ("many" : Str)], b_is_side⟩
def d_is_node : Mi.Dn := ⟨⟨("is_node", none), "is_node", "is_node", defArgs (top 27), defBody (top 27), defScope (top 27), [], []⟩, [("datum" : Str), ("many" : Str)], [("datum" : Str), ("many" : Str), ("side" : Str)], b_is_node⟩
def d_is_tree : Mi.Dn := ⟨⟨("is_tree", none), "is_tree", "is_tree", defArgs (top 28), defBody (top 28), defScope (top 28), [], []⟩, [("datum" : Str)], [("datum" : Str), ("node" : Str)], b_is_tree⟩
def d_walk_tree : Mi.Dn := ⟨⟨("walk_tree", none), "walk_tree", "walk_tree", defArgs (top 29), defBody (top 29), defScope (top 29), [], []⟩, [("tree" : Str), ("coins" : Str)], [("tree" : Str), ("coins" : Str), ("at" : Str), ("used" : Str), ("coin" : Str), ("kind" : Str), ("number" : Str)], b_walk_tree⟩
def d__law_start : Mi.Dn := ⟨⟨("_law_start", none), "_law_start", "_law_start", defArgs (top 31), defBody (top 31), defScope (top 31), [], []⟩, [("script" : Str)], [("script" : Str)], b__law_start⟩
def d__law_draw : Mi.Dn := ⟨⟨("_law_draw", none), "_law_draw", "_law_draw", defArgs (top 32), defBody (top 32), defScope (top 32), [], []⟩, [("state" : Str), ("most" : Str)], [("state" : Str), ("most" : Str), ("cell" : Str), ("mixed" : Str), ("found" : Str)], b__law_draw⟩
def d__law_is_int : Mi.Dn := ⟨⟨("_law_is_int", none), "_law_is_int", "_law_is_int", defArgs (top 33), defBody (top 33), defScope (top 33), [], []⟩, [("x" : Str)], [("x" : Str)], b__law_is_int⟩
def d__law_same : Mi.Dn := ⟨⟨("_law_same", none), "_law_same", "_law_same", defArgs (top 34), defBody (top 34), defScope (top 34), [], []⟩, [("x" : Str), ("y" : Str)], [("x" : Str), ("y" : Str), ("k" : Str)], b__law_same⟩
def d__law_gcd : Mi.Dn := ⟨⟨("_law_gcd", none), "_law_gcd", "_law_gcd", defArgs (top 35), defBody (top 35), defScope (top 35), [], []⟩, [("a" : Str), ("b" : Str)], [("a" : Str), ("b" : Str), ("rest" : Str)], b__law_gcd⟩
def d__law_fraction : Mi.Dn := ⟨⟨("_law_fraction", none), "_law_fraction", "_law_fraction", defArgs (top 36), defBody (top 36), defScope (top 36), [], []⟩, [("n" : Str), ("d" : Str)], [("n" : Str), ("d" : Str), ("common" : Str)], b__law_fraction⟩
def d__law_plus : Mi.Dn := ⟨⟨("_law_plus", none), "_law_plus", "_law_plus", defArgs (top 37), defBody (top 37), defScope (top 37), [], []⟩, [("a" : Str), ("b" : Str)], [("a" : Str), ("b" : Str)], b__law_plus⟩
def d__law_times : Mi.Dn := ⟨⟨("_law_times", none), "_law_times", "_law_times", defArgs (top 38), defBody (top 38), defScope (top 38), [], []⟩, [("a" : Str), ("b" : Str)], [("a" : Str), ("b" : Str)], b__law_times⟩
def d__law_note : Mi.Dn := ⟨⟨("_law_note", none), "_law_note", "_law_note", defArgs (top 39), defBody (top 39), defScope (top 39), [], []⟩, [("table" : Str), ("row" : Str), ("share" : Str)], [("table" : Str), ("row" : Str), ("share" : Str)], b__law_note⟩
def d__law_side : Mi.Dn := ⟨⟨("_law_side", none), "_law_side", "_law_side", defArgs (top 40), defBody (top 40), defScope (top 40), [], []⟩, [("state" : Str), ("many" : Str), ("ending" : Str)], [("state" : Str), ("many" : Str), ("ending" : Str)], b__law_side⟩
def d__law_tree : Mi.Dn := ⟨⟨("_law_tree", none), "_law_tree", "_law_tree", defArgs (top 41), defBody (top 41), defScope (top 41), [], []⟩, [("state" : Str)], [("state" : Str), ("many" : Str), ("ending" : Str), ("at" : Str)], b__law_tree⟩
def d__law_walk : Mi.Dn := ⟨⟨("_law_walk", none), "_law_walk", "_law_walk", defArgs (top 42), defBody (top 42), defScope (top 42), [], []⟩, [("tree" : Str), ("coins" : Str)], [("tree" : Str), ("coins" : Str), ("at" : Str), ("k" : Str), ("side" : Str)], b__law_walk⟩
def d__law_reach : Mi.Dn := ⟨⟨("_law_reach", none), "_law_reach", "_law_reach", defArgs (top 43), defBody (top 43), defScope (top 43), [], []⟩, [("tree" : Str), ("first" : Str)], [("tree" : Str), ("first" : Str), ("found" : Str), ("at" : Str), ("node" : Str), ("kind" : Str), ("number" : Str)], b__law_reach⟩
def d__law_stuck : Mi.Dn := ⟨⟨("_law_stuck", none), "_law_stuck", "_law_stuck", defArgs (top 44), defBody (top 44), defScope (top 44), [], []⟩, [("tree" : Str)], [("tree" : Str), ("at" : Str), ("kinds" : Str), ("node" : Str), ("kind" : Str), ("number" : Str)], b__law_stuck⟩
def d__law_share : Mi.Dn := ⟨⟨("_law_share", none), "_law_share", "_law_share", defArgs (top 45), defBody (top 45), defScope (top 45), [], []⟩, [("tree" : Str), ("first" : Str), ("turns" : Str)], [("tree" : Str), ("first" : Str), ("turns" : Str), ("standing" : Str), ("told" : Str), ("used" : Str), ("turn" : Str), ("left" : Str), ("node" : Str), ("further" : Str), ("kind" : Str), ("number" : Str)], b__law_share⟩
def d__law_no_more : Mi.Dn := ⟨⟨("_law_no_more", none), "_law_no_more", "_law_no_more", defArgs (top 46), defBody (top 46), defScope (top 46), [], []⟩, [("a" : Str), ("b" : Str)], [("a" : Str), ("b" : Str)], b__law_no_more⟩
def d__law_is_law : Mi.Dn := ⟨⟨("_law_is_law", none), "_law_is_law", "_law_is_law", defArgs (top 47), defBody (top 47), defScope (top 47), [], []⟩, [("tree" : Str), ("found" : Str)], [("tree" : Str), ("found" : Str), ("whole" : Str), ("told" : Str), ("left" : Str), ("used" : Str), ("number" : Str), ("share" : Str), ("least" : Str), ("k" : Str), ("n" : Str)], b__law_is_law⟩
def d__law_turned : Mi.Dn := ⟨⟨("_law_turned", none), "_law_turned", "_law_turned", defArgs (top 48), defBody (top 48), defScope (top 48), [], []⟩, [("tree" : Str), ("first" : Str)], [("tree" : Str), ("first" : Str), ("order" : Str), ("found" : Str), ("at" : Str), ("sides" : Str), ("kind" : Str), ("number" : Str)], b__law_turned⟩
def d__law_mean_fits : Mi.Dn := ⟨⟨("_law_mean_fits", none), "_law_mean_fits", "_law_mean_fits", defArgs (top 49), defBody (top 49), defScope (top 49), [], []⟩, [("tree" : Str)], [("tree" : Str), ("mean" : Str), ("due" : Str), ("told" : Str), ("left" : Str), ("used" : Str), ("kind" : Str), ("number" : Str)], b__law_mean_fits⟩
def d__law_refuses : Mi.Dn := ⟨⟨("_law_refuses", none), "_law_refuses", "_law_refuses", defArgs (top 50), defBody (top 50), defScope (top 50), [], []⟩, [("tree" : Str)], [("tree" : Str), ("e" : Str)], b__law_refuses⟩
def d_law : Mi.Dn := ⟨⟨("law", none), "law", "law", defArgs (top 51), defBody (top 51), defScope (top 51), [], []⟩, [("script" : Str)], [("script" : Str), ("state" : Str), ("turn" : Str), ("tree" : Str), ("many" : Str), ("stuck" : Str), ("found" : Str), ("coins" : Str), ("k" : Str)], b_law⟩
def fs : List Mi.Dn := [d_fraction, d_plus, d_minus, d_times, d_over, d_met_nodes, d_ending_nodes, d_stuck_node, d_ways_of, d_left_out, d_visits, d_law_from, d_mean_from, d_tree_law, d_tree_mean, d_is_number, d_is_side, d_is_node, d_is_tree, d_walk_tree, d__law_start, d__law_draw, d__law_is_int, d__law_same, d__law_gcd, d__law_fraction, d__law_plus, d__law_times, d__law_note, d__law_side, d__law_tree, d__law_walk, d__law_reach, d__law_stuck, d__law_share, d__law_no_more, d__law_is_law, d__law_turned, d__law_mean_fits, d__law_refuses, d_law]
def fsG : List Mi.Dn := [d_fraction, d_plus, d_minus, d_times, d_over, d_met_nodes, d_ending_nodes, d_stuck_node, d_ways_of, d_left_out, d_visits, d_law_from, d_mean_from, d_tree_law, d_tree_mean, d_is_number, d_is_side, d_is_node, d_is_tree, d_walk_tree, d__law_start, d__law_draw, d__law_is_int, d__law_same, d__law_gcd, d__law_fraction, d__law_plus, d__law_times, d__law_note, d__law_side, d__law_tree, d__law_walk, d__law_reach, d__law_stuck, d__law_share, d__law_no_more, d__law_is_law, d__law_turned, d__law_mean_fits, d__law_refuses, d_law]
def fsM : List Mi.Dn := []
def fsI : List Mi.Dn := []
def fsC : List Mi.Dn := []
def bd (x : Str) : Option (Nat × Nat × Ss) := match fs.find? fun d => decide (d.d.qual = x) with
  | some d => some (d.ps.length, d.N.length, d.body)
  | none => none
def initOf (j : Nat) : Stmt → Stmt
  | .ClassDef _ _ _ b _ _ _ _ _ _ _ => b.getD j (.Pass ⟨0, 0, 0, 0⟩)
  | s => s
def i_NotFit : Mi.InD := ⟨"NotFit", "__init__", "NotFit.__init__", defArgs (initOf 0 (top 3)), defBody (initOf 0 (top 3)), defScope (initOf 0 (top 3))⟩
def ins : List Mi.InD := [i_NotFit]
def gl : List (Str × D) := [("ZERO", .tup [.int (0), .int (1)]), ("ONE", .tup [.int (1), .int (1)]), ("HALF", .tup [.int (1), .int (2)])]
end K49
set_option maxHeartbeats 0
namespace K49
open PySem PySem.Spec PyProof.Rows L2 Mi
theorem ok_fraction : DnOk Tm d_fraction := ⟨C8.fnScope_by (by decide +kernel), ⟨300, by kernel_rfl⟩, fun _ _ _ _ _ _ us hl => match us, hl with | [_, _], _ => rfl⟩
theorem ok_plus : DnOk Tm d_plus := ⟨C8.fnScope_by (by decide +kernel), ⟨300, by kernel_rfl⟩, fun _ _ _ _ _ _ us hl => match us, hl with | [_, _], _ => rfl⟩
theorem ok_minus : DnOk Tm d_minus := ⟨C8.fnScope_by (by decide +kernel), ⟨300, by kernel_rfl⟩, fun _ _ _ _ _ _ us hl => match us, hl with | [_, _], _ => rfl⟩
theorem ok_times : DnOk Tm d_times := ⟨C8.fnScope_by (by decide +kernel), ⟨300, by kernel_rfl⟩, fun _ _ _ _ _ _ us hl => match us, hl with | [_, _], _ => rfl⟩
theorem ok_over : DnOk Tm d_over := ⟨C8.fnScope_by (by decide +kernel), ⟨300, by kernel_rfl⟩, fun _ _ _ _ _ _ us hl => match us, hl with | [_, _], _ => rfl⟩
theorem ok_met_nodes : DnOk Tm d_met_nodes := ⟨C8.fnScope_by (by decide +kernel), ⟨300, by kernel_rfl⟩, fun _ _ _ _ _ _ us hl => match us, hl with | [_, _], _ => rfl⟩
theorem ok_ending_nodes : DnOk Tm d_ending_nodes := ⟨C8.fnScope_by (by decide +kernel), ⟨300, by kernel_rfl⟩, fun _ _ _ _ _ _ us hl => match us, hl with | [_, _], _ => rfl⟩
theorem ok_stuck_node : DnOk Tm d_stuck_node := ⟨C8.fnScope_by (by decide +kernel), ⟨300, by kernel_rfl⟩, fun _ _ _ _ _ _ us hl => match us, hl with | [_, _], _ => rfl⟩
theorem ok_ways_of : DnOk Tm d_ways_of := ⟨C8.fnScope_by (by decide +kernel), ⟨300, by kernel_rfl⟩, fun _ _ _ _ _ _ us hl => match us, hl with | [_, _], _ => rfl⟩
theorem ok_left_out : DnOk Tm d_left_out := ⟨C8.fnScope_by (by decide +kernel), ⟨300, by kernel_rfl⟩, fun _ _ _ _ _ _ us hl => match us, hl with | [_, _, _], _ => rfl⟩
theorem ok_visits : DnOk Tm d_visits := ⟨C8.fnScope_by (by decide +kernel), ⟨300, by kernel_rfl⟩, fun _ _ _ _ _ _ us hl => match us, hl with | [_, _], _ => rfl⟩
theorem ok_law_from : DnOk Tm d_law_from := ⟨C8.fnScope_by (by decide +kernel), ⟨300, by kernel_rfl⟩, fun _ _ _ _ _ _ us hl => match us, hl with | [_, _], _ => rfl⟩
theorem ok_mean_from : DnOk Tm d_mean_from := ⟨C8.fnScope_by (by decide +kernel), ⟨300, by kernel_rfl⟩, fun _ _ _ _ _ _ us hl => match us, hl with | [_, _], _ => rfl⟩
theorem ok_tree_law : DnOk Tm d_tree_law := ⟨C8.fnScope_by (by decide +kernel), ⟨300, by kernel_rfl⟩, fun _ _ _ _ _ _ us hl => match us, hl with | [_], _ => rfl⟩
theorem ok_tree_mean : DnOk Tm d_tree_mean := ⟨C8.fnScope_by (by decide +kernel), ⟨300, by kernel_rfl⟩, fun _ _ _ _ _ _ us hl => match us, hl with | [_], _ => rfl⟩
theorem ok_is_number : DnOk Tm d_is_number := ⟨C8.fnScope_by (by decide +kernel), ⟨300, by kernel_rfl⟩, fun _ _ _ _ _ _ us hl => match us, hl with | [_], _ => rfl⟩
theorem ok_is_side : DnOk Tm d_is_side := ⟨C8.fnScope_by (by decide +kernel), ⟨300, by kernel_rfl⟩, fun _ _ _ _ _ _ us hl => match us, hl with | [_, _], _ => rfl⟩
theorem ok_is_node : DnOk Tm d_is_node := ⟨C8.fnScope_by (by decide +kernel), ⟨300, by kernel_rfl⟩, fun _ _ _ _ _ _ us hl => match us, hl with | [_, _], _ => rfl⟩
theorem ok_is_tree : DnOk Tm d_is_tree := ⟨C8.fnScope_by (by decide +kernel), ⟨300, by kernel_rfl⟩, fun _ _ _ _ _ _ us hl => match us, hl with | [_], _ => rfl⟩
theorem ok_walk_tree : DnOk Tm d_walk_tree := ⟨C8.fnScope_by (by decide +kernel), ⟨300, by kernel_rfl⟩, fun _ _ _ _ _ _ us hl => match us, hl with | [_, _], _ => rfl⟩
theorem ok__law_start : DnOk Tm d__law_start := ⟨C8.fnScope_by (by decide +kernel), ⟨300, by kernel_rfl⟩, fun _ _ _ _ _ _ us hl => match us, hl with | [_], _ => rfl⟩
theorem ok__law_draw : DnOk Tm d__law_draw := ⟨C8.fnScope_by (by decide +kernel), ⟨300, by kernel_rfl⟩, fun _ _ _ _ _ _ us hl => match us, hl with | [_, _], _ => rfl⟩
theorem ok__law_is_int : DnOk Tm d__law_is_int := ⟨C8.fnScope_by (by decide +kernel), ⟨300, by kernel_rfl⟩, fun _ _ _ _ _ _ us hl => match us, hl with | [_], _ => rfl⟩
theorem ok__law_same : DnOk Tm d__law_same := ⟨C8.fnScope_by (by decide +kernel), ⟨300, by kernel_rfl⟩, fun _ _ _ _ _ _ us hl => match us, hl with | [_, _], _ => rfl⟩
theorem ok__law_gcd : DnOk Tm d__law_gcd := ⟨C8.fnScope_by (by decide +kernel), ⟨300, by kernel_rfl⟩, fun _ _ _ _ _ _ us hl => match us, hl with | [_, _], _ => rfl⟩
theorem ok__law_fraction : DnOk Tm d__law_fraction := ⟨C8.fnScope_by (by decide +kernel), ⟨300, by kernel_rfl⟩, fun _ _ _ _ _ _ us hl => match us, hl with | [_, _], _ => rfl⟩
theorem ok__law_plus : DnOk Tm d__law_plus := ⟨C8.fnScope_by (by decide +kernel), ⟨300, by kernel_rfl⟩, fun _ _ _ _ _ _ us hl => match us, hl with | [_, _], _ => rfl⟩
theorem ok__law_times : DnOk Tm d__law_times := ⟨C8.fnScope_by (by decide +kernel), ⟨300, by kernel_rfl⟩, fun _ _ _ _ _ _ us hl => match us, hl with | [_, _], _ => rfl⟩
theorem ok__law_note : DnOk Tm d__law_note := ⟨C8.fnScope_by (by decide +kernel), ⟨300, by kernel_rfl⟩, fun _ _ _ _ _ _ us hl => match us, hl with | [_, _, _], _ => rfl⟩
theorem ok__law_side : DnOk Tm d__law_side := ⟨C8.fnScope_by (by decide +kernel), ⟨300, by kernel_rfl⟩, fun _ _ _ _ _ _ us hl => match us, hl with | [_, _, _], _ => rfl⟩
theorem ok__law_tree : DnOk Tm d__law_tree := ⟨C8.fnScope_by (by decide +kernel), ⟨300, by kernel_rfl⟩, fun _ _ _ _ _ _ us hl => match us, hl with | [_], _ => rfl⟩
theorem ok__law_walk : DnOk Tm d__law_walk := ⟨C8.fnScope_by (by decide +kernel), ⟨300, by kernel_rfl⟩, fun _ _ _ _ _ _ us hl => match us, hl with | [_, _], _ => rfl⟩
theorem ok__law_reach : DnOk Tm d__law_reach := ⟨C8.fnScope_by (by decide +kernel), ⟨300, by kernel_rfl⟩, fun _ _ _ _ _ _ us hl => match us, hl with | [_, _], _ => rfl⟩
theorem ok__law_stuck : DnOk Tm d__law_stuck := ⟨C8.fnScope_by (by decide +kernel), ⟨300, by kernel_rfl⟩, fun _ _ _ _ _ _ us hl => match us, hl with | [_], _ => rfl⟩
theorem ok__law_share : DnOk Tm d__law_share := ⟨C8.fnScope_by (by decide +kernel), ⟨300, by kernel_rfl⟩, fun _ _ _ _ _ _ us hl => match us, hl with | [_, _, _], _ => rfl⟩
theorem ok__law_no_more : DnOk Tm d__law_no_more := ⟨C8.fnScope_by (by decide +kernel), ⟨300, by kernel_rfl⟩, fun _ _ _ _ _ _ us hl => match us, hl with | [_, _], _ => rfl⟩
theorem ok__law_is_law : DnOk Tm d__law_is_law := ⟨C8.fnScope_by (by decide +kernel), ⟨300, by kernel_rfl⟩, fun _ _ _ _ _ _ us hl => match us, hl with | [_, _], _ => rfl⟩
theorem ok__law_turned : DnOk Tm d__law_turned := ⟨C8.fnScope_by (by decide +kernel), ⟨300, by kernel_rfl⟩, fun _ _ _ _ _ _ us hl => match us, hl with | [_, _], _ => rfl⟩
theorem ok__law_mean_fits : DnOk Tm d__law_mean_fits := ⟨C8.fnScope_by (by decide +kernel), ⟨300, by kernel_rfl⟩, fun _ _ _ _ _ _ us hl => match us, hl with | [_], _ => rfl⟩
theorem ok__law_refuses : DnOk Tm d__law_refuses := ⟨C8.fnScope_by (by decide +kernel), ⟨300, by kernel_rfl⟩, fun _ _ _ _ _ _ us hl => match us, hl with | [_], _ => rfl⟩
theorem ok_law : DnOk Tm d_law := ⟨C8.fnScope_by (by decide +kernel), ⟨300, by kernel_rfl⟩, fun _ _ _ _ _ _ us hl => match us, hl with | [_], _ => rfl⟩
theorem ok_all : ∀ d ∈ fs, DnOk Tm d := by
  intro d hd
  simp only [fs, List.mem_cons, List.not_mem_nil, or_false] at hd
  rcases hd with rfl | rfl | rfl | rfl | rfl | rfl | rfl | rfl | rfl | rfl | rfl | rfl | rfl | rfl | rfl | rfl | rfl | rfl | rfl | rfl | rfl | rfl | rfl | rfl | rfl | rfl | rfl | rfl | rfl | rfl | rfl | rfl | rfl | rfl | rfl | rfl | rfl | rfl | rfl | rfl | rfl
  · exact ok_fraction
  · exact ok_plus
  · exact ok_minus
  · exact ok_times
  · exact ok_over
  · exact ok_met_nodes
  · exact ok_ending_nodes
  · exact ok_stuck_node
  · exact ok_ways_of
  · exact ok_left_out
  · exact ok_visits
  · exact ok_law_from
  · exact ok_mean_from
  · exact ok_tree_law
  · exact ok_tree_mean
  · exact ok_is_number
  · exact ok_is_side
  · exact ok_is_node
  · exact ok_is_tree
  · exact ok_walk_tree
  · exact ok__law_start
  · exact ok__law_draw
  · exact ok__law_is_int
  · exact ok__law_same
  · exact ok__law_gcd
  · exact ok__law_fraction
  · exact ok__law_plus
  · exact ok__law_times
  · exact ok__law_note
  · exact ok__law_side
  · exact ok__law_tree
  · exact ok__law_walk
  · exact ok__law_reach
  · exact ok__law_stuck
  · exact ok__law_share
  · exact ok__law_no_more
  · exact ok__law_is_law
  · exact ok__law_turned
  · exact ok__law_mean_fits
  · exact ok__law_refuses
  · exact ok_law
theorem okc_all : ∀ d ∈ fsC, DnOk TmC d ∧ d ∈ fsG := by
  intro d hd
  simp only [fsC, List.mem_cons, List.not_mem_nil, or_false] at hd
theorem ins_NotFit : Mi.InS PySem.Challenge.pw_castbypowers_k49_trees_walked_by_own_han i_NotFit := ⟨NdefX.nscope_by (by decide +kernel), by decide +kernel, by decide +kernel, ⟨_, _, _, _, _, _, _, _, _, _, _, _, _, _, _, rfl, by decide +kernel, _, fun env => rfl⟩, ⟨_, rfl, rfl⟩, fun _ _ _ _ _ us hl => match us, hl with | [_, _], _ => rfl⟩
theorem ins_ok : ∀ d ∈ ins, Mi.InS PySem.Challenge.pw_castbypowers_k49_trees_walked_by_own_han d := by
  intro d hd
  simp only [ins, List.mem_cons, List.not_mem_nil, or_false] at hd
  rcases hd with rfl
  · exact ins_NotFit
end K49
set_option maxHeartbeats 0
namespace K49
open PySem PySem.Spec PyProof.Rows L2 Mi
def fnD : List He.DefD := fs.map (·.d)
def faF : List He.Fa := Tm.free.map He.Fa.free
def faG : List He.Fa := Tm.fns.map He.Fa.glo
def faC : List He.Fa := Tm.mks.flatMap fun y => [.cls y.1, .mkr y.1, .glo y.1]
def faM : List He.Fa := Tm.mth.map fun y => He.Fa.meth y.1 y.2.1
def faA : List He.Fa := Tm.fld.map fun y => He.Fa.noat y.1 y.2
def fa : List He.Fa := faF ++ faG ++ faC ++ faM ++ faA
abbrev R : PySem.W.OpenRow := PySem.W.OpenLaw.row PySem.Challenge.rw_castbypowers_k49_trees_walked_by_own_han
abbrev hk : PySem.W.Hook := Mi.hookE 4 fa fnD PySem.Challenge.pw_castbypowers_k49_trees_walked_by_own_han.main.file ins K49.Tm.sub K49.Tm.mfn gl
def ob (s : PySem.W.SharedT) : Mi.AlE := Mi.obsEG 4 fa fnD PySem.Challenge.pw_castbypowers_k49_trees_walked_by_own_han.main.file ins K49.Tm.sub K49.Tm.mfn gl (HandSHeadRun.getT s)
theorem ob_eq (s : PySem.W.SharedT) : ob s = hk.obs s.abs := Mi.obsEG_eq (HandSHeadRun.getT_eq s)
def loose : List Str := [("CastError" : Str), ("NotFit" : Str), ("fraction" : Str), ("plus" : Str), ("minus" : Str), ("times" : Str), ("over" : Str), ("met_nodes" : Str), ("ending_nodes" : Str), ("stuck_node" : Str), ("ways_of" : Str), ("left_out" : Str), ("visits" : Str), ("law_from" : Str), ("mean_from" : Str), ("tree_law" : Str), ("tree_mean" : Str), ("is_number" : Str), ("is_side" : Str), ("is_node" : Str), ("is_tree" : Str), ("walk_tree" : Str), ("_law_start" : Str), ("_law_draw" : Str), ("_law_is_int" : Str), ("_law_same" : Str), ("_law_gcd" : Str), ("_law_fraction" : Str), ("_law_plus" : Str), ("_law_times" : Str), ("_law_note" : Str), ("_law_side" : Str), ("_law_tree" : Str), ("_law_walk" : Str), ("_law_reach" : Str), ("_law_stuck" : Str), ("_law_share" : Str), ("_law_no_more" : Str), ("_law_is_law" : Str), ("_law_turned" : Str), ("_law_mean_fits" : Str), ("_law_refuses" : Str), ("ZERO" : Str), ("ONE" : Str), ("HALF" : Str), ("gcd" : Str)]
theorem run (w : World) : HandSHeadRun.RunEqI R (PySem.W.view R.prog [0, 51]) hk ob 6000 loose w := by
  unfold HandSHeadRun.RunEqI
  kernel_rfl
end K49
namespace K49
open PySem PySem.Spec PyProof.Rows L2 Mi
abbrev G0 : Str → Option D := fun x => gl.lookup x
abbrev Γ (k : Nat) : Str → FS := Gam bd G0 k
variable {k : Nat} {S : Sto} {Q : KD} {X : KX} {pp : Addr}
def Stt (S : Sto) (a p : Addr) (z : Nat) : Prop := ∃ (ns : List Int) (x y w : Int) (ext : List D), S a = some (.lst (.ref p :: .int x :: .int y :: .int w :: ext)) ∧ S p = some (.lst (ns.map .int)) ∧ 0 ≤ x ∧ 0 ≤ y ∧ 0 ≤ w ∧ w ≤ z ∧ a ≠ p
theorem log63 {i : Int} (h1 : -(2 ^ 64) < i) (h2 : i < 2 ^ 64) : i.natAbs.log2 < 64 := by
  by_cases h : i.natAbs = 0
  · rw [h]; decide
  · rw [Nat.log2_lt h]; omega
theorem mulw {i j : Int} (h1 : -(2 ^ 64) < i) (h2 : i < 2 ^ 64) (h3 : -(2 ^ 64) < j) (h4 : j < 2 ^ 64) : CMulW i j := by
  have a := log63 h1 h2
  have b := log63 h3 h4
  unfold CMulW
  omega
theorem divw {i j : Int} (h3 : 0 < j) (h4 : j < 2 ^ 64) : CDivW i j := ⟨h3, by have := log63 (i := j) (by omega) h4; omega⟩
theorem draw_ok {a : Addr} {z : Nat} {most : Int} (hk : 0 < k) (h0 : 0 < most) (h1 : most < 2 ^ 60) (hz : z < 2 ^ 60) (st : Stt S a pp z) (hQ : ∀ (r : Int) (S' : Sto), 0 ≤ r → r < most → S.off a S' → Stt S' a pp (z + 1) → Q (.int r) S') : Γ k "_law_draw" [.ref a, .int most] S Q X := by
  obtain ⟨ns, x, y, w, ext, ha, hp, hx, hy, hw, hwz, hap⟩ := st
  obtain ⟨p, e0⟩ : ∃ p, p = pp := ⟨_, rfl⟩
  subst e0
  cases k with
  | zero => omega
  | succ k =>
  refine gam (np := 2) (nn := 5) (b := b__law_draw) rfl rfl ?_
  have fin : ∀ (r : Int) (x' y' : Int), 0 ≤ r → r < most → 0 ≤ x' → 0 ≤ y' → ∃ S0, S0.le (S.upd a (.lst (D.ref p :: D.int x' :: D.int y' :: D.int (w + 1) :: ext))) ∧ Q (.int r) S0 := fun r x' y' g1 g2 g3 g4 =>
    ⟨_, Sto.le_refl, hQ r _ g1 g2 Sto.off.refl.set ⟨ns, x', y', w + 1, ext, Sto.upd_same, by rw [Sto.upd_ne (Ne.symm hap)]; exact hp, g3, g4, by omega, by omega, hap⟩⟩
  simp only [b__law_draw, wSs, wS, wT, wE, wEs, wO, wC, wI, wG, wGs, startD, List.map_cons, List.map_nil, List.length_cons, List.length_nil, List.replicate, List.cons_append, List.nil_append, List.append_nil, List.set_cons_zero, List.set_cons_succ, List.getElem?_cons_zero, List.getElem?_cons_succ, itT, wipeD, opAddI, opSubI, opMulI, opDivI, opModI, opPowI, opAddT, cmEq, cmNe, cmLt, cmLe, cmGt, cmGe, cmIn, eqI, eqS, inS2, truB, ixT0, ixT1, ixT2, ixT3, ixT4, ixT6, slcT, lenT, absI, intI, tupleT, listT, listRl, decide_true, decide_false, if_true, if_false, Bool.false_eq_true, reduceIte, decide_eq_true_eq, Bool.not_true, Bool.not_false, line, mI_int, mI_bool, mI_str, mI_tuple, mI_list, mB_int, mB_bool, mB_str, mB_tuple, mB_list, mS_int, mS_bool, mS_str, mS_tuple, mS_list, mT_int, mT_bool, mT_str, mT_tuple, mT_list, mN_int, mN_bool, mN_str, mN_tuple, mN_list, anyT, anyF, Nat.zero_add, Nat.reduceAdd, Nat.reduceLeDiff, true_and, ixS3 ha, setS3 ha, ixU0, ixU1, ixU2, ixU3, setU1, setU2, lenU hap hp, List.length_map]
  by_cases hy0 : 0 < y
  · rw [if_pos hy0]
    exact ⟨h0, divw h0 (by omega), fin _ _ _ (Int.emod_nonneg _ (by omega)) (Int.emod_lt_of_pos _ h0) hx (Int.ediv_nonneg hy (by omega))⟩
  · rw [if_neg hy0]
    have rest : ∀ c : Int, 0 ≤ c → CPow 10 18 ∧ if (10 ^ Int.toNat 18 : Int) ≤ c then CDivW c most ∧ 0 < most ∧ ∃ S0, S0.le (S.upd a (.lst (D.ref p :: D.int (x + 1) :: D.int (c / most) :: D.int (w + 1) :: ext))) ∧ Q (.int (c % most)) S0
        else CMulW (c + 1) 48271 ∧ CMulW (w + 1) 69621 ∧ 0 < (2147483647 : Int) ∧ CMulW (((c + 1) * 48271 + (w + 1) * 69621) % 2147483647) 16807 ∧ CDivW c 97 ∧ 0 < (2147483629 : Int) ∧
          CDivW ((((c + 1) * 48271 + (w + 1) * 69621) % 2147483647 * 16807 + c / 97 + (w + 1)) % 2147483629) 11 ∧ 0 < most ∧ ∃ S0, S0.le (S.upd a (.lst (D.ref p :: D.int (x + 1) :: D.int y :: D.int (w + 1) :: ext))) ∧ Q (.int ((((c + 1) * 48271 + (w + 1) * 69621) % 2147483647 * 16807 + c / 97 + (w + 1)) % 2147483629 / 11 % most)) S0 := by
      intro c hc
      refine ⟨⟨by decide, by decide, by decide⟩, ?_⟩
      by_cases hcc : (10 ^ Int.toNat 18 : Int) ≤ c
      · rw [if_pos hcc]
        exact ⟨divw h0 (by omega), h0, fin _ _ _ (Int.emod_nonneg _ (by omega)) (Int.emod_lt_of_pos _ h0) (by omega) (Int.ediv_nonneg hc (by omega))⟩
      · rw [if_neg hcc]
        have h18 : (10 ^ Int.toNat 18 : Int) = 1000000000000000000 := by decide
        rw [h18] at hcc
        refine ⟨mulw (by omega) (by omega) (by decide) (by decide), mulw (by omega) (by omega) (by decide) (by decide), by decide, ?_, divw (by decide) (by decide), by decide, divw (by decide) (by decide), h0, fin _ _ _ (Int.emod_nonneg _ (by omega)) (Int.emod_lt_of_pos _ h0) (by omega) hy⟩
        have g1 := Int.emod_nonneg ((c + 1) * 48271 + (w + 1) * 69621) (show (2147483647 : Int) ≠ 0 by decide)
        have g2 := Int.emod_lt_of_pos ((c + 1) * 48271 + (w + 1) * 69621) (show (0 : Int) < 2147483647 by decide)
        exact mulw (by omega) (by omega) (by decide) (by decide)
    by_cases hn : (0 : Int) < (ns.length : Int)
    · rw [if_pos hn]
      have j0 := Int.emod_nonneg x (show (ns.length : Int) ≠ 0 by omega)
      have j1 := Int.emod_lt_of_pos x hn
      have hj : (x % (ns.length : Int)).toNat < ns.length := by omega
      have hat : atI (ns.map D.int) (x % (ns.length : Int)) = some (.int ns[(x % (ns.length : Int)).toNat]) := atIk (x % (ns.length : Int)).toNat (by omega) (by simp [hj])
      refine ⟨hn, ?_⟩
      simp only [wSs, wS, wT, wE, wEs, wO, wC, wI, wG, wGs, startD, List.map_cons, List.map_nil, List.length_cons, List.length_nil, List.replicate, List.cons_append, List.nil_append, List.append_nil, List.set_cons_zero, List.set_cons_succ, List.getElem?_cons_zero, List.getElem?_cons_succ, itT, wipeD, opAddI, opSubI, opMulI, opDivI, opModI, opPowI, opAddT, cmEq, cmNe, cmLt, cmLe, cmGt, cmGe, cmIn, eqI, eqS, inS2, truB, ixT0, ixT1, ixT2, ixT3, ixT4, ixT6, slcT, lenT, absI, intI, tupleT, listT, listRl, decide_true, decide_false, if_true, if_false, Bool.false_eq_true, reduceIte, decide_eq_true_eq, Bool.not_true, Bool.not_false, line, mI_int, mI_bool, mI_str, mI_tuple, mI_list, mB_int, mB_bool, mB_str, mB_tuple, mB_list, mS_int, mS_bool, mS_str, mS_tuple, mS_list, mT_int, mT_bool, mT_str, mT_tuple, mT_list, mN_int, mN_bool, mN_str, mN_tuple, mN_list, anyT, anyF, Nat.zero_add, Nat.reduceAdd, Nat.reduceLeDiff, true_and, ixU hap hp hat, ixU0, ixU1, ixU2, ixU3, setU1, setU2]
      exact rest _ (by split <;> omega)
    · rw [if_neg hn]
      exact rest 0 (by omega)
theorem start_ok {ns : List Int} (hk : 0 < k) (hQ : ∀ a pp S', S a = none → S.le S' → Stt S' a pp 0 → Q (.ref a) S') : Γ k "_law_start" [.rl (ns.map .int)] S Q X := by
  cases k with
  | zero => omega
  | succ k =>
  refine gam (np := 1) (nn := 1) (b := b__law_start) rfl rfl ?_
  simp only [b__law_start, wSs, wS, wT, wE, wEs, wO, wC, wI, wG, wGs, startD, List.map_cons, List.map_nil, List.length_cons, List.length_nil, List.replicate, List.cons_append, List.nil_append, List.append_nil, List.set_cons_zero, List.set_cons_succ, List.getElem?_cons_zero, List.getElem?_cons_succ, itT, wipeD, opAddI, opSubI, opMulI, opDivI, opModI, opPowI, opAddT, cmEq, cmNe, cmLt, cmLe, cmGt, cmGe, cmIn, eqI, eqS, inS2, truB, ixT0, ixT1, ixT2, ixT3, ixT4, ixT6, slcT, lenT, absI, intI, tupleT, listT, listRl, decide_true, decide_false, if_true, if_false, Bool.false_eq_true, reduceIte, decide_eq_true_eq, Bool.not_true, Bool.not_false, line, mI_int, mI_bool, mI_str, mI_tuple, mI_list, mB_int, mB_bool, mB_str, mB_tuple, mB_list, mS_int, mS_bool, mS_str, mS_tuple, mS_list, mT_int, mT_bool, mT_str, mT_tuple, mT_list, mN_int, mN_bool, mN_str, mN_tuple, mN_list, anyT, anyF, Nat.zero_add, Nat.reduceAdd, Nat.reduceLeDiff, true_and]
  intro p hp q hq
  have hpq : p ≠ q := Sto.ne_of Sto.upd_same hq
  refine ⟨_, Sto.le_refl, hQ q p _ ?_ (Sto.le_new' (Sto.le_new hp) hq) ⟨ns, 0, 0, 0, [], Sto.upd_same, by rw [Sto.upd_ne hpq, Sto.upd_same], by omega, by omega, by omega, by omega, Ne.symm hpq⟩⟩
  rw [Sto.upd_ne (Ne.symm hpq)] at hq
  exact hq
theorem Stt.ne {a q : Addr} {z : Nat} (st : Stt S a pp z) (h : S q = none) : q ≠ a := by
  obtain ⟨ns, x, y, w, ext, ha, _⟩ := st
  exact (Sto.ne_of ha h).symm
theorem Stt.new {a q : Addr} {z : Nat} {c : Cell} (st : Stt S a pp z) (h : S q = none) : Stt (S.upd q c) a pp z := by
  obtain ⟨ns, x, y, w, ext, ha, hp, r⟩ := st
  exact ⟨ns, x, y, w, ext, by rw [Sto.upd_ne (Sto.ne_of ha h)]; exact ha, by rw [Sto.upd_ne (Sto.ne_of hp h)]; exact hp, r⟩
theorem Stt.more {a : Addr} {z z' : Nat} (st : Stt S a pp z) (h : z ≤ z') : Stt S a pp z' := by
  obtain ⟨ns, x, y, w, ext, ha, hp, h1, h2, h3, h4, h5⟩ := st
  exact ⟨ns, x, y, w, ext, ha, hp, h1, h2, h3, by omega, h5⟩
theorem off_of_new {a q : Addr} {S S' : Sto} {c : Cell} (h : S q = none) (o : (S.upd q c).off a S') : S.off a S' := (Sto.off.refl.new h).trans o
theorem gcd_whl {T : En → Sto → (Bool → Sto → Prop) → Prop} {B : De → En → Sto → Prop} {N : De} (hT : ∀ (a b : Nat) x P, (P (decide ((b : Int) ≠ 0)) S) → T [some (.int a), some (.int b), x] S P)
    (hB : ∀ (a b : Nat) x N', 0 < b → N'.nx [some (.int b), some (.int ((a % b : Nat) : Int)), some (.int ((a % b : Nat) : Int))] S → B N' [some (.int a), some (.int b), x] S) :
    ∀ (n a b : Nat) (x : Option D), b < n → (∀ x', N.nx [some (.int ((Nat.gcd a b : Nat) : Int)), some (.int 0), x'] S) → whlL T B n N [some (.int a), some (.int b), x] S := by
  intro n
  induction n with
  | zero => intro a b x h _; omega
  | succ n ih =>
    intro a b x h hN
    refine hT a b x _ ?_
    by_cases hb : b = 0
    · subst hb
      have e : decide (((0 : Nat) : Int) ≠ 0) = false := by decide
      rw [e]
      have := hN x
      rw [Nat.gcd_zero_right] at this
      exact this
    · have e : decide ((b : Int) ≠ 0) = true := by simp; omega
      rw [e]
      refine hB a b x _ (by omega) ?_
      have hm : a % b < b := Nat.mod_lt _ (by omega)
      refine ih b (a % b) _ (by omega) ?_
      have e2 : Nat.gcd b (a % b) = Nat.gcd a b := by rw [Nat.gcd_comm b, ← Nat.gcd_rec, Nat.gcd_comm]
      rw [e2]
      exact hN
theorem gcd_ok {a b : Nat} (hk : 0 < k) (hQ : Q (.int ((Nat.gcd a b : Nat) : Int)) S) : Γ k "_law_gcd" [.int a, .int b] S Q X := by
  cases k with
  | zero => omega
  | succ k =>
  refine gam (np := 2) (nn := 3) (b := b__law_gcd) rfl rfl ?_
  simp only [b__law_gcd, wSs, wS, wT, wE, wEs, wO, wC, wI, wG, wGs, startD, List.map_cons, List.map_nil, List.length_cons, List.length_nil, List.replicate, List.cons_append, List.nil_append, List.append_nil, List.set_cons_zero, List.set_cons_succ, List.getElem?_cons_zero, List.getElem?_cons_succ, itT, wipeD]
  refine ⟨b + 1, gcd_whl (S := S) ?_ ?_ (b + 1) a b none (by omega) fun x' => ⟨S, Sto.le_refl, hQ⟩⟩
  · intro a b x P hP
    simp only [e__law_gcd_2, wSs, wS, wT, wE, wEs, wO, wC, wI, wG, wGs, startD, List.map_cons, List.map_nil, List.length_cons, List.length_nil, List.replicate, List.cons_append, List.nil_append, List.append_nil, List.set_cons_zero, List.set_cons_succ, List.getElem?_cons_zero, List.getElem?_cons_succ, itT, wipeD, opAddI, opSubI, opMulI, opDivI, opModI, opPowI, opAddT, cmEq, cmNe, cmLt, cmLe, cmGt, cmGe, cmIn, eqI, eqS, inS2, truB, ixT0, ixT1, ixT2, ixT3, ixT4, ixT6, slcT, lenT, absI, intI, tupleT, listT, listRl, decide_true, decide_false, if_true, if_false, Bool.false_eq_true, reduceIte, decide_eq_true_eq, Bool.not_true, Bool.not_false, line, mI_int, mI_bool, mI_str, mI_tuple, mI_list, mB_int, mB_bool, mB_str, mB_tuple, mB_list, mS_int, mS_bool, mS_str, mS_tuple, mS_list, mT_int, mT_bool, mT_str, mT_tuple, mT_list, mN_int, mN_bool, mN_str, mN_tuple, mN_list, anyT, anyF, Nat.zero_add, Nat.reduceAdd, Nat.reduceLeDiff, true_and]
    simpa using hP
  · intro a b x N' hb hN
    simp only [s__law_gcd_1, wSs, wS, wT, wE, wEs, wO, wC, wI, wG, wGs, startD, List.map_cons, List.map_nil, List.length_cons, List.length_nil, List.replicate, List.cons_append, List.nil_append, List.append_nil, List.set_cons_zero, List.set_cons_succ, List.getElem?_cons_zero, List.getElem?_cons_succ, itT, wipeD, opAddI, opSubI, opMulI, opDivI, opModI, opPowI, opAddT, cmEq, cmNe, cmLt, cmLe, cmGt, cmGe, cmIn, eqI, eqS, inS2, truB, ixT0, ixT1, ixT2, ixT3, ixT4, ixT6, slcT, lenT, absI, intI, tupleT, listT, listRl, decide_true, decide_false, if_true, if_false, Bool.false_eq_true, reduceIte, decide_eq_true_eq, Bool.not_true, Bool.not_false, line, mI_int, mI_bool, mI_str, mI_tuple, mI_list, mB_int, mB_bool, mB_str, mB_tuple, mB_list, mS_int, mS_bool, mS_str, mS_tuple, mS_list, mT_int, mT_bool, mT_str, mT_tuple, mT_list, mN_int, mN_bool, mN_str, mN_tuple, mN_list, anyT, anyF, Nat.zero_add, Nat.reduceAdd, Nat.reduceLeDiff, true_and]
    refine ⟨by omega, ?_⟩
    simpa using hN
theorem is_int_ok {i : Int} (hk : 0 < k) (hQ : Q (.bl true) S) : Γ k "_law_is_int" [.int i] S Q X := by
  cases k with
  | zero => omega
  | succ k =>
  refine gam (np := 1) (nn := 1) (b := b__law_is_int) rfl rfl ?_
  simp only [b__law_is_int, wSs, wS, wT, wE, wEs, wO, wC, wI, wG, wGs, startD, List.map_cons, List.map_nil, List.length_cons, List.length_nil, List.replicate, List.cons_append, List.nil_append, List.append_nil, List.set_cons_zero, List.set_cons_succ, List.getElem?_cons_zero, List.getElem?_cons_succ, itT, wipeD, opAddI, opSubI, opMulI, opDivI, opModI, opPowI, opAddT, cmEq, cmNe, cmLt, cmLe, cmGt, cmGe, cmIn, eqI, eqS, inS2, truB, ixT0, ixT1, ixT2, ixT3, ixT4, ixT6, slcT, lenT, absI, intI, tupleT, listT, listRl, decide_true, decide_false, if_true, if_false, Bool.false_eq_true, reduceIte, decide_eq_true_eq, Bool.not_true, Bool.not_false, line, mI_int, mI_bool, mI_str, mI_tuple, mI_list, mB_int, mB_bool, mB_str, mB_tuple, mB_list, mS_int, mS_bool, mS_str, mS_tuple, mS_list, mT_int, mT_bool, mT_str, mT_tuple, mT_list, mN_int, mN_bool, mN_str, mN_tuple, mN_list, anyT, anyF, Nat.zero_add, Nat.reduceAdd, Nat.reduceLeDiff, true_and]
  exact ⟨S, Sto.le_refl, hQ⟩
theorem same_ok : ∀ (n k : Nat) (y : D) (S : Sto) (Q : KD) (X : KX), n + 2 < k → ok n y = true → Q (.bl true) S → Γ k "_law_same" [y, y] S Q X := by
  intro n
  induction n with
  | zero =>
    intro k y S Q X hk hy hQ
    cases k with
    | zero => omega
    | succ k =>
    refine gam (np := 2) (nn := 3) (b := b__law_same) rfl rfl ?_
    cases y with
    | int i =>
      simp only [b__law_same, wSs, wS, wT, wE, wEs, wO, wC, wI, wG, wGs, startD, List.map_cons, List.map_nil, List.length_cons, List.length_nil, List.replicate, List.cons_append, List.nil_append, List.append_nil, List.set_cons_zero, List.set_cons_succ, List.getElem?_cons_zero, List.getElem?_cons_succ, itT, wipeD, opAddI, opSubI, opMulI, opDivI, opModI, opPowI, opAddT, cmEq, cmNe, cmLt, cmLe, cmGt, cmGe, cmIn, eqI, eqS, inS2, truB, ixT0, ixT1, ixT2, ixT3, ixT4, ixT6, slcT, lenT, absI, intI, tupleT, listT, listRl, decide_true, decide_false, if_true, if_false, Bool.false_eq_true, reduceIte, decide_eq_true_eq, Bool.not_true, Bool.not_false, line, mI_int, mI_bool, mI_str, mI_tuple, mI_list, mB_int, mB_bool, mB_str, mB_tuple, mB_list, mS_int, mS_bool, mS_str, mS_tuple, mS_list, mT_int, mT_bool, mT_str, mT_tuple, mT_list, mN_int, mN_bool, mN_str, mN_tuple, mN_list, anyT, anyF, Nat.zero_add, Nat.reduceAdd, Nat.reduceLeDiff, true_and]
      refine is_int_ok (by omega) ?_
      simp only [wSs, wS, wT, wE, wEs, wO, wC, wI, wG, wGs, startD, List.map_cons, List.map_nil, List.length_cons, List.length_nil, List.replicate, List.cons_append, List.nil_append, List.append_nil, List.set_cons_zero, List.set_cons_succ, List.getElem?_cons_zero, List.getElem?_cons_succ, itT, wipeD, opAddI, opSubI, opMulI, opDivI, opModI, opPowI, opAddT, cmEq, cmNe, cmLt, cmLe, cmGt, cmGe, cmIn, eqI, eqS, inS2, truB, ixT0, ixT1, ixT2, ixT3, ixT4, ixT6, slcT, lenT, absI, intI, tupleT, listT, listRl, decide_true, decide_false, if_true, if_false, Bool.false_eq_true, reduceIte, decide_eq_true_eq, Bool.not_true, Bool.not_false, line, mI_int, mI_bool, mI_str, mI_tuple, mI_list, mB_int, mB_bool, mB_str, mB_tuple, mB_list, mS_int, mS_bool, mS_str, mS_tuple, mS_list, mT_int, mT_bool, mT_str, mT_tuple, mT_list, mN_int, mN_bool, mN_str, mN_tuple, mN_list, anyT, anyF, Nat.zero_add, Nat.reduceAdd, Nat.reduceLeDiff, true_and]
      exact ⟨S, Sto.le_refl, hQ⟩
    | str z =>
      simp only [b__law_same, wSs, wS, wT, wE, wEs, wO, wC, wI, wG, wGs, startD, List.map_cons, List.map_nil, List.length_cons, List.length_nil, List.replicate, List.cons_append, List.nil_append, List.append_nil, List.set_cons_zero, List.set_cons_succ, List.getElem?_cons_zero, List.getElem?_cons_succ, itT, wipeD, opAddI, opSubI, opMulI, opDivI, opModI, opPowI, opAddT, cmEq, cmNe, cmLt, cmLe, cmGt, cmGe, cmIn, eqI, eqS, inS2, truB, ixT0, ixT1, ixT2, ixT3, ixT4, ixT6, slcT, lenT, absI, intI, tupleT, listT, listRl, decide_true, decide_false, if_true, if_false, Bool.false_eq_true, reduceIte, decide_eq_true_eq, Bool.not_true, Bool.not_false, line, mI_int, mI_bool, mI_str, mI_tuple, mI_list, mB_int, mB_bool, mB_str, mB_tuple, mB_list, mS_int, mS_bool, mS_str, mS_tuple, mS_list, mT_int, mT_bool, mT_str, mT_tuple, mT_list, mN_int, mN_bool, mN_str, mN_tuple, mN_list, anyT, anyF, Nat.zero_add, Nat.reduceAdd, Nat.reduceLeDiff, true_and]
      exact ⟨S, Sto.le_refl, hQ⟩
    | _ => cases hy
  | succ n ih =>
    intro k y S Q X hk hy hQ
    cases k with
    | zero => omega
    | succ k =>
    cases y with
    | int i => exact ih (k + 1) _ S Q X (by omega) ok_int hQ
    | str i => exact ih (k + 1) _ S Q X (by omega) ok_str hQ
    | tup l =>
      obtain ⟨h1, h2⟩ := ok_tup.mp hy
      refine gam (np := 2) (nn := 3) (b := b__law_same) rfl rfl ?_
      simp only [b__law_same, wSs, wS, wT, wE, wEs, wO, wC, wI, wG, wGs, startD, List.map_cons, List.map_nil, List.length_cons, List.length_nil, List.replicate, List.cons_append, List.nil_append, List.append_nil, List.set_cons_zero, List.set_cons_succ, List.getElem?_cons_zero, List.getElem?_cons_succ, itT, wipeD, opAddI, opSubI, opMulI, opDivI, opModI, opPowI, opAddT, cmEq, cmNe, cmLt, cmLe, cmGt, cmGe, cmIn, eqI, eqS, inS2, truB, ixT0, ixT1, ixT2, ixT3, ixT4, ixT6, slcT, lenT, absI, intI, tupleT, listT, listRl, decide_true, decide_false, if_true, if_false, Bool.false_eq_true, reduceIte, decide_eq_true_eq, Bool.not_true, Bool.not_false, line, mI_int, mI_bool, mI_str, mI_tuple, mI_list, mB_int, mB_bool, mB_str, mB_tuple, mB_list, mS_int, mS_bool, mS_str, mS_tuple, mS_list, mT_int, mT_bool, mT_str, mT_tuple, mT_list, mN_int, mN_bool, mN_str, mN_tuple, mN_list, anyT, anyF, Nat.zero_add, Nat.reduceAdd, Nat.reduceLeDiff, true_and]
      refine ⟨⟨by omega, by omega⟩, by unfold rngD; simp; omega, ?_⟩
      refine cmpL_pure (fun _ => some (.bl true)) trivial ?_ ?_
      · intro d hd P hP
        unfold rngD at hd
        obtain ⟨i, hi, rfl⟩ := List.mem_map.mp hd
        have hi : i < l.length := by simpa using hi
        have hg : l[i]? = some l[i] := by simp [hi]
        simp only [e__law_same_1, wSs, wS, wT, wE, wEs, wO, wC, wI, wG, wGs, startD, List.map_cons, List.map_nil, List.length_cons, List.length_nil, List.replicate, List.cons_append, List.nil_append, List.append_nil, List.set_cons_zero, List.set_cons_succ, List.getElem?_cons_zero, List.getElem?_cons_succ, itT, wipeD, opAddI, opSubI, opMulI, opDivI, opModI, opPowI, opAddT, cmEq, cmNe, cmLt, cmLe, cmGt, cmGe, cmIn, eqI, eqS, inS2, truB, ixT0, ixT1, ixT2, ixT3, ixT4, ixT6, slcT, lenT, absI, intI, tupleT, listT, listRl, decide_true, decide_false, if_true, if_false, Bool.false_eq_true, reduceIte, decide_eq_true_eq, Bool.not_true, Bool.not_false, line, mI_int, mI_bool, mI_str, mI_tuple, mI_list, mB_int, mB_bool, mB_str, mB_tuple, mB_list, mS_int, mS_bool, mS_str, mS_tuple, mS_list, mT_int, mT_bool, mT_str, mT_tuple, mT_list, mN_int, mN_bool, mN_str, mN_tuple, mN_list, anyT, anyF, Nat.zero_add, Nat.reduceAdd, Nat.reduceLeDiff, true_and, Int.zero_add]
        rw [ixT (atIk i rfl hg), ixT (atIk i rfl hg)]
        refine ih k _ _ _ _ (by omega) (h2 _ (List.getElem_mem hi)) ?_
        exact hP
      · have e : asBls ((rngD 0 l.length).filterMap fun _ => some (D.bl true)) = some (List.replicate l.length true) := by
          unfold rngD
          simp only [List.filterMap_map]
          generalize hL : (List.range l.length) = L
          have hn : L.length = l.length := by rw [← hL]; simp
          rw [← hn]
          clear hL hn
          induction L with
          | nil => rfl
          | cons x L ihL => simp only [List.filterMap_cons, asBls, List.length_cons, List.replicate_succ, Function.comp_apply]; rw [show (List.filterMap ((fun x => some (D.bl true)) ∘ fun (i : Nat) => D.int (0 + (i : Int))) L) = List.filterMap ((fun x => some (D.bl true)) ∘ fun (i : Nat) => D.int (0 + (i : Int))) L from rfl, ihL]; rfl
        simp only [bllR, Int.toNat_natCast, e]
        refine ⟨S, Sto.le_refl, ?_⟩
        have e2 : (List.replicate l.length true).all id = true := by simp
        rw [e2]
        exact hQ
    | _ => cases hy
theorem ok2 {n : Nat} {a b : D} (h1 : Mi.ok n a = true) (h2 : Mi.ok n b = true) : Mi.ok (n + 1) (.tup [a, b]) = true := ok_mk (by simp) fun x hx => by
  simp only [List.mem_cons, List.not_mem_nil, or_false] at hx
  rcases hx with rfl | rfl <;> assumption
theorem ok1 {n : Nat} {a : D} (h1 : Mi.ok n a = true) : Mi.ok (n + 1) (.tup [a]) = true := ok_mk (by simp) fun x hx => by
  simp only [List.mem_cons, List.not_mem_nil, or_false] at hx
  rcases hx with rfl; assumption
theorem ok3 {n : Nat} {a b c : D} (h1 : Mi.ok n a = true) (h2 : Mi.ok n b = true) (h3 : Mi.ok n c = true) : Mi.ok (n + 1) (.tup [a, b, c]) = true := ok_mk (by simp) fun x hx => by
  simp only [List.mem_cons, List.not_mem_nil, or_false] at hx
  rcases hx with rfl | rfl | rfl <;> assumption
end K49
namespace K49
open PySem PySem.Spec PyProof.Rows L2 Mi
variable {k : Nat} {S : Sto} {Q : KD} {X : KX} {pp : Addr} {m n : Nat} {i j : Int}
def Sz (n : Nat) (i : Int) : Prop := i.natAbs < 2 ^ n
theorem Sz.mul (h : Sz m i) (g : Sz n j) : Sz (m + n) (i * j) := by
  unfold Sz at *
  rw [Int.natAbs_mul, Nat.pow_add]
  exact Nat.mul_lt_mul'' h g
theorem Sz.add (h : Sz n i) (g : Sz n j) : Sz (n + 1) (i + j) := by
  unfold Sz at *
  rw [Nat.pow_succ]
  have := Int.natAbs_add_le i j
  omega
theorem Sz.sub (h : Sz n i) (g : Sz n j) : Sz (n + 1) (i - j) := by
  unfold Sz at *
  rw [Nat.pow_succ]
  have := Int.natAbs_sub_le i j
  omega
theorem Sz.neg (h : Sz n i) : Sz n (-i) := by
  unfold Sz at *
  rw [Int.natAbs_neg]
  exact h
theorem Sz.mono (h : Sz m i) (hn : m ≤ n) : Sz n i := Nat.lt_of_lt_of_le h (Nat.pow_le_pow_right (by decide) hn)
theorem Sz.log (h : Sz n i) : i.natAbs.log2 ≤ n := by
  by_cases h0 : i.natAbs = 0
  · rw [h0]; exact Nat.zero_le _
  · have := (Nat.log2_lt h0).mpr h
    omega
theorem Sz.cm (h : Sz m i) (g : Sz n j) (hm : m ≤ 4000 := by decide) (hn : n ≤ 4000 := by decide) : CMulW i j := by
  have := h.log
  have := g.log
  unfold CMulW
  omega
theorem Sz.cd (h : Sz n j) (hj : 0 < j) (hn : n ≤ 4000 := by decide) : CDivW i j := ⟨hj, by have := h.log; omega⟩
def nrm (n d : Int) : D := .tup [.int (n / (Int.gcd n d : Int)), .int (d / (Int.gcd n d : Int))]
theorem gcd_lt {n d : Int} (hd : 0 < d) : 0 < (Int.gcd n d : Int) ∧ (Int.gcd n d : Int) ≤ d := by
  obtain ⟨m, rfl⟩ : ∃ m : Nat, d = (m : Int) := ⟨d.toNat, by omega⟩
  have hm : 0 < m := by omega
  have g0 : 0 < Nat.gcd n.natAbs m := Nat.gcd_pos_of_pos_right _ hm
  have g1 : Nat.gcd n.natAbs m ≤ m := Nat.gcd_le_right _ hm
  have e : Int.gcd n (m : Int) = Nat.gcd n.natAbs m := rfl
  rw [e]
  omega
theorem gcd_sz {n d : Int} (hd : 0 < d) (s : Sz m d) : Sz m (Int.gcd n d : Int) := by
  have := gcd_lt (n := n) hd
  unfold Sz at *
  omega
theorem lfrac {n d : Int} (hk : 1 < k) (hd : 0 < d) (sd : Sz m d) (hm : m ≤ 4000) (hQ : Q (nrm n d) S) : Γ k "_law_fraction" [.int n, .int d] S Q X := by
  cases k with
  | zero => omega
  | succ k =>
  refine gam (np := 2) (nn := 3) (b := b__law_fraction) rfl rfl ?_
  simp only [b__law_fraction, wSs, wS, wT, wE, wEs, wO, wC, wI, wG, wGs, startD, List.map_cons, List.map_nil, List.length_cons, List.length_nil, List.replicate, List.cons_append, List.nil_append, List.append_nil, List.set_cons_zero, List.set_cons_succ, List.getElem?_cons_zero, List.getElem?_cons_succ, itT, wipeD, opAddI, opSubI, opMulI, opDivI, opModI, opPowI, opAddT, cmEq, cmNe, cmLt, cmLe, cmGt, cmGe, cmIn, eqI, eqS, inS2, truB, ixT0, ixT1, ixT2, ixT3, ixT4, ixT6, slcT, lenT, absI, intI, tupleT, listT, listRl, decide_true, decide_false, if_true, if_false, Bool.false_eq_true, reduceIte, decide_eq_true_eq, Bool.not_true, Bool.not_false, line, mI_int, mI_bool, mI_str, mI_tuple, mI_list, mB_int, mB_bool, mB_str, mB_tuple, mB_list, mS_int, mS_bool, mS_str, mS_tuple, mS_list, mT_int, mT_bool, mT_str, mT_tuple, mT_list, mN_int, mN_bool, mN_str, mN_tuple, mN_list, anyT, anyF, Nat.zero_add, Nat.reduceAdd, Nat.reduceLeDiff, true_and]
  have e1 : (if n < 0 then -n else n) = ((n.natAbs : Nat) : Int) := by split <;> omega
  have h := gcd_lt (n := n) hd
  have hs := gcd_sz (n := n) hd sd
  obtain ⟨q, rfl⟩ : ∃ q : Nat, d = (q : Int) := ⟨d.toNat, by omega⟩
  rw [e1]
  refine gcd_ok (by omega) ?_
  exact ⟨hs.cd h.1 hm, hs.cd h.1 hm, S, Sto.le_refl, hQ⟩
theorem frac {n d : Int} (hk : 0 < k) (hd : d ≠ 0) (sd : Sz m d) (hm : m ≤ 4000) (hQ : Q (if d < 0 then nrm (-n) (-d) else nrm n d) S) : Γ k "fraction" [.int n, .int d] S Q X := by
  cases k with
  | zero => omega
  | succ k =>
  refine gam (np := 2) (nn := 3) (b := b_fraction) rfl rfl ?_
  simp only [b_fraction, wSs, wS, wT, wE, wEs, wO, wC, wI, wG, wGs, startD, List.map_cons, List.map_nil, List.length_cons, List.length_nil, List.replicate, List.cons_append, List.nil_append, List.append_nil, List.set_cons_zero, List.set_cons_succ, List.getElem?_cons_zero, List.getElem?_cons_succ, itT, wipeD, opAddI, opSubI, opMulI, opDivI, opModI, opPowI, opAddT, cmEq, cmNe, cmLt, cmLe, cmGt, cmGe, cmIn, eqI, eqS, inS2, truB, ixT0, ixT1, ixT2, ixT3, ixT4, ixT6, slcT, lenT, absI, intI, tupleT, listT, listRl, decide_true, decide_false, if_true, if_false, Bool.false_eq_true, reduceIte, decide_eq_true_eq, Bool.not_true, Bool.not_false, line, mI_int, mI_bool, mI_str, mI_tuple, mI_list, mB_int, mB_bool, mB_str, mB_tuple, mB_list, mS_int, mS_bool, mS_str, mS_tuple, mS_list, mT_int, mT_bool, mT_str, mT_tuple, mT_list, mN_int, mN_bool, mN_str, mN_tuple, mN_list, anyT, anyF, Nat.zero_add, Nat.reduceAdd, Nat.reduceLeDiff, true_and, bltR]
  by_cases h0 : d < 0
  · rw [if_pos h0] at hQ ⊢
    have h := gcd_lt (n := -n) (d := -d) (by omega)
    have hs := gcd_sz (n := -n) (d := -d) (by omega) sd.neg
    exact ⟨hs.cd h.1 hm, hs.cd h.1 hm, S, Sto.le_refl, hQ⟩
  · rw [if_neg h0] at hQ ⊢
    have h := gcd_lt (n := n) (d := d) (by omega)
    have hs := gcd_sz (n := n) (d := d) (by omega) sd
    exact ⟨hs.cd h.1 hm, hs.cd h.1 hm, S, Sto.le_refl, hQ⟩
end K49
namespace K49
open PySem PySem.Spec PyProof.Rows L2 Mi
variable {k : Nat} {S : Sto} {Q : KD} {X : KX} {n d s o i j T p : Nat}
def fr (n d : Int) : D := .tup [.int n, .int d]
theorem szn {m i : Nat} (h : i < 2 ^ m) : Sz m (i : Int) := by unfold Sz; simpa using h
def rq (q : Rat) : D := fr q.num q.den
theorem nrm_mk {n : Int} {d : Nat} (hd : d ≠ 0) : nrm n d = rq (mkRat n d) := by
  unfold nrm rq fr
  rw [Rat.num_mkRat, Rat.den_mkRat, if_neg hd, if_neg hd]
  have e : Int.gcd n (d : Int) = d.gcd n.natAbs := by
    show Nat.gcd n.natAbs d = _
    exact Nat.gcd_comm _ _
  rw [e]
  rfl
structure Zq (m : Nat) (q : Rat) : Prop where
  n : Sz m q.num
  d : Sz m (q.den : Int)
theorem Zq.mono {m m' : Nat} {q : Rat} (h : Zq m q) (hm : m ≤ m') : Zq m' q := ⟨h.n.mono hm, h.d.mono hm⟩
theorem Zq.of {m : Nat} {x : Int} {E : Nat} (hx : x.natAbs < 2 ^ m) (hd : E < 2 ^ m) (h0 : E ≠ 0) : Zq m (mkRat x E) := by
  constructor
  · unfold Sz
    rw [Rat.num_mkRat, if_neg h0]
    exact Nat.lt_of_le_of_lt (Int.natAbs_ediv_le_natAbs _ _) hx
  · refine szn ?_
    rw [Rat.den_mkRat, if_neg h0]
    exact Nat.lt_of_le_of_lt (Nat.div_le_self _ _) hd
variable {a b : Rat}
theorem den_pos' : (0 : Int) < (a.den : Int) := by have := a.den_pos; omega
theorem lplus_rq (hk : 2 < k) (za : Zq 1500 a) (zb : Zq 1500 b) (hQ : Q (rq (a + b)) S) : Γ k "_law_plus" [rq a, rq b] S Q X := by
  cases k with
  | zero => omega
  | succ k =>
  refine gam (np := 2) (nn := 2) (b := b__law_plus) rfl rfl ?_
  simp only [b__law_plus, rq, fr, wSs, wS, wT, wE, wEs, wO, wC, wI, wG, wGs, startD, List.map_cons, List.map_nil, List.length_cons, List.length_nil, List.replicate, List.cons_append, List.nil_append, List.append_nil, List.set_cons_zero, List.set_cons_succ, List.getElem?_cons_zero, List.getElem?_cons_succ, itT, wipeD, opAddI, opSubI, opMulI, opDivI, opModI, opPowI, opAddT, cmEq, cmNe, cmLt, cmLe, cmGt, cmGe, cmIn, eqI, eqS, inS2, truB, ixT0, ixT1, ixT2, ixT3, ixT4, ixT6, slcT, lenT, absI, intI, tupleT, listT, listRl, decide_true, decide_false, if_true, if_false, Bool.false_eq_true, reduceIte, decide_eq_true_eq, Bool.not_true, Bool.not_false, line, mI_int, mI_bool, mI_str, mI_tuple, mI_list, mB_int, mB_bool, mB_str, mB_tuple, mB_list, mS_int, mS_bool, mS_str, mS_tuple, mS_list, mT_int, mT_bool, mT_str, mT_tuple, mT_list, mN_int, mN_bool, mN_str, mN_tuple, mN_list, anyT, anyF, Nat.zero_add, Nat.reduceAdd, Nat.reduceLeDiff, true_and]
  refine ⟨za.n.cm zb.d, zb.n.cm za.d, za.d.cm zb.d, lfrac (by omega) (Int.mul_pos den_pos' den_pos') (za.d.mul zb.d) (by decide) ⟨S, Sto.le_refl, ?_⟩⟩
  rw [← Int.natCast_mul, nrm_mk (Nat.mul_ne_zero a.den_nz b.den_nz), ← Rat.add_def']
  exact hQ
theorem ltimes_rq (hk : 2 < k) (za : Zq 1500 a) (zb : Zq 1500 b) (hQ : Q (rq (a * b)) S) : Γ k "_law_times" [rq a, rq b] S Q X := by
  cases k with
  | zero => omega
  | succ k =>
  refine gam (np := 2) (nn := 2) (b := b__law_times) rfl rfl ?_
  simp only [b__law_times, rq, fr, wSs, wS, wT, wE, wEs, wO, wC, wI, wG, wGs, startD, List.map_cons, List.map_nil, List.length_cons, List.length_nil, List.replicate, List.cons_append, List.nil_append, List.append_nil, List.set_cons_zero, List.set_cons_succ, List.getElem?_cons_zero, List.getElem?_cons_succ, itT, wipeD, opAddI, opSubI, opMulI, opDivI, opModI, opPowI, opAddT, cmEq, cmNe, cmLt, cmLe, cmGt, cmGe, cmIn, eqI, eqS, inS2, truB, ixT0, ixT1, ixT2, ixT3, ixT4, ixT6, slcT, lenT, absI, intI, tupleT, listT, listRl, decide_true, decide_false, if_true, if_false, Bool.false_eq_true, reduceIte, decide_eq_true_eq, Bool.not_true, Bool.not_false, line, mI_int, mI_bool, mI_str, mI_tuple, mI_list, mB_int, mB_bool, mB_str, mB_tuple, mB_list, mS_int, mS_bool, mS_str, mS_tuple, mS_list, mT_int, mT_bool, mT_str, mT_tuple, mT_list, mN_int, mN_bool, mN_str, mN_tuple, mN_list, anyT, anyF, Nat.zero_add, Nat.reduceAdd, Nat.reduceLeDiff, true_and]
  refine ⟨za.n.cm zb.n, za.d.cm zb.d, lfrac (by omega) (Int.mul_pos den_pos' den_pos') (za.d.mul zb.d) (by decide) ⟨S, Sto.le_refl, ?_⟩⟩
  rw [← Int.natCast_mul, nrm_mk (Nat.mul_ne_zero a.den_nz b.den_nz), ← Rat.mul_def']
  exact hQ
theorem plus_rq (hk : 1 < k) (za : Zq 1500 a) (zb : Zq 1500 b) (hQ : Q (rq (a + b)) S) : Γ k "plus" [rq a, rq b] S Q X := by
  cases k with
  | zero => omega
  | succ k =>
  refine gam (np := 2) (nn := 2) (b := b_plus) rfl rfl ?_
  simp only [b_plus, rq, fr, wSs, wS, wT, wE, wEs, wO, wC, wI, wG, wGs, startD, List.map_cons, List.map_nil, List.length_cons, List.length_nil, List.replicate, List.cons_append, List.nil_append, List.append_nil, List.set_cons_zero, List.set_cons_succ, List.getElem?_cons_zero, List.getElem?_cons_succ, itT, wipeD, opAddI, opSubI, opMulI, opDivI, opModI, opPowI, opAddT, cmEq, cmNe, cmLt, cmLe, cmGt, cmGe, cmIn, eqI, eqS, inS2, truB, ixT0, ixT1, ixT2, ixT3, ixT4, ixT6, slcT, lenT, absI, intI, tupleT, listT, listRl, decide_true, decide_false, if_true, if_false, Bool.false_eq_true, reduceIte, decide_eq_true_eq, Bool.not_true, Bool.not_false, line, mI_int, mI_bool, mI_str, mI_tuple, mI_list, mB_int, mB_bool, mB_str, mB_tuple, mB_list, mS_int, mS_bool, mS_str, mS_tuple, mS_list, mT_int, mT_bool, mT_str, mT_tuple, mT_list, mN_int, mN_bool, mN_str, mN_tuple, mN_list, anyT, anyF, Nat.zero_add, Nat.reduceAdd, Nat.reduceLeDiff, true_and]
  have hpos : 0 < (a.den : Int) * (b.den : Int) := Int.mul_pos den_pos' den_pos'
  have hres : nrm (a.num * (b.den : Int) + b.num * (a.den : Int)) ((a.den : Int) * (b.den : Int)) = rq (a + b) := by
    rw [← Int.natCast_mul, nrm_mk (Nat.mul_ne_zero a.den_nz b.den_nz), ← Rat.add_def']
  have fin : CMulW a.num b.den ∧ CMulW b.num a.den ∧ CMulW (a.den : Int) b.den ∧ Γ k "fraction" [D.int (a.num * b.den + b.num * a.den), D.int ((a.den : Int) * b.den)] S (fun d S' => ∃ S0, S0.le S' ∧ Q d S0) (fun x S' => ∃ S0, S0.le S' ∧ X x S0) := by
    refine ⟨za.n.cm zb.d, zb.n.cm za.d, za.d.cm zb.d, frac (by omega) (by omega) (za.d.mul zb.d) (by decide) ?_⟩
    rw [if_neg (by omega), hres]
    exact ⟨S, Sto.le_refl, hQ⟩
  by_cases h1 : (a.den : Int) = 1
  · rw [if_pos h1]
    by_cases h2 : (b.den : Int) = 1
    · rw [if_pos h2]
      refine ⟨S, Sto.le_refl, ?_⟩
      have e : D.tup [.int (a.num + b.num), .int 1] = rq (a + b) := by
        rw [← hres, h1, h2]
        unfold nrm
        rw [Int.mul_one, Int.mul_one, Int.mul_one, Int.gcd_one_right]
        simp
      rw [e]
      exact hQ
    · rw [if_neg h2]
      exact fin
  · rw [if_neg h1]
    exact fin
theorem rq0 : rq 0 = .tup [.int 0, .int 1] := by decide +kernel
theorem rq1 : rq 1 = .tup [.int 1, .int 1] := by decide +kernel
theorem zq0 : Zq 1 0 := ⟨by unfold Sz; decide +kernel, by unfold Sz; decide +kernel⟩
theorem zq1 : Zq 1 1 := ⟨by unfold Sz; decide +kernel, by unfold Sz; decide +kernel⟩
theorem Zq.mul {m m' : Nat} (h : Zq m a) (g : Zq m' b) : Zq (m + m') (a * b) := by
  rw [Rat.mul_def']
  refine Zq.of ?_ ?_ (Nat.mul_ne_zero a.den_nz b.den_nz)
  · exact h.n.mul g.n
  · have := h.d.mul g.d
    unfold Sz at this
    rw [← Int.natCast_mul, Int.natAbs_natCast] at this
    exact this
theorem Zq.add {m m' : Nat} (h : Zq m a) (g : Zq m' b) : Zq (m + m' + 1) (a + b) := by
  rw [Rat.add_def']
  refine Zq.of ?_ ?_ (Nat.mul_ne_zero a.den_nz b.den_nz)
  · have h1 := h.n.mul g.d
    have h2 := (g.n.mul h.d).mono (n := m + m') (by omega)
    exact h1.add h2
  · have := h.d.mul g.d
    unfold Sz at this
    rw [← Int.natCast_mul, Int.natAbs_natCast] at this
    exact Nat.lt_of_lt_of_le this (Nat.pow_le_pow_right (by decide) (by omega))
theorem Zq.neg {m : Nat} (h : Zq m a) : Zq m (-a) := ⟨by rw [Rat.neg_num]; exact h.n.neg, by rw [Rat.neg_den]; exact h.d⟩
theorem rq_neg : D.tup [.int (-a.num), .int (a.den : Int)] = rq (-a) := by unfold rq fr; rw [Rat.neg_num, Rat.neg_den]
theorem times_rq (hk : 1 < k) (za : Zq 1500 a) (zb : Zq 1500 b) (hQ : Q (rq (a * b)) S) : Γ k "times" [rq a, rq b] S Q X := by
  cases k with
  | zero => omega
  | succ k =>
  refine gam (np := 2) (nn := 2) (b := b_times) rfl rfl ?_
  simp only [b_times, rq, fr, wSs, wS, wT, wE, wEs, wO, wC, wI, wG, wGs, startD, List.map_cons, List.map_nil, List.length_cons, List.length_nil, List.replicate, List.cons_append, List.nil_append, List.append_nil, List.set_cons_zero, List.set_cons_succ, List.getElem?_cons_zero, List.getElem?_cons_succ, itT, wipeD, opAddI, opSubI, opMulI, opDivI, opModI, opPowI, opAddT, cmEq, cmNe, cmLt, cmLe, cmGt, cmGe, cmIn, eqI, eqS, inS2, truB, ixT0, ixT1, ixT2, ixT3, ixT4, ixT6, slcT, lenT, absI, intI, tupleT, listT, listRl, decide_true, decide_false, if_true, if_false, Bool.false_eq_true, reduceIte, decide_eq_true_eq, Bool.not_true, Bool.not_false, line, mI_int, mI_bool, mI_str, mI_tuple, mI_list, mB_int, mB_bool, mB_str, mB_tuple, mB_list, mS_int, mS_bool, mS_str, mS_tuple, mS_list, mT_int, mT_bool, mT_str, mT_tuple, mT_list, mN_int, mN_bool, mN_str, mN_tuple, mN_list, anyT, anyF, Nat.zero_add, Nat.reduceAdd, Nat.reduceLeDiff, true_and]
  have hpos : 0 < (a.den : Int) * (b.den : Int) := Int.mul_pos den_pos' den_pos'
  refine ⟨za.n.cm zb.n, za.d.cm zb.d, frac (by omega) (by omega) (za.d.mul zb.d) (by decide) ?_⟩
  rw [if_neg (by omega), ← Int.natCast_mul, nrm_mk (Nat.mul_ne_zero a.den_nz b.den_nz), ← Rat.mul_def']
  exact ⟨S, Sto.le_refl, hQ⟩
theorem minus_rq (hk : 1 < k) (za : Zq 1500 a) (zb : Zq 1500 b) (hQ : Q (rq (a - b)) S) : Γ k "minus" [rq a, rq b] S Q X := by
  cases k with
  | zero => omega
  | succ k =>
  refine gam (np := 2) (nn := 2) (b := b_minus) rfl rfl ?_
  simp only [b_minus, rq, fr, wSs, wS, wT, wE, wEs, wO, wC, wI, wG, wGs, startD, List.map_cons, List.map_nil, List.length_cons, List.length_nil, List.replicate, List.cons_append, List.nil_append, List.append_nil, List.set_cons_zero, List.set_cons_succ, List.getElem?_cons_zero, List.getElem?_cons_succ, itT, wipeD, opAddI, opSubI, opMulI, opDivI, opModI, opPowI, opAddT, cmEq, cmNe, cmLt, cmLe, cmGt, cmGe, cmIn, eqI, eqS, inS2, truB, ixT0, ixT1, ixT2, ixT3, ixT4, ixT6, slcT, lenT, absI, intI, tupleT, listT, listRl, decide_true, decide_false, if_true, if_false, Bool.false_eq_true, reduceIte, decide_eq_true_eq, Bool.not_true, Bool.not_false, line, mI_int, mI_bool, mI_str, mI_tuple, mI_list, mB_int, mB_bool, mB_str, mB_tuple, mB_list, mS_int, mS_bool, mS_str, mS_tuple, mS_list, mT_int, mT_bool, mT_str, mT_tuple, mT_list, mN_int, mN_bool, mN_str, mN_tuple, mN_list, anyT, anyF, Nat.zero_add, Nat.reduceAdd, Nat.reduceLeDiff, true_and]
  have hpos : 0 < (a.den : Int) * (b.den : Int) := Int.mul_pos den_pos' den_pos'
  refine ⟨za.n.cm zb.d, zb.n.cm za.d, za.d.cm zb.d, frac (by omega) (by omega) (za.d.mul zb.d) (by decide) ?_⟩
  rw [if_neg (by omega), ← Int.natCast_mul, nrm_mk (Nat.mul_ne_zero a.den_nz b.den_nz), ← Rat.sub_def']
  exact ⟨S, Sto.le_refl, hQ⟩
theorem Zq.pow {m : Nat} (h : Zq m a) : ∀ n : Nat, Zq (1 + m * n) (a ^ n)
  | 0 => by rw [Rat.pow_zero]; exact zq1
  | n + 1 => by
    rw [Rat.pow_succ]
    exact ((Zq.pow h n).mul h).mono (by rw [Nat.mul_add]; omega)
theorem div_eq (hb : 0 < b.num) : mkRat (a.num * b.den) (a.den * b.num.toNat) = a / b := by
  have e1 : a = (a.num : Rat) / (a.den : Rat) := by rw [← Rat.mkRat_eq_div]; exact (Rat.mkRat_self a).symm
  have e2 : b = (b.num : Rat) / (b.den : Rat) := by rw [← Rat.mkRat_eq_div]; exact (Rat.mkRat_self b).symm
  have hn : ((b.num.toNat : Nat) : Rat) = (b.num : Rat) := by
    have : ((b.num.toNat : Nat) : Int) = b.num := by omega
    rw [← this]
    rfl
  have h1 : (a.den : Rat) ≠ 0 := fun z => by
    have := Rat.natCast_pos.mpr a.den_pos
    rw [z] at this
    exact absurd this (by decide)
  have h2 : (b.den : Rat) ≠ 0 := fun z => by
    have := Rat.natCast_pos.mpr b.den_pos
    rw [z] at this
    exact absurd this (by decide)
  have h3 : (b.num : Rat) ≠ 0 := fun z => by
    have := Rat.intCast_pos.mpr hb
    rw [z] at this
    exact absurd this (by decide)
  have key : ∀ an ad bn bd : Rat, ad ≠ 0 → bn ≠ 0 → bd ≠ 0 → an * bd / (ad * bn) = an / ad / (bn / bd) := by
    intro an ad bn bd h1 h2 h3
    grind
  rw [Rat.mkRat_eq_div, Rat.intCast_mul, Rat.natCast_mul, hn]
  have e4 : a / b = ((a.num : Rat) / (a.den : Rat)) / ((b.num : Rat) / (b.den : Rat)) := by rw [← e1, ← e2]
  rw [e4]
  exact key _ _ _ _ h1 h3 h2
theorem over_rq (hk : 1 < k) (za : Zq 1500 a) (zb : Zq 1500 b) (hb : 0 < b.num) (hQ : Q (rq (a / b)) S) : Γ k "over" [rq a, rq b] S Q X := by
  cases k with
  | zero => omega
  | succ k =>
  refine gam (np := 2) (nn := 2) (b := b_over) rfl rfl ?_
  simp only [b_over, rq, fr, wSs, wS, wT, wE, wEs, wO, wC, wI, wG, wGs, startD, List.map_cons, List.map_nil, List.length_cons, List.length_nil, List.replicate, List.cons_append, List.nil_append, List.append_nil, List.set_cons_zero, List.set_cons_succ, List.getElem?_cons_zero, List.getElem?_cons_succ, itT, wipeD, opAddI, opSubI, opMulI, opDivI, opModI, opPowI, opAddT, cmEq, cmNe, cmLt, cmLe, cmGt, cmGe, cmIn, eqI, eqS, inS2, truB, ixT0, ixT1, ixT2, ixT3, ixT4, ixT6, slcT, lenT, absI, intI, tupleT, listT, listRl, decide_true, decide_false, if_true, if_false, Bool.false_eq_true, reduceIte, decide_eq_true_eq, Bool.not_true, Bool.not_false, line, mI_int, mI_bool, mI_str, mI_tuple, mI_list, mB_int, mB_bool, mB_str, mB_tuple, mB_list, mS_int, mS_bool, mS_str, mS_tuple, mS_list, mT_int, mT_bool, mT_str, mT_tuple, mT_list, mN_int, mN_bool, mN_str, mN_tuple, mN_list, anyT, anyF, Nat.zero_add, Nat.reduceAdd, Nat.reduceLeDiff, true_and]
  rw [if_neg (by omega)]
  have hm : 0 < (a.den : Int) * b.num := Int.mul_pos den_pos' hb
  have e : (a.den : Int) * b.num = ((a.den * b.num.toNat : Nat) : Int) := by rw [Int.natCast_mul]; congr 1; omega
  refine ⟨za.n.cm zb.d, za.d.cm zb.n, frac (by omega) (by omega) (za.d.mul zb.n) (by decide) ?_⟩
  rw [if_neg (by omega), e, nrm_mk (Nat.mul_ne_zero a.den_nz (by omega)), div_eq hb]
  exact ⟨S, Sto.le_refl, hQ⟩
end K49
namespace K49
open PySem PySem.Spec PyProof.Rows L2 Mi
def sm (f : Nat → Rat) : List Nat → Rat
  | [] => 0
  | a :: l => f a + sm f l
theorem sm_congr {f g : Nat → Rat} : ∀ {l : List Nat}, (∀ x ∈ l, f x = g x) → sm f l = sm g l
  | [], _ => rfl
  | a :: l, h => by
    rw [sm, sm, h a (List.mem_cons_self ..), sm_congr fun x hx => h x (List.mem_cons_of_mem _ hx)]
theorem sm_append {f : Nat → Rat} : ∀ {l m : List Nat}, sm f (l ++ m) = sm f l + sm f m
  | [], m => by rw [List.nil_append, sm]; grind
  | a :: l, m => by rw [List.cons_append, sm, sm, sm_append]; grind
theorem sm_add {f g : Nat → Rat} : ∀ {l : List Nat}, sm (fun x => f x + g x) l = sm f l + sm g l
  | [] => by rw [sm, sm, sm]; grind
  | a :: l => by rw [sm, sm, sm, sm_add]; grind
theorem sm_sub {f g : Nat → Rat} : ∀ {l : List Nat}, sm (fun x => f x - g x) l = sm f l - sm g l
  | [] => by rw [sm, sm, sm]; grind
  | a :: l => by rw [sm, sm, sm, sm_sub]; grind
theorem sm_mul {c : Rat} {f : Nat → Rat} : ∀ {l : List Nat}, sm (fun x => c * f x) l = c * sm f l
  | [] => by rw [sm, sm]; grind
  | a :: l => by rw [sm, sm, sm_mul]; grind
theorem sm_zero : ∀ {l : List Nat}, sm (fun _ => 0) l = 0
  | [] => rfl
  | a :: l => by rw [sm, sm_zero]; grind
theorem sm_swap {f : Nat → Nat → Rat} {m : List Nat} : ∀ {l : List Nat}, sm (fun i => sm (fun j => f i j) m) l = sm (fun j => sm (fun i => f i j) l) m
  | [] => by
    simp only [sm]
    exact sm_zero.symm
  | a :: l => by
    simp only [sm]
    rw [sm_swap, sm_add]
theorem sm_nonneg {f : Nat → Rat} : ∀ {l : List Nat}, (∀ x ∈ l, 0 ≤ f x) → 0 ≤ sm f l
  | [], _ => by rw [sm]; exact Rat.le_refl
  | a :: l, h => by
    have h1 := h a (List.mem_cons_self ..)
    have h2 := sm_nonneg fun x hx => h x (List.mem_cons_of_mem _ hx)
    rw [sm]
    grind
theorem sm_le {f g : Nat → Rat} : ∀ {l : List Nat}, (∀ x ∈ l, f x ≤ g x) → sm f l ≤ sm g l
  | [], _ => Rat.le_refl
  | a :: l, h => by
    have h1 := h a (List.mem_cons_self ..)
    have h2 := sm_le fun x hx => h x (List.mem_cons_of_mem _ hx)
    rw [sm, sm]
    grind
theorem sm_ge {f : Nat → Rat} : ∀ {l : List Nat} {a : Nat}, (∀ x ∈ l, 0 ≤ f x) → a ∈ l → f a ≤ sm f l
  | b :: l, a, h, ha => by
    have h1 := h b (List.mem_cons_self ..)
    have h2 := sm_nonneg fun x hx => h x (List.mem_cons_of_mem _ hx)
    rw [sm]
    rcases List.mem_cons.mp ha with rfl | ha
    · grind
    · have h3 := sm_ge (fun x hx => h x (List.mem_cons_of_mem _ hx)) ha
      grind
theorem sm_one {s : Nat} {g : Nat → Rat} : ∀ {l : List Nat}, l.Nodup → s ∈ l → sm (fun x => (if x = s then 1 else 0) * g x) l = g s
  | b :: l, hn, hs => by
    rw [List.nodup_cons] at hn
    rw [sm]
    by_cases e : b = s
    · subst e
      have : sm (fun x => (if x = b then (1 : Rat) else 0) * g x) l = sm (fun _ => 0) l := sm_congr fun x hx => by
        have : x ≠ b := fun z => hn.1 (z ▸ hx)
        rw [if_neg this]; grind
      rw [this, sm_zero, if_pos rfl]
      grind
    · have hs' : s ∈ l := by
        rcases List.mem_cons.mp hs with z | z
        · exact absurd z.symm e
        · exact z
      rw [if_neg e, sm_one hn.2 hs']
      grind
theorem sm_filter {f : Nat → Rat} (p : Nat → Bool) : ∀ {l : List Nat}, (∀ x ∈ l, p x = false → f x = 0) → sm f (l.filter p) = sm f l
  | [], _ => rfl
  | a :: l, h => by
    have ih := sm_filter p (l := l) fun x hx => h x (List.mem_cons_of_mem _ hx)
    rw [List.filter_cons]
    split
    · rw [sm, sm, ih]
    · have e := h a (List.mem_cons_self ..) (by simpa using ‹¬ p a = true›)
      rw [sm, ih, e]; grind
theorem sm_mulr {c : Rat} {f : Nat → Rat} {l : List Nat} : sm (fun x => f x * c) l = sm f l * c := by
  have : sm (fun x => f x * c) l = sm (fun x => c * f x) l := sm_congr fun x _ => by grind
  rw [this, sm_mul]; grind
abbrev Mx := Nat → Nat → Rat
theorem dual {W : Mx} {A : List Nat} {v μ g r : Nat → Rat} (hv : ∀ j ∈ A, v j = μ j + sm (fun i => v i * W i j) A) (hg : ∀ i ∈ A, g i = r i + sm (fun x => W i x * g x) A) :
    sm (fun i => v i * r i) A = sm (fun j => μ j * g j) A := by
  have e1 : sm (fun i => v i * r i) A = sm (fun i => v i * g i - sm (fun x => v i * W i x * g x) A) A := sm_congr fun i hi => by
    have : sm (fun x => v i * W i x * g x) A = v i * sm (fun x => W i x * g x) A := by
      rw [← sm_mul]; exact sm_congr fun x _ => by grind
    rw [this]
    have := hg i hi
    grind
  have e2 : sm (fun j => μ j * g j) A = sm (fun j => v j * g j - sm (fun i => v i * W i j * g j) A) A := sm_congr fun j hj => by
    rw [sm_mulr]
    have := hv j hj
    grind
  rw [e1, e2, sm_sub, sm_sub, sm_swap]
def elim (W : Mx) (a : Nat) : Mx := fun b x => if x = a then 0 else W b x + W b a / (1 - W a a) * W a x
structure Wk (W : Mx) (A : List Nat) (u : Nat → Rat) (e : Nat) : Prop where
  nn : ∀ i j, 0 ≤ W i j
  sp : ∀ i ∈ A, ∀ j, W i j ≠ 0 → j ∈ A
  up : ∀ i ∈ A, 0 < u i
  uu : ∀ i ∈ A, sm (fun x => W i x * u x) A + 1 ≤ u i
  rs : ∀ i ∈ A, sm (fun x => W i x) A ≤ 1
  dn : ∃ E : Nat, 0 < E ∧ E ≤ 2 ^ e ∧ ∀ i ∈ A, ∀ j, ∃ z : Int, W i j * (E : Rat) = (z : Rat)
theorem mul_nn {a b : Rat} (ha : 0 ≤ a) (hb : 0 ≤ b) : 0 ≤ a * b := Rat.mul_nonneg ha hb
theorem div_nn {a b : Rat} (ha : 0 ≤ a) (hb : 0 < b) : 0 ≤ a / b := by
  rw [Rat.div_def]
  exact Rat.mul_nonneg ha (Rat.le_of_lt (Rat.inv_pos.mpr hb))
theorem div_cancel {a b : Rat} (hb : 0 < b) : a / b * b = a := Rat.div_mul_cancel (by grind)
variable {W : Mx} {pre : List Nat} {a : Nat} {u : Nat → Rat} {e : Nat}
theorem Wk.piv (h : Wk W (pre ++ [a]) u e) : W a a < 1 := by
  have ha : a ∈ pre ++ [a] := by simp
  have h1 := h.uu a ha
  have h2 := h.up a ha
  rw [sm_append] at h1
  simp only [sm] at h1
  have h3 : 0 ≤ sm (fun x => W a x * u x) pre := sm_nonneg fun x hx => mul_nn (h.nn a x) (Rat.le_of_lt (h.up x (by simp [hx])))
  have h4 : W a a * u a < 1 * u a := by grind
  exact Rat.lt_of_mul_lt_mul_right h4 (Rat.le_of_lt h2)
def cm (W : Mx) (a b : Nat) : Rat := W b a / (1 - W a a)
theorem Wk.cm_eq (h : Wk W (pre ++ [a]) u e) (b : Nat) : cm W a b * (1 - W a a) = W b a := div_cancel (by have := h.piv; grind)
theorem Wk.cm_nn (h : Wk W (pre ++ [a]) u e) (b : Nat) : 0 ≤ cm W a b := div_nn (h.nn b a) (by have := h.piv; grind)
theorem cm_ne {W : Mx} {a b : Nat} (h : W b a = 0) : cm W a b = 0 := by
  unfold cm
  rw [h, Rat.div_def, Rat.zero_mul]
theorem Wk.cm_pos (h : Wk W (pre ++ [a]) u e) {b : Nat} (hb : W b a ≠ 0) : cm W a b ≠ 0 := fun z => by
  have := h.cm_eq b
  rw [z] at this
  grind
theorem elim_def {b x : Nat} (hx : x ≠ a) : elim W a b x = W b x + cm W a b * W a x := by
  unfold elim cm
  rw [if_neg hx]
theorem elim_at {b : Nat} : elim W a b a = 0 := by
  unfold elim
  rw [if_pos rfl]
theorem elim_sm {b : Nat} {g : Nat → Rat} (ha : a ∉ pre) : sm (fun x => elim W a b x * g x) pre = sm (fun x => W b x * g x) pre + cm W a b * sm (fun x => W a x * g x) pre := by
  rw [← sm_mul, ← sm_add]
  refine sm_congr fun x hx => ?_
  have hx' : x ≠ a := fun z => ha (z ▸ hx)
  rw [elim_def hx']
  grind
theorem Wk.elim (h : Wk W (pre ++ [a]) u e) (ha : a ∉ pre) : Wk (elim W a) pre u (2 * e) where
  nn := fun i j => by
    by_cases hj : j = a
    · subst hj; rw [elim_at]; exact Rat.le_refl
    · rw [elim_def hj]
      have h1 := h.nn i j
      have h2 := mul_nn (h.cm_nn i) (h.nn a j)
      grind
  sp := fun i hi j hj => by
    by_cases e1 : j = a
    · subst e1; rw [elim_at] at hj; exact absurd rfl hj
    · rw [elim_def e1] at hj
      have mem : j ∈ pre ++ [a] := by
        by_cases z1 : W i j = 0
        · by_cases z2 : W a j = 0
          · rw [z1, z2] at hj; exact absurd (by grind) hj
          · exact h.sp a (by simp) j z2
        · exact h.sp i (by simp [hi]) j z1
      simpa [e1] using mem
  up := fun i hi => h.up i (by simp [hi])
  uu := fun i hi => by
    have h1 := h.uu i (by simp [hi])
    have h2 := h.uu a (by simp)
    have h3 := h.cm_eq i
    have h4 := h.cm_nn i
    rw [sm_append] at h1 h2
    simp only [sm] at h1 h2
    rw [elim_sm ha]
    generalize sm (fun x => W a x * u x) pre = Sa at *
    generalize sm (fun x => W i x * u x) pre = Si at *
    have h5 : cm W a i * (Sa + 1) ≤ cm W a i * ((1 - W a a) * u a) := Rat.mul_le_mul_of_nonneg_left (by grind) h4
    have h6 : cm W a i * ((1 - W a a) * u a) = W i a * u a := by rw [← h3]; grind
    grind
  rs := fun i hi => by
    have h1 := h.rs i (by simp [hi])
    have h2 := h.rs a (by simp)
    have h3 := h.cm_eq i
    have h4 := h.cm_nn i
    rw [sm_append] at h1 h2
    simp only [sm] at h1 h2
    have e1 := elim_sm (W := W) (b := i) (g := fun _ => 1) ha
    have e2 : sm (fun x => K49.elim W a i x * 1) pre = sm (fun x => K49.elim W a i x) pre := sm_congr fun x _ => by grind
    have e3 : sm (fun x => W i x * 1) pre = sm (fun x => W i x) pre := sm_congr fun x _ => by grind
    have e4 : sm (fun x => W a x * 1) pre = sm (fun x => W a x) pre := sm_congr fun x _ => by grind
    rw [e2, e3, e4] at e1
    rw [e1]
    generalize sm (fun x => W a x) pre = Sa at *
    generalize sm (fun x => W i x) pre = Si at *
    have h5 : cm W a i * Sa ≤ cm W a i * (1 - W a a) := Rat.mul_le_mul_of_nonneg_left (by grind) h4
    grind
  dn := by
    obtain ⟨E, h0, hE, hd⟩ := h.dn
    obtain ⟨p, hp⟩ := hd a (by simp) a
    have hE' : (0 : Rat) < (E : Rat) := Rat.natCast_pos.mpr h0
    have h1 := h.piv
    have h2 := h.nn a a
    have hp1 : (p : Rat) < ((E : Int) : Rat) := by
      rw [← hp]
      have : W a a * (E : Rat) < 1 * (E : Rat) := Rat.mul_lt_mul_of_pos_right h1 hE'
      have e : (((E : Int)) : Rat) = (E : Rat) := rfl
      grind
    have hp2 : ((0 : Int) : Rat) ≤ (p : Rat) := by
      rw [← hp]
      exact mul_nn h2 (Rat.le_of_lt hE')
    have hp1 : p < (E : Int) := Rat.intCast_lt_intCast.mp hp1
    have hp2 : 0 ≤ p := Rat.intCast_le_intCast.mp hp2
    obtain ⟨F, hF⟩ : ∃ F : Nat, ((E : Int) - p) = (F : Int) := ⟨((E : Int) - p).toNat, by omega⟩
    have hFq : (F : Rat) = (E : Rat) * (1 - W a a) := by
      have : ((F : Int) : Rat) = (((E : Int) - p : Int) : Rat) := by rw [hF]
      rw [Rat.intCast_sub] at this
      have e1 : ((F : Int) : Rat) = (F : Rat) := rfl
      have e2 : ((E : Int) : Rat) = (E : Rat) := rfl
      grind
    refine ⟨E * F, Nat.mul_pos h0 (by omega), ?_, fun i hi j => ?_⟩
    · have : E * F ≤ 2 ^ e * 2 ^ e := Nat.mul_le_mul hE (by omega)
      rw [← Nat.pow_add] at this
      rwa [Nat.two_mul]
    · by_cases hj : j = a
      · subst hj
        exact ⟨0, by rw [elim_at]; exact Rat.zero_mul _⟩
      · obtain ⟨z1, q1⟩ := hd i (by simp [hi]) j
        obtain ⟨z2, q2⟩ := hd i (by simp [hi]) a
        obtain ⟨z3, q3⟩ := hd a (by simp) j
        refine ⟨z1 * F + z2 * z3, ?_⟩
        rw [elim_def hj, Rat.natCast_mul, Rat.intCast_add, Rat.intCast_mul, Rat.intCast_mul, ← q1, ← q2, ← q3]
        have e1 : ((F : Int) : Rat) = (F : Rat) := rfl
        have h3 := h.cm_eq i
        rw [e1, hFq]
        grind
theorem Wk.cm_dn (h : Wk W (pre ++ [a]) u e) : ∃ F : Nat, 0 < F ∧ F ≤ 2 ^ e ∧ ∀ i ∈ pre ++ [a], (∃ z : Int, cm W a i * (F : Rat) = (z : Rat)) ∧ cm W a i ≤ ((2 ^ e : Nat) : Rat) := by
  obtain ⟨E, h0, hE, hd⟩ := h.dn
  obtain ⟨p, hp⟩ := hd a (by simp) a
  have hE' : (0 : Rat) < (E : Rat) := Rat.natCast_pos.mpr h0
  have h1 := h.piv
  have h2 := h.nn a a
  have hp1 : (p : Rat) < ((E : Int) : Rat) := by
    rw [← hp]
    have : W a a * (E : Rat) < 1 * (E : Rat) := Rat.mul_lt_mul_of_pos_right h1 hE'
    have e : (((E : Int)) : Rat) = (E : Rat) := rfl
    grind
  have hp2 : ((0 : Int) : Rat) ≤ (p : Rat) := by
    rw [← hp]
    exact mul_nn h2 (Rat.le_of_lt hE')
  have hp1 : p < (E : Int) := Rat.intCast_lt_intCast.mp hp1
  have hp2 : 0 ≤ p := Rat.intCast_le_intCast.mp hp2
  obtain ⟨F, hF⟩ : ∃ F : Nat, ((E : Int) - p) = (F : Int) := ⟨((E : Int) - p).toNat, by omega⟩
  have hFq : (F : Rat) = (E : Rat) * (1 - W a a) := by
    have : ((F : Int) : Rat) = (((E : Int) - p : Int) : Rat) := by rw [hF]
    rw [Rat.intCast_sub] at this
    have e1 : ((F : Int) : Rat) = (F : Rat) := rfl
    have e2 : ((E : Int) : Rat) = (E : Rat) := rfl
    grind
  refine ⟨F, by omega, by omega, fun i hi => ?_⟩
  obtain ⟨z2, q2⟩ := hd i hi a
  have h3 := h.cm_eq i
  have e5 : cm W a i * (F : Rat) = (z2 : Rat) := by rw [hFq, ← q2]; grind
  refine ⟨⟨z2, e5⟩, ?_⟩
  have f1 : (1 : Rat) ≤ (F : Rat) := by
    have : ((1 : Int) : Rat) ≤ ((F : Int) : Rat) := Rat.intCast_le_intCast.mpr (by omega)
    exact this
  have f2 : (E : Rat) ≤ ((2 ^ e : Nat) : Rat) := by
    have : ((E : Int) : Rat) ≤ ((2 ^ e : Nat) : Int) := Rat.intCast_le_intCast.mpr (by omega)
    exact this
  have f3 : W i a ≤ 1 := by
    have := sm_ge (f := fun x => W i x) (fun x _ => h.nn i x) (show a ∈ pre ++ [a] by simp)
    have := h.rs i hi
    grind
  have f4 : W i a * (E : Rat) ≤ 1 * (E : Rat) := Rat.mul_le_mul_of_nonneg_right f3 (Rat.le_of_lt hE')
  have f5 : cm W a i * 1 ≤ cm W a i * (F : Rat) := Rat.mul_le_mul_of_nonneg_left f1 (h.cm_nn i)
  grind
theorem worths : ∀ (n : Nat) (A : List Nat) (W : Mx) (e : Nat), A.length = n → A.Nodup → Wk W A u e → ∀ r : Nat → Rat, ∃ g : Nat → Rat, ∀ i ∈ A, g i = r i + sm (fun x => W i x * g x) A := by
  intro n
  induction n with
  | zero =>
    intro A W e hn _ _ r
    have : A = [] := List.length_eq_zero_iff.mp hn
    subst this
    exact ⟨fun _ => 0, fun i hi => by simp at hi⟩
  | succ n ih =>
    intro A W e hn hd h r
    obtain ⟨pre, a, rfl⟩ : ∃ pre a, A = pre ++ [a] := by
      have hne : A ≠ [] := fun z => by rw [z] at hn; simp at hn
      exact ⟨A.dropLast, A.getLast hne, (List.dropLast_concat_getLast hne).symm⟩
    have ha : a ∉ pre := fun z => by
      rw [List.nodup_append] at hd
      exact hd.2.2 a z a (by simp) rfl
    have hdp : pre.Nodup := (List.nodup_append.mp hd).1
    obtain ⟨g, hg⟩ := ih pre (K49.elim W a) (2 * e) (by simpa using hn) hdp (h.elim ha) (fun b => r b + cm W a b * r a)
    let ga : Rat := (r a + sm (fun x => W a x * g x) pre) / (1 - W a a)
    have hga : ga * (1 - W a a) = r a + sm (fun x => W a x * g x) pre := div_cancel (by have := h.piv; grind)
    let g' : Nat → Rat := fun x => if x = a then ga else g x
    have e1 : ∀ b, sm (fun x => W b x * g' x) (pre ++ [a]) = sm (fun x => W b x * g x) pre + W b a * ga := fun b => by
      rw [sm_append]
      have : sm (fun x => W b x * g' x) pre = sm (fun x => W b x * g x) pre := sm_congr fun x hx => by
        have : x ≠ a := fun z => ha (z ▸ hx)
        show W b x * (if x = a then ga else g x) = _
        rw [if_neg this]
      rw [this]
      show _ + (W b a * (if a = a then ga else g a) + 0) = _
      rw [if_pos rfl]
      grind
    refine ⟨g', fun i hi => ?_⟩
    rw [e1]
    by_cases hia : i = a
    · subst hia
      show (if i = i then ga else g i) = _
      rw [if_pos rfl]
      grind
    · have hip : i ∈ pre := by simpa [hia] using hi
      have := hg i hip
      rw [elim_sm ha] at this
      have h3 := h.cm_eq i
      show (if i = a then ga else g i) = _
      rw [if_neg hia, this]
      grind
structure Vs (W : Mx) (A : List Nat) (s : Nat) (v : Nat → Rat) (e : Nat) : Prop where
  eq : ∀ j ∈ A, v j = (if j = s then 1 else 0) + sm (fun i => v i * W i j) A
  nn : ∀ j ∈ A, 0 ≤ v j
  dn : ∃ E : Nat, 0 < E ∧ E ≤ 2 ^ e ∧ ∀ i ∈ A, ∃ z : Int, v i * (E : Rat) = (z : Rat)
  le : ∀ j ∈ A, v j ≤ ((2 ^ e : Nat) : Rat)
theorem nat_dn {E : Nat} {e : Nat} {q : Rat} {z : Int} (h0 : 0 < E) (hE : E ≤ 2 ^ e) (h : q * (E : Rat) = (z : Rat)) : True := trivial
theorem rat1 {F : Nat} (h : 0 < F) : (1 : Rat) ≤ (F : Rat) := by
  have : ((1 : Int) : Rat) ≤ ((F : Int) : Rat) := Rat.intCast_le_intCast.mpr (by omega)
  exact this
theorem ratle {m n : Nat} (h : m ≤ n) : ((m : Nat) : Rat) ≤ ((n : Nat) : Rat) := by
  have : ((m : Int) : Rat) ≤ ((n : Int) : Rat) := Rat.intCast_le_intCast.mpr (by omega)
  exact this
theorem le_of_dn {q : Rat} {E : Nat} {z : Int} (h0 : 0 < E) (h1 : 0 < q) (h : q * (E : Rat) = (z : Rat)) : 1 / q ≤ (E : Rat) := by
  have hE : (0 : Rat) < (E : Rat) := Rat.natCast_pos.mpr h0
  have hz : (0 : Rat) < (z : Rat) := by rw [← h]; exact Rat.mul_pos h1 hE
  have hz1 : (1 : Rat) ≤ (z : Rat) := by
    have : (0 : Int) < z := Rat.intCast_lt_intCast.mp hz
    exact Rat.intCast_le_intCast.mpr (show (1 : Int) ≤ z by omega)
  have e : (1 / q) * q = 1 := div_cancel h1
  have n1 : 0 ≤ 1 / q := div_nn (by decide) h1
  have : 1 / q * 1 ≤ 1 / q * (z : Rat) := Rat.mul_le_mul_of_nonneg_left hz1 n1
  have e2 : 1 / q * (z : Rat) = (E : Rat) := by rw [← h]; grind
  grind
theorem Vs.first {s : Nat} (h : Wk W [s] u e) : Vs W [s] s (fun _ => 1 / (1 - W s s)) e := by
  have hp : W s s < 1 := Wk.piv (pre := []) h
  have hq : 0 < 1 - W s s := by grind
  have hc : 1 / (1 - W s s) * (1 - W s s) = 1 := div_cancel hq
  obtain ⟨E, h0, hE, hd⟩ := h.dn
  obtain ⟨p, hp2⟩ := hd s (by simp) s
  have e0 : (1 - W s s) * (E : Rat) = (((E : Int) - p : Int) : Rat) := by
    rw [Rat.intCast_sub, ← hp2]
    have : ((E : Int) : Rat) = (E : Rat) := rfl
    grind
  have lE := le_of_dn h0 hq e0
  have hz : (0 : Int) < (E : Int) - p := Rat.intCast_lt_intCast.mp (by rw [← e0]; exact Rat.mul_pos hq (Rat.natCast_pos.mpr h0))
  have hnn := (h.nn s s)
  have hp3 : (0 : Int) ≤ p := Rat.intCast_le_intCast.mp (by rw [← hp2]; exact mul_nn hnn (Rat.le_of_lt (Rat.natCast_pos.mpr h0)))
  refine ⟨fun j hj => ?_, fun j _ => div_nn (by decide) hq, ⟨((E : Int) - p).toNat, by omega, by omega, fun i _ => ⟨(E : Int), ?_⟩⟩, fun j _ => ?_⟩
  · have : j = s := by simpa using hj
    subst this
    rw [if_pos rfl]
    simp only [sm]
    grind
  · have e1 : ((((E : Int) - p).toNat : Nat) : Rat) = (1 - W s s) * (E : Rat) := by
      rw [e0]
      have : (((E : Int) - p).toNat : Int) = (E : Int) - p := by omega
      rw [← this]
      rfl
    rw [e1]
    have : ((E : Int) : Rat) = (E : Rat) := rfl
    rw [this]
    grind
  · exact Rat.le_trans lE (ratle hE)
theorem sm_dn {f : Nat → Rat} {E : Rat} : ∀ {l : List Nat}, (∀ x ∈ l, ∃ z : Int, f x * E = (z : Rat)) → ∃ z : Int, sm f l * E = (z : Rat)
  | [], _ => ⟨0, by rw [sm, Rat.zero_mul]; rfl⟩
  | a :: l, h => by
    obtain ⟨z1, h1⟩ := h a (List.mem_cons_self ..)
    obtain ⟨z2, h2⟩ := sm_dn fun x hx => h x (List.mem_cons_of_mem _ hx)
    refine ⟨z1 + z2, ?_⟩
    rw [sm, Rat.intCast_add, ← h1, ← h2]
    grind
theorem sm_const {c : Rat} : ∀ {l : List Nat}, sm (fun _ => c) l = (l.length : Rat) * c
  | [] => by rw [sm]; exact (Rat.zero_mul c).symm
  | a :: l => by
    rw [sm, sm_const, List.length_cons, Rat.natCast_add]
    have : ((1 : Nat) : Rat) = 1 := rfl
    rw [this]
    grind
theorem Vs.step {s : Nat} {v : Nat → Rat} {f : Nat} (h : Wk W (pre ++ [a]) u e) (ha : a ∉ pre) (hs : s ∈ pre) (hn : pre.length ≤ 7) (hv : Vs (K49.elim W a) pre s v f) :
    Vs W (pre ++ [a]) s (fun j => if j = a then sm (fun b => v b * cm W a b) pre else v j) (f + e + 3) := by
  have has : a ≠ s := fun z => ha (z ▸ hs)
  have hva : ∀ b ∈ pre, (if b = a then sm (fun b => v b * cm W a b) pre else v b) = v b := fun b hb => by rw [if_neg (show ¬ b = a from fun z => ha (z ▸ hb))]
  obtain ⟨F, f0, fF, hF⟩ := h.cm_dn
  obtain ⟨E, h0, hE, hd⟩ := hv.dn
  have sums : ∀ j, sm (fun i => (if i = a then sm (fun b => v b * cm W a b) pre else v i) * W i j) (pre ++ [a]) = sm (fun i => v i * W i j) pre + sm (fun b => v b * cm W a b) pre * W a j := fun j => by
    rw [sm_append]
    have : sm (fun i => (if i = a then sm (fun b => v b * cm W a b) pre else v i) * W i j) pre = sm (fun i => v i * W i j) pre := sm_congr fun i hi => by rw [hva i hi]
    rw [this]
    simp only [sm, if_true]
    grind
  have nna : 0 ≤ sm (fun b => v b * cm W a b) pre := sm_nonneg fun b hb => mul_nn (hv.nn b hb) (h.cm_nn b)
  refine ⟨fun j hj => ?_, fun j hj => ?_, ⟨E * F, Nat.mul_pos h0 f0, ?_, fun i hi => ?_⟩, fun j hj => ?_⟩
  · rw [sums]
    by_cases hja : j = a
    · subst hja
      rw [if_pos rfl, if_neg has]
      have : sm (fun i => v i * W i j) pre = sm (fun b => v b * cm W j b) pre * (1 - W j j) := by
        rw [← sm_mulr]
        exact sm_congr fun b _ => by have := h.cm_eq b; grind
      rw [this]
      grind
    · have hjp : j ∈ pre := by simpa [hja] using hj
      rw [if_neg hja, hv.eq j hjp]
      have : sm (fun i => v i * K49.elim W a i j) pre = sm (fun i => v i * W i j) pre + sm (fun b => v b * cm W a b) pre * W a j := by
        rw [← sm_mulr, ← sm_add]
        exact sm_congr fun b _ => by rw [elim_def hja]; grind
      rw [this]
  · split
    · exact nna
    · rename_i hja
      exact hv.nn j (by simpa [hja] using hj)
  · have : E * F ≤ 2 ^ f * 2 ^ e := Nat.mul_le_mul hE fF
    rw [← Nat.pow_add] at this
    exact Nat.le_trans this (Nat.pow_le_pow_right (by decide) (by omega))
  · have e1 : (((E * F : Nat)) : Rat) = (E : Rat) * (F : Rat) := Rat.natCast_mul ..
    rw [e1]
    have key : ∀ x, (∃ z : Int, x * (E : Rat) = (z : Rat)) → ∃ z : Int, x * ((E : Rat) * (F : Rat)) = (z : Rat) := fun x ⟨z, hz⟩ => ⟨z * F, by
      rw [Rat.intCast_mul, ← hz]
      have : ((F : Int) : Rat) = (F : Rat) := rfl
      rw [this]; grind⟩
    split
    · refine sm_dn fun b hb => ?_
      obtain ⟨z1, q1⟩ := hd b hb
      obtain ⟨z2, q2⟩ := (hF b (by simp [hb])).1
      refine ⟨z1 * z2, ?_⟩
      rw [Rat.intCast_mul, ← q1, ← q2]
      grind
    · rename_i hja
      exact key _ (hd i (by simpa [hja] using hi))
  · split
    · have h1 : sm (fun b => v b * cm W a b) pre ≤ sm (fun _ => ((2 ^ f : Nat) : Rat) * ((2 ^ e : Nat) : Rat)) pre := sm_le fun b hb => by
        have g1 := hv.le b hb
        have g2 := (hF b (by simp [hb])).2
        have g3 := hv.nn b hb
        have g4 := h.cm_nn b
        have g5 : v b * cm W a b ≤ ((2 ^ f : Nat) : Rat) * cm W a b := Rat.mul_le_mul_of_nonneg_right g1 g4
        have g6 : ((2 ^ f : Nat) : Rat) * cm W a b ≤ ((2 ^ f : Nat) : Rat) * ((2 ^ e : Nat) : Rat) := Rat.mul_le_mul_of_nonneg_left g2 (by grind)
        exact Rat.le_trans g5 g6
      rw [sm_const, ← Rat.natCast_mul, ← Rat.natCast_mul] at h1
      refine Rat.le_trans h1 (ratle ?_)
      rw [← Nat.pow_add]
      have : pre.length * 2 ^ (f + e) ≤ 8 * 2 ^ (f + e) := Nat.mul_le_mul_right _ (by omega)
      have e2 : 2 ^ (f + e + 3) = 8 * 2 ^ (f + e) := by rw [Nat.pow_add]; omega
      omega
    · rename_i hja
      exact Rat.le_trans (hv.le j (by simpa [hja] using hj)) (ratle (Nat.pow_le_pow_right (by decide) (by omega)))
end K49
namespace K49
open PySem PySem.Spec PyProof.Rows L2 Mi
inductive Sd where
  | tell (n : Nat) | node (j : Nat)
  deriving DecidableEq
abbrev Tr := List (Sd × Sd)
def sides (T : Tr) (i : Nat) : List Sd := match T[i]? with
  | some (a, b) => [a, b]
  | none => []
structure TrOk (T : Tr) : Prop where
  l0 : 0 < T.length
  l5 : T.length ≤ 5
  nd : ∀ i j, Sd.node j ∈ sides T i → j < T.length
  tl : ∀ i n, Sd.tell n ∈ sides T i → n < 4
def nodes : List Sd → List Nat
  | [] => []
  | .node j :: l => j :: nodes l
  | .tell _ :: l => nodes l
theorem mem_nodes {j : Nat} : ∀ {l : List Sd}, j ∈ nodes l ↔ Sd.node j ∈ l
  | [] => by simp [nodes]
  | .node i :: l => by simp [nodes, mem_nodes (l := l)]
  | .tell i :: l => by simp [nodes, mem_nodes (l := l)]
abbrev succs (T : Tr) (i : Nat) : List Nat := nodes (sides T i)
inductive Rk (T : Tr) (s : Nat) : Nat → Nat → Prop where
  | base : Rk T s 0 s
  | step {k i j : Nat} : Rk T s k i → j ∈ succs T i → Rk T s (k + 1) j
def Rc (T : Tr) (s x : Nat) : Prop := ∃ k, Rk T s k x
theorem Rc.self {T : Tr} {s : Nat} : Rc T s s := ⟨0, .base⟩
theorem Rc.next {T : Tr} {s i j : Nat} (h : Rc T s i) (g : j ∈ succs T i) : Rc T s j := let ⟨k, h⟩ := h; ⟨k + 1, .step h g⟩
theorem Rk.trans {T : Tr} {s i : Nat} {k : Nat} (h : Rk T s k i) : ∀ {m j : Nat}, Rk T i m j → Rc T s j := by
  intro m j g
  induction g with
  | base => exact ⟨k, h⟩
  | step _ q ih => exact ih.next q
theorem Rc.trans {T : Tr} {s i j : Nat} (h : Rc T s i) (g : Rc T i j) : Rc T s j := let ⟨_, h⟩ := h; let ⟨_, g⟩ := g; h.trans g
theorem Rc.sub {T : Tr} {s : Nat} {l : List Nat} (h0 : s ∈ l) (h : ∀ x ∈ l, ∀ j ∈ succs T x, j ∈ l) : ∀ {x}, Rc T s x → x ∈ l := by
  intro x ⟨k, r⟩
  induction r with
  | base => exact h0
  | step _ q ih => exact h _ ih _ q
variable {T : Tr} {s : Nat}
theorem TrOk.succ_lt (ok : TrOk T) {i j : Nat} (h : j ∈ succs T i) : j < T.length := ok.nd i j (mem_nodes.mp h)
theorem Rc.lt (ok : TrOk T) (hs : s < T.length) {x : Nat} (h : Rc T s x) : x < T.length := by
  obtain ⟨k, r⟩ := h
  cases r with
  | base => exact hs
  | step _ q => exact ok.succ_lt q
theorem nodup_le {l : List Nat} {m : Nat} (h : l.Nodup) (g : ∀ x ∈ l, x < m) : l.length ≤ m := by
  have := h.length_le_of_subset (l₂ := List.range m) fun x hx => List.mem_range.mpr (g x hx)
  simpa using this
theorem closed_or {l : List Nat} : (∀ x ∈ l, ∀ j ∈ succs T x, j ∈ l) ∨ ∃ x ∈ l, ∃ j ∈ succs T x, j ∉ l := by
  by_cases h : ∀ x ∈ l, ∀ j ∈ succs T x, j ∈ l
  · exact .inl h
  · refine .inr ?_
    simp only [Classical.not_forall] at h
    obtain ⟨x, hx, j, hj, hn⟩ := h
    exact ⟨x, hx, j, hj, hn⟩
theorem near (ok : TrOk T) (hs : s < T.length) {x : Nat} (h : Rc T s x) : ∃ k, k < T.length ∧ Rk T s k x := by
  have key : ∀ n, ∃ l : List Nat, l.Nodup ∧ s ∈ l ∧ (∀ y ∈ l, ∃ k, k ≤ n ∧ Rk T s k y) ∧ ((∀ y ∈ l, ∀ j ∈ succs T y, j ∈ l) ∨ n + 1 ≤ l.length) := by
    intro n
    induction n with
    | zero =>
      refine ⟨[s], by simp, by simp, fun y hy => ?_, .inr (by simp)⟩
      obtain rfl : y = s := by simpa using hy
      exact ⟨0, Nat.le_refl _, .base⟩
    | succ n ih =>
      obtain ⟨l, h1, h2, h3, h4⟩ := ih
      rcases h4 with h4 | h4
      · exact ⟨l, h1, h2, fun y hy => let ⟨k, a, b⟩ := h3 y hy; ⟨k, by omega, b⟩, .inl h4⟩
      · rcases closed_or (T := T) (l := l) with h5 | ⟨y, hy, j, hj, hn⟩
        · exact ⟨l, h1, h2, fun y hy => let ⟨k, a, b⟩ := h3 y hy; ⟨k, by omega, b⟩, .inl h5⟩
        · obtain ⟨k, hk, r⟩ := h3 y hy
          refine ⟨j :: l, List.nodup_cons.mpr ⟨hn, h1⟩, by simp [h2], fun z hz => ?_, .inr (by simp; omega)⟩
          rcases List.mem_cons.mp hz with rfl | hz
          · exact ⟨k + 1, by omega, .step r hj⟩
          · obtain ⟨k, a, b⟩ := h3 z hz
            exact ⟨k, by omega, b⟩
  obtain ⟨l, h1, h2, h3, h4⟩ := key (T.length - 1)
  have hl := ok.l0
  have cl : ∀ y ∈ l, ∀ j ∈ succs T y, j ∈ l := by
    rcases h4 with h4 | h4
    · exact h4
    · intro y hy j hj
      have lt : ∀ z ∈ l, z < T.length := fun z hz => let ⟨k, _, r⟩ := h3 z hz; Rc.lt ok hs ⟨k, r⟩
      by_cases e : j ∈ l
      · exact e
      · have := nodup_le (l := j :: l) (m := T.length) (List.nodup_cons.mpr ⟨e, h1⟩) fun z hz => by
          rcases List.mem_cons.mp hz with rfl | hz
          · exact ok.succ_lt hj
          · exact lt z hz
        simp at this
        omega
  obtain ⟨k, a, b⟩ := h3 x (Rc.sub h2 cl h)
  exact ⟨k, by omega, b⟩
theorem asc_eq : ∀ {l m : List Nat}, l.Pairwise (· < ·) → m.Pairwise (· < ·) → (∀ x, x ∈ l ↔ x ∈ m) → l = m
  | [], [], _, _, _ => rfl
  | [], b :: m, _, _, h => absurd ((h b).mpr (by simp)) (by simp)
  | a :: l, [], _, _, h => absurd ((h a).mp (by simp)) (by simp)
  | a :: l, b :: m, hl, hm, h => by
    rw [List.pairwise_cons] at hl hm
    have e : a = b := by
      have h1 := (h a).mp (by simp)
      have h2 := (h b).mpr (by simp)
      rcases List.mem_cons.mp h1 with z | z
      · exact z
      · rcases List.mem_cons.mp h2 with y | y
        · exact y.symm
        · have := hl.1 b y
          have := hm.1 a z
          omega
    subst e
    have := asc_eq hl.2 hm.2 fun x => by
      constructor
      · intro hx
        have h1 := (h x).mp (by simp [hx])
        rcases List.mem_cons.mp h1 with z | z
        · have := hl.1 x hx; omega
        · exact z
      · intro hx
        have h1 := (h x).mpr (by simp [hx])
        rcases List.mem_cons.mp h1 with z | z
        · have := hm.1 x hx; omega
        · exact z
    rw [this]
theorem ins_mem {a x : Int} : ∀ {l : List Int}, x ∈ Mi.ins a l ↔ x = a ∨ x ∈ l
  | [] => by simp [Mi.ins]
  | b :: l => by
    unfold Mi.ins
    split
    · simp
    · rw [List.mem_cons, ins_mem, List.mem_cons]
      constructor <;> (intro h; rcases h with h | h | h <;> simp [h])
theorem srt_mem {x : Int} : ∀ {l : List Int}, x ∈ srt l ↔ x ∈ l
  | [] => by simp [srt]
  | a :: l => by unfold srt; rw [ins_mem, srt_mem, List.mem_cons]
theorem ins_srt {a : Int} : ∀ {l : List Int}, l.Pairwise (· < ·) → a ∉ l → (Mi.ins a l).Pairwise (· < ·)
  | [], _, _ => by simp [Mi.ins]
  | b :: l, h, hn => by
    rw [List.mem_cons, not_or] at hn
    unfold Mi.ins
    split
    · rename_i hab
      refine List.pairwise_cons.mpr ⟨fun x hx => ?_, h⟩
      rcases List.mem_cons.mp hx with rfl | hx
      · omega
      · have := (List.pairwise_cons.mp h).1 x hx
        omega
    · rename_i hab
      refine List.pairwise_cons.mpr ⟨fun x hx => ?_, ins_srt (List.pairwise_cons.mp h).2 hn.2⟩
      rcases ins_mem.mp hx with rfl | hx
      · omega
      · exact (List.pairwise_cons.mp h).1 x hx
theorem srt_srt : ∀ {l : List Int}, l.Nodup → (srt l).Pairwise (· < ·)
  | [], _ => by simp [srt]
  | a :: l, h => by
    unfold srt
    rw [List.nodup_cons] at h
    exact ins_srt (srt_srt h.2) (fun z => h.1 (srt_mem.mp z))
def nI (l : List Nat) : List Int := l.map fun (n : Nat) => (n : Int)
def nD (l : List Nat) : List D := l.map fun (n : Nat) => D.int (n : Int)
theorem nD_I {l : List Nat} : (nI l).map D.int = nD l := by unfold nI nD; rw [List.map_map]; rfl
theorem nD_ints : ∀ {l : List Nat}, asInts (nD l) = some (nI l)
  | [] => rfl
  | a :: l => by
    show Option.map _ (asInts (nD l)) = _
    rw [nD_ints]
    rfl
theorem nI_nodup {l : List Nat} (h : l.Nodup) : (nI l).Nodup := by
  unfold nI
  rw [List.Nodup, List.pairwise_map]
  exact h.imp fun hne z => hne (by omega)
theorem srt_nat {l : List Nat} (h : l.Nodup) : ∃ m : List Nat, m.Pairwise (· < ·) ∧ (∀ x, x ∈ m ↔ x ∈ l) ∧ (srt (nI l)).map D.int = nD m := by
  have h1 := srt_srt (nI_nodup h)
  have h2 : ∀ x ∈ srt (nI l), 0 ≤ x := fun x hx => by
    have := srt_mem.mp hx
    unfold nI at this
    obtain ⟨n, _, rfl⟩ := List.mem_map.mp this
    omega
  have e : nI ((srt (nI l)).map Int.toNat) = srt (nI l) := by
    unfold nI
    rw [List.map_map]
    conv => rhs; rw [← List.map_id (srt (List.map (fun n : Nat => (n : Int)) l))]
    refine List.map_congr_left fun x hx => ?_
    have := h2 x hx
    show ((x.toNat : Nat) : Int) = x
    omega
  refine ⟨(srt (nI l)).map Int.toNat, ?_, fun x => ?_, ?_⟩
  · rw [List.pairwise_map]
    refine List.Pairwise.imp_of_mem (fun {a b} ha hb hab => ?_) h1
    have := h2 a ha
    have := h2 b hb
    omega
  · constructor
    · intro hx
      obtain ⟨y, hy, rfl⟩ := List.mem_map.mp hx
      have := srt_mem.mp hy
      unfold nI at this
      obtain ⟨n, hn, rfl⟩ := List.mem_map.mp this
      simpa using hn
    · intro hx
      refine List.mem_map.mpr ⟨(x : Int), srt_mem.mpr (List.mem_map.mpr ⟨x, hx, rfl⟩), by simp⟩
  · rw [← nD_I, e]
theorem asc_nodup {l : List Nat} (h : l.Pairwise (· < ·)) : l.Nodup := h.imp fun hab => by omega
end K49
namespace K49
open PySem PySem.Spec PyProof.Rows L2 Mi
variable {T : Tr} {s : Nat}
def ssum (f : Sd → Rat) : List Sd → Rat
  | [] => 0
  | a :: l => f a + ssum f l
def hn (j : Nat) (d : Sd) : Rat := if d = .node j then 1 / 2 else 0
def ht (n : Nat) (d : Sd) : Rat := if d = .tell n then 1 / 2 else 0
def PM (T : Tr) : Mx := fun i j => ssum (hn j) (sides T i)
def TM (T : Tr) (i n : Nat) : Rat := ssum (ht n) (sides T i)
theorem ssum_nonneg {f : Sd → Rat} : ∀ {l : List Sd}, (∀ x ∈ l, 0 ≤ f x) → 0 ≤ ssum f l
  | [], _ => Rat.le_refl
  | a :: l, h => by
    have h1 := h a (List.mem_cons_self ..)
    have h2 := ssum_nonneg fun x hx => h x (List.mem_cons_of_mem _ hx)
    rw [ssum]
    grind
theorem hn_nn {j : Nat} {d : Sd} : 0 ≤ hn j d := by unfold hn; split <;> decide +kernel
theorem ht_nn {j : Nat} {d : Sd} : 0 ≤ ht j d := by unfold ht; split <;> decide +kernel
theorem PM_nn (i j : Nat) : 0 ≤ PM T i j := ssum_nonneg fun _ _ => hn_nn
theorem TM_nn (i j : Nat) : 0 ≤ TM T i j := ssum_nonneg fun _ _ => ht_nn
theorem ssum_pos {f : Sd → Rat} (h : ∀ x, 0 ≤ f x) : ∀ {l : List Sd} {d : Sd}, d ∈ l → f d ≤ ssum f l
  | a :: l, d, hd => by
    have h2 := ssum_nonneg (f := f) (l := l) fun x _ => h x
    have h1 := h a
    rw [ssum]
    rcases List.mem_cons.mp hd with rfl | hd
    · grind
    · have := ssum_pos h hd
      grind
theorem ssum_zero {f : Sd → Rat} : ∀ {l : List Sd}, (∀ x ∈ l, f x = 0) → ssum f l = 0
  | [], _ => rfl
  | a :: l, h => by
    rw [ssum, h a (List.mem_cons_self ..), ssum_zero fun x hx => h x (List.mem_cons_of_mem _ hx)]
    grind
theorem PM_pos {i j : Nat} (h : j ∈ succs T i) : 0 < PM T i j := by
  have := ssum_pos (f := hn j) (fun x => hn_nn) (mem_nodes.mp h)
  have e : hn j (.node j) = 1 / 2 := if_pos rfl
  rw [e] at this
  unfold PM
  grind
theorem PM_ne {i j : Nat} (h : PM T i j ≠ 0) : j ∈ succs T i := by
  refine mem_nodes.mpr (Decidable.byContradiction fun z => h (ssum_zero fun x hx => ?_))
  unfold hn
  rw [if_neg]
  intro e
  exact z (e ▸ hx)
theorem TM_pos {i n : Nat} (h : Sd.tell n ∈ sides T i) : 0 < TM T i n := by
  have := ssum_pos (f := ht n) (fun x => ht_nn) h
  have e : ht n (.tell n) = 1 / 2 := if_pos rfl
  rw [e] at this
  unfold TM
  grind
theorem TM_ne {i n : Nat} (h : TM T i n ≠ 0) : Sd.tell n ∈ sides T i := by
  refine Decidable.byContradiction fun z => h (ssum_zero fun x hx => ?_)
  unfold ht
  rw [if_neg]
  intro e
  exact z (e ▸ hx)
def vl (g : Nat → Rat) : Sd → Rat
  | .node j => 1 / 2 * g j
  | .tell _ => 0
theorem sm_hn {g : Nat → Rat} {A : List Nat} (hd : A.Nodup) {d : Sd} (h : ∀ j, d = .node j → j ∈ A) : sm (fun x => hn x d * g x) A = vl g d := by
  cases d with
  | tell n =>
    have : sm (fun x => hn x (.tell n) * g x) A = sm (fun _ => 0) A := sm_congr fun x _ => by
      unfold hn
      rw [if_neg (by simp)]
      grind
    rw [this, sm_zero]; rfl
  | node j =>
    have : sm (fun x => hn x (.node j) * g x) A = sm (fun x => (if x = j then 1 else 0) * (1 / 2 * g x)) A := sm_congr fun x _ => by
      unfold hn
      by_cases e : x = j
      · subst e; rw [if_pos rfl, if_pos rfl]; grind
      · rw [if_neg (by simp; exact fun z => e z.symm), if_neg e]; grind
    rw [this, sm_one hd (h j rfl)]; rfl
theorem sm_ssum {g : Nat → Rat} {A : List Nat} (hd : A.Nodup) : ∀ {l : List Sd}, (∀ j, Sd.node j ∈ l → j ∈ A) → sm (fun x => ssum (hn x) l * g x) A = ssum (vl g) l
  | [], _ => by
    simp only [ssum]
    have : sm (fun x => 0 * g x) A = sm (fun _ => 0) A := sm_congr fun x _ => by grind
    rw [this, sm_zero]
  | d :: l, h => by
    simp only [ssum]
    rw [← sm_hn (g := g) hd (d := d) fun j e => h j (by simp [e]), ← sm_ssum hd fun j hj => h j (by simp [hj]), ← sm_add]
    exact sm_congr fun x _ => by grind
theorem sm_PM {g : Nat → Rat} {A : List Nat} (hd : A.Nodup) {i : Nat} (h : ∀ j ∈ succs T i, j ∈ A) : sm (fun x => PM T i x * g x) A = ssum (vl g) (sides T i) := sm_ssum hd fun j hj => h j (mem_nodes.mpr hj)
def Tl (T : Tr) (x : Nat) : Prop := ∃ y n, Rc T x y ∧ Sd.tell n ∈ sides T y
structure EndOk (T : Tr) (M E : List Nat) : Prop where
  nd : E.Nodup
  sub : ∀ x ∈ E, x ∈ M
  rk : ∀ (k x : Nat), E[k]? = some x → (∃ n, Sd.tell n ∈ sides T x) ∨ ∃ j ∈ E.take k, Sd.node j ∈ sides T x
  cl : ∀ x ∈ M, x ∉ E → (∀ n, Sd.tell n ∉ sides T x) ∧ ∀ j ∈ E, Sd.node j ∉ sides T x
variable {M E : List Nat}
theorem EndOk.iff (h : EndOk T M E) (cl : ∀ x ∈ M, ∀ j ∈ succs T x, j ∈ M) {x : Nat} (hx : x ∈ M) : x ∈ E ↔ Tl T x := by
  constructor
  · have key : ∀ (k x : Nat), E[k]? = some x → Tl T x := by
      intro k
      induction k using Nat.strongRecOn with
      | _ k ih =>
        intro x hk
        rcases h.rk k x hk with ⟨n, hn⟩ | ⟨j, hj, hn⟩
        · exact ⟨x, n, .self, hn⟩
        · obtain ⟨i, hi⟩ := List.mem_iff_getElem?.mp hj
          have hik : i < k := by
            have := (List.getElem?_eq_some_iff.mp hi).1
            rw [List.length_take] at this
            omega
          rw [List.getElem?_take_of_lt hik] at hi
          obtain ⟨y, n, r, ht⟩ := ih i hik j hi
          exact ⟨y, n, (Rc.self.next (mem_nodes.mpr hn)).trans r, ht⟩
    intro hE
    obtain ⟨k, hk⟩ := List.mem_iff_getElem?.mp hE
    exact key k x hk
  · rintro ⟨y, n, ⟨k, r⟩, ht⟩
    refine Decidable.byContradiction fun hn => ?_
    have key : y ∈ M ∧ y ∉ E := by
      clear ht
      induction r with
      | base => exact ⟨hx, hn⟩
      | step _ q ih => exact ⟨cl _ ih.1 _ q, fun z => (h.cl _ ih.1 ih.2).2 _ z (mem_nodes.mp q)⟩
    exact (h.cl _ key.1 key.2).1 n ht
def pw (n : Nat) : Rat := ((2 ^ n : Nat) : Rat)
theorem pw_le {m n : Nat} (h : m ≤ n) : pw m ≤ pw n := ratle (Nat.pow_le_pow_right (by decide) h)
theorem pw_succ {n : Nat} : pw (n + 1) = 2 * pw n := by
  unfold pw
  rw [Nat.pow_succ, Rat.natCast_mul]
  have : ((2 : Nat) : Rat) = 2 := rfl
  rw [this]; grind
theorem pw_one : pw 1 = 2 := rfl
theorem sides_two (h : s < T.length) : ∃ a b, sides T s = [a, b] := by
  unfold sides
  rw [List.getElem?_eq_getElem h]
  exact ⟨_, _, rfl⟩
def uE (E : List Nat) (x : Nat) : Rat := pw (E.length + 1) - pw (E.length - E.idxOf x)
theorem idx_take {k j : Nat} (h : j ∈ E.take k) : E.idxOf j < k ∧ E.idxOf j < E.length := by
  have hj : j ∈ E := List.mem_of_mem_take h
  refine ⟨?_, List.idxOf_lt_length_iff.mpr hj⟩
  have e : E.idxOf j = (E.take k).idxOf j := by
    conv => lhs; rw [← List.take_append_drop k E]
    rw [List.idxOf_append, if_pos h]
  rw [e]
  have := List.idxOf_lt_length_iff.mpr h
  rw [List.length_take] at this
  omega
theorem wk_of (h : EndOk T M E) (ok : TrOk T) (lt : ∀ x ∈ M, x < T.length) (cl : ∀ x ∈ M, ∀ j ∈ succs T x, j ∈ M) (all : ∀ x ∈ M, x ∈ E) {A : List Nat} (hA : A.Nodup) (hm : ∀ x, x ∈ A ↔ x ∈ M) : Wk (PM T) A (uE E) 1 := by
  have clA : ∀ i ∈ A, ∀ j ∈ succs T i, j ∈ A := fun i hi j hj => (hm j).mpr (cl i ((hm i).mp hi) j hj)
  have lo : ∀ x ∈ M, pw 1 ≤ pw (E.length - E.idxOf x) := fun x hx => pw_le (by have := List.idxOf_lt_length_iff.mpr (all x hx); omega)
  have hi2 : ∀ x ∈ M, pw (E.length - E.idxOf x) ≤ pw E.length := fun x hx => pw_le (by omega)
  have p0 : ∀ n, (1 : Rat) ≤ pw n := fun n => rat1 (Nat.pow_pos (by decide))
  refine ⟨PM_nn, fun i hi j hj => clA i hi j (PM_ne hj), fun i hi => ?_, fun i hi => ?_, fun i hi => ?_, ⟨2, by decide, by decide, fun i hi j => ?_⟩⟩
  · have h1 := hi2 i ((hm i).mp hi)
    have h2 : pw (E.length + 1) = 2 * pw E.length := pw_succ
    have h3 := p0 E.length
    unfold uE
    grind
  · have hiM := (hm i).mp hi
    rw [sm_PM hA (clA i hi)]
    obtain ⟨a, b, hs⟩ := sides_two (lt i hiM)
    have hE := all i hiM
    have hlt := List.idxOf_lt_length_iff.mpr hE
    have hk : E[E.idxOf i]? = some i := by rw [List.getElem?_eq_getElem hlt, List.getElem_idxOf]
    have e2 : pw (E.length + 1) = 2 * pw E.length := pw_succ
    have big := hi2 i hiM
    have two := lo i hiM
    rw [pw_one] at two
    have anyb : ∀ d ∈ sides T i, vl (uE E) d ≤ 1 / 2 * (pw (E.length + 1) - 2) := fun d hd => by
      cases d with
      | tell n =>
        show (0 : Rat) ≤ _
        grind
      | node j =>
        have hj := cl i hiM j (mem_nodes.mpr hd)
        have := lo j hj
        rw [pw_one] at this
        show 1 / 2 * (pw (E.length + 1) - pw (E.length - E.idxOf j)) ≤ _
        grind
    have good : ∃ d ∈ sides T i, vl (uE E) d ≤ 1 / 2 * (pw (E.length + 1) - 2 * pw (E.length - E.idxOf i)) := by
      rcases h.rk _ i hk with ⟨n, hn⟩ | ⟨j, hj, hn⟩
      · refine ⟨_, hn, ?_⟩
        show (0 : Rat) ≤ _
        grind
      · refine ⟨_, hn, ?_⟩
        have hij := idx_take hj
        have : pw (E.length - E.idxOf i + 1) ≤ pw (E.length - E.idxOf j) := pw_le (by omega)
        rw [pw_succ] at this
        show 1 / 2 * (pw (E.length + 1) - pw (E.length - E.idxOf j)) ≤ _
        grind
    rw [hs] at anyb good ⊢
    have ha := anyb a (by simp)
    have hb := anyb b (by simp)
    obtain ⟨d, hd, hg⟩ := good
    simp only [ssum]
    unfold uE
    have hd : d = a ∨ d = b := by simpa using hd
    rcases hd with rfl | rfl
    · unfold uE at *; grind
    · unfold uE at *; grind
  · obtain ⟨a, b, hs⟩ := sides_two (lt i ((hm i).mp hi))
    have e1 : sm (fun x => PM T i x) A = sm (fun x => PM T i x * (fun _ => 1) x) A := sm_congr fun x _ => by grind
    have v1 : ∀ d, vl (fun _ => 1) d ≤ 1 / 2 := fun d => by
      cases d with
      | tell n => show (0 : Rat) ≤ _; decide +kernel
      | node j => show (1 / 2 * 1 : Rat) ≤ _; decide +kernel
    rw [e1, sm_PM hA (clA i hi), hs]
    simp only [ssum]
    have := v1 a
    have := v1 b
    grind
  · have : ∀ l : List Sd, ∃ z : Int, ssum (hn j) l * ((2 : Nat) : Rat) = (z : Rat) := by
      intro l
      induction l with
      | nil => exact ⟨0, by rw [ssum, Rat.zero_mul]; rfl⟩
      | cons d l ih =>
        obtain ⟨z, hz⟩ := ih
        refine ⟨(if d = .node j then 1 else 0) + z, ?_⟩
        rw [ssum, Rat.intCast_add, ← hz]
        unfold hn
        have two : ((2 : Nat) : Rat) = 2 := rfl
        rw [two]
        split
        · have : ((1 : Int) : Rat) = 1 := rfl
          rw [this]; grind
        · have : ((0 : Int) : Rat) = 0 := rfl
          rw [this]; grind
    exact this _
end K49
namespace K49
open PySem PySem.Spec PyProof.Rows L2 Mi
variable {k : Nat} {S : Sto} {Q : KD} {X : KX} {pp : Addr} {T : Tr} {s : Nat}
def sD : Sd → D
  | .tell n => .tup [.str "tell", .int (n : Int)]
  | .node j => .tup [.str "node", .int (j : Int)]
def tD (T : Tr) : D := .tup (T.map fun x => .tup [sD x.1, sD x.2])
theorem ix_tree {i : Nat} (h : i < T.length) : ixR (tD T) (.int (i : Int)) S Q = Q (.tup ((sides T i).map sD)) S := by
  unfold tD
  have e : (T.map fun x => D.tup [sD x.1, sD x.2])[i]? = some (.tup [sD T[i].1, sD T[i].2]) := by
    rw [List.getElem?_map, List.getElem?_eq_getElem h]; rfl
  rw [ixT (atIk i rfl e)]
  unfold sides
  rw [List.getElem?_eq_getElem h]
  rfl
theorem number_ok {n : Nat} (hk : 0 < k) (hQ : Q (.bl true) S) : Γ k "is_number" [.int (n : Int)] S Q X := by
  cases k with
  | zero => omega
  | succ k =>
  refine gam (np := 1) (nn := 1) (b := b_is_number) rfl rfl ?_
  simp only [b_is_number, wSs, wS, wT, wE, wEs, wO, wC, wI, wG, wGs, startD, List.map_cons, List.map_nil, List.length_cons, List.length_nil, List.replicate, List.cons_append, List.nil_append, List.append_nil, List.set_cons_zero, List.set_cons_succ, List.getElem?_cons_zero, List.getElem?_cons_succ, itT, wipeD, opAddI, opSubI, opMulI, opDivI, opModI, opPowI, opAddT, cmEq, cmNe, cmLt, cmLe, cmGt, cmGe, cmIn, eqI, eqS, inS2, truB, ixT0, ixT1, ixT2, ixT3, ixT4, ixT6, slcT, lenT, absI, intI, tupleT, listT, listRl, decide_true, decide_false, if_true, if_false, Bool.false_eq_true, reduceIte, decide_eq_true_eq, Bool.not_true, Bool.not_false, line, mI_int, mI_bool, mI_str, mI_tuple, mI_list, mB_int, mB_bool, mB_str, mB_tuple, mB_list, mS_int, mS_bool, mS_str, mS_tuple, mS_list, mT_int, mT_bool, mT_str, mT_tuple, mT_list, mN_int, mN_bool, mN_str, mN_tuple, mN_list, anyT, anyF, Nat.zero_add, Nat.reduceAdd, Nat.reduceLeDiff, true_and]
  refine ⟨S, Sto.le_refl, ?_⟩
  have : decide ((0 : Int) ≤ (n : Int)) = true := by simp
  rw [this]
  exact hQ
theorem side_ok {d : Sd} {m : Nat} (hk : 1 < k) (h : ∀ j, d = .node j → j < m) (hQ : Q (.bl true) S) : Γ k "is_side" [sD d, .int (m : Int)] S Q X := by
  cases k with
  | zero => omega
  | succ k =>
  refine gam (np := 2) (nn := 2) (b := b_is_side) rfl rfl ?_
  cases d with
  | tell n =>
    simp only [b_is_side, sD, wSs, wS, wT, wE, wEs, wO, wC, wI, wG, wGs, startD, List.map_cons, List.map_nil, List.length_cons, List.length_nil, List.replicate, List.cons_append, List.nil_append, List.append_nil, List.set_cons_zero, List.set_cons_succ, List.getElem?_cons_zero, List.getElem?_cons_succ, itT, wipeD, opAddI, opSubI, opMulI, opDivI, opModI, opPowI, opAddT, cmEq, cmNe, cmLt, cmLe, cmGt, cmGe, cmIn, eqI, eqS, inS2, truB, ixT0, ixT1, ixT2, ixT3, ixT4, ixT6, slcT, lenT, absI, intI, tupleT, listT, listRl, decide_true, decide_false, if_true, if_false, Bool.false_eq_true, reduceIte, decide_eq_true_eq, Bool.not_true, Bool.not_false, line, mI_int, mI_bool, mI_str, mI_tuple, mI_list, mB_int, mB_bool, mB_str, mB_tuple, mB_list, mS_int, mS_bool, mS_str, mS_tuple, mS_list, mT_int, mT_bool, mT_str, mT_tuple, mT_list, mN_int, mN_bool, mN_str, mN_tuple, mN_list, anyT, anyF, Nat.zero_add, Nat.reduceAdd, Nat.reduceLeDiff, true_and]
    refine number_ok (by omega) ?_
    exact ⟨S, Sto.le_refl, hQ⟩
  | node j =>
    have hj := h j rfl
    have e : decide ((j : Int) < (m : Int)) = true := by simp; omega
    have e2 : decide (("node" : Str) = ("tell" : Str)) = false := by decide
    simp only [b_is_side, sD, wSs, wS, wT, wE, wEs, wO, wC, wI, wG, wGs, startD, List.map_cons, List.map_nil, List.length_cons, List.length_nil, List.replicate, List.cons_append, List.nil_append, List.append_nil, List.set_cons_zero, List.set_cons_succ, List.getElem?_cons_zero, List.getElem?_cons_succ, itT, wipeD, opAddI, opSubI, opMulI, opDivI, opModI, opPowI, opAddT, cmEq, cmNe, cmLt, cmLe, cmGt, cmGe, cmIn, eqI, eqS, inS2, truB, ixT0, ixT1, ixT2, ixT3, ixT4, ixT6, slcT, lenT, absI, intI, tupleT, listT, listRl, decide_true, decide_false, if_true, if_false, Bool.false_eq_true, reduceIte, decide_eq_true_eq, Bool.not_true, Bool.not_false, line, mI_int, mI_bool, mI_str, mI_tuple, mI_list, mB_int, mB_bool, mB_str, mB_tuple, mB_list, mS_int, mS_bool, mS_str, mS_tuple, mS_list, mT_int, mT_bool, mT_str, mT_tuple, mT_list, mN_int, mN_bool, mN_str, mN_tuple, mN_list, anyT, anyF, Nat.zero_add, Nat.reduceAdd, Nat.reduceLeDiff, true_and]
    refine number_ok (by omega) ?_
    simp only [e, e2, opAddI, opSubI, opMulI, opDivI, opModI, opPowI, opAddT, cmEq, cmNe, cmLt, cmLe, cmGt, cmGe, cmIn, eqI, eqS, inS2, truB, ixT0, ixT1, ixT2, ixT3, ixT4, ixT6, slcT, lenT, absI, intI, tupleT, listT, listRl, decide_true, decide_false, if_true, if_false, Bool.false_eq_true, reduceIte, decide_eq_true_eq, Bool.not_true, Bool.not_false, line, mI_int, mI_bool, mI_str, mI_tuple, mI_list, mB_int, mB_bool, mB_str, mB_tuple, mB_list, mS_int, mS_bool, mS_str, mS_tuple, mS_list, mT_int, mT_bool, mT_str, mT_tuple, mT_list, mN_int, mN_bool, mN_str, mN_tuple, mN_list, anyT, anyF, Nat.zero_add, Nat.reduceAdd, Nat.reduceLeDiff, true_and]
    exact ⟨S, Sto.le_refl, hQ⟩
theorem node_ok {a b : Sd} {m : Nat} (hk : 2 < k) (ha : ∀ j, a = .node j → j < m) (hb : ∀ j, b = .node j → j < m) (hQ : Q (.bl true) S) : Γ k "is_node" [.tup [sD a, sD b], .int (m : Int)] S Q X := by
  cases k with
  | zero => omega
  | succ k =>
  refine gam (np := 2) (nn := 3) (b := b_is_node) rfl rfl ?_
  simp only [b_is_node, wSs, wS, wT, wE, wEs, wO, wC, wI, wG, wGs, startD, List.map_cons, List.map_nil, List.length_cons, List.length_nil, List.replicate, List.cons_append, List.nil_append, List.append_nil, List.set_cons_zero, List.set_cons_succ, List.getElem?_cons_zero, List.getElem?_cons_succ, itT, wipeD, opAddI, opSubI, opMulI, opDivI, opModI, opPowI, opAddT, cmEq, cmNe, cmLt, cmLe, cmGt, cmGe, cmIn, eqI, eqS, inS2, truB, ixT0, ixT1, ixT2, ixT3, ixT4, ixT6, slcT, lenT, absI, intI, tupleT, listT, listRl, decide_true, decide_false, if_true, if_false, Bool.false_eq_true, reduceIte, decide_eq_true_eq, Bool.not_true, Bool.not_false, line, mI_int, mI_bool, mI_str, mI_tuple, mI_list, mB_int, mB_bool, mB_str, mB_tuple, mB_list, mS_int, mS_bool, mS_str, mS_tuple, mS_list, mT_int, mT_bool, mT_str, mT_tuple, mT_list, mN_int, mN_bool, mN_str, mN_tuple, mN_list, anyT, anyF, Nat.zero_add, Nat.reduceAdd, Nat.reduceLeDiff, true_and]
  refine cmpL_pure (fun _ => some (.bl true)) trivial (fun d hd P hP => ?_) ?_
  · simp only [e_is_node_1, wSs, wS, wT, wE, wEs, wO, wC, wI, wG, wGs, startD, List.map_cons, List.map_nil, List.length_cons, List.length_nil, List.replicate, List.cons_append, List.nil_append, List.append_nil, List.set_cons_zero, List.set_cons_succ, List.getElem?_cons_zero, List.getElem?_cons_succ, itT, wipeD, opAddI, opSubI, opMulI, opDivI, opModI, opPowI, opAddT, cmEq, cmNe, cmLt, cmLe, cmGt, cmGe, cmIn, eqI, eqS, inS2, truB, ixT0, ixT1, ixT2, ixT3, ixT4, ixT6, slcT, lenT, absI, intI, tupleT, listT, listRl, decide_true, decide_false, if_true, if_false, Bool.false_eq_true, reduceIte, decide_eq_true_eq, Bool.not_true, Bool.not_false, line, mI_int, mI_bool, mI_str, mI_tuple, mI_list, mB_int, mB_bool, mB_str, mB_tuple, mB_list, mS_int, mS_bool, mS_str, mS_tuple, mS_list, mT_int, mT_bool, mT_str, mT_tuple, mT_list, mN_int, mN_bool, mN_str, mN_tuple, mN_list, anyT, anyF, Nat.zero_add, Nat.reduceAdd, Nat.reduceLeDiff, true_and]
    have hd : d = sD a ∨ d = sD b := by simpa using hd
    rcases hd with rfl | rfl
    · exact side_ok (by omega) ha hP
    · exact side_ok (by omega) hb hP
  · exact ⟨S, Sto.le_refl, hQ⟩
theorem tree_ok (ok : TrOk T) (hk : 3 < k) (hQ : Q (.bl true) S) : Γ k "is_tree" [tD T] S Q X := by
  cases k with
  | zero => omega
  | succ k =>
  refine gam (np := 1) (nn := 2) (b := b_is_tree) rfl rfl ?_
  have l0 := ok.l0
  have l5 := ok.l5
  have e0 : decide ((T.length : Int) = 0) = false := by simp; intro z; rw [z] at l0; exact absurd l0 (by simp)
  simp only [b_is_tree, tD, wSs, wS, wT, wE, wEs, wO, wC, wI, wG, wGs, startD, List.map_cons, List.map_nil, List.length_cons, List.length_nil, List.replicate, List.cons_append, List.nil_append, List.append_nil, List.set_cons_zero, List.set_cons_succ, List.getElem?_cons_zero, List.getElem?_cons_succ, itT, wipeD, opAddI, opSubI, opMulI, opDivI, opModI, opPowI, opAddT, cmEq, cmNe, cmLt, cmLe, cmGt, cmGe, cmIn, eqI, eqS, inS2, truB, ixT0, ixT1, ixT2, ixT3, ixT4, ixT6, slcT, lenT, absI, intI, tupleT, listT, listRl, decide_true, decide_false, if_true, if_false, Bool.false_eq_true, reduceIte, decide_eq_true_eq, Bool.not_true, Bool.not_false, line, mI_int, mI_bool, mI_str, mI_tuple, mI_list, mB_int, mB_bool, mB_str, mB_tuple, mB_list, mS_int, mS_bool, mS_str, mS_tuple, mS_list, mT_int, mT_bool, mT_str, mT_tuple, mT_list, mN_int, mN_bool, mN_str, mN_tuple, mN_list, anyT, anyF, Nat.zero_add, Nat.reduceAdd, Nat.reduceLeDiff, true_and, List.length_map, e0]
  refine ⟨by omega, ?_⟩
  refine cmpL_pure (fun _ => some (.bl true)) trivial (fun d hd P hP => ?_) ?_
  · obtain ⟨x, hx, rfl⟩ := List.mem_map.mp hd
    obtain ⟨i, hi, e⟩ := List.getElem_of_mem hx
    have hs : sides T i = [x.1, x.2] := by unfold sides; rw [List.getElem?_eq_getElem hi, e]
    simp only [e_is_tree_1, wSs, wS, wT, wE, wEs, wO, wC, wI, wG, wGs, startD, List.map_cons, List.map_nil, List.length_cons, List.length_nil, List.replicate, List.cons_append, List.nil_append, List.append_nil, List.set_cons_zero, List.set_cons_succ, List.getElem?_cons_zero, List.getElem?_cons_succ, itT, wipeD, opAddI, opSubI, opMulI, opDivI, opModI, opPowI, opAddT, cmEq, cmNe, cmLt, cmLe, cmGt, cmGe, cmIn, eqI, eqS, inS2, truB, ixT0, ixT1, ixT2, ixT3, ixT4, ixT6, slcT, lenT, absI, intI, tupleT, listT, listRl, decide_true, decide_false, if_true, if_false, Bool.false_eq_true, reduceIte, decide_eq_true_eq, Bool.not_true, Bool.not_false, line, mI_int, mI_bool, mI_str, mI_tuple, mI_list, mB_int, mB_bool, mB_str, mB_tuple, mB_list, mS_int, mS_bool, mS_str, mS_tuple, mS_list, mT_int, mT_bool, mT_str, mT_tuple, mT_list, mN_int, mN_bool, mN_str, mN_tuple, mN_list, anyT, anyF, Nat.zero_add, Nat.reduceAdd, Nat.reduceLeDiff, true_and, List.length_map]
    exact node_ok (by omega) (fun j e => ok.nd i j (by rw [hs, e]; simp)) (fun j e => ok.nd i j (by rw [hs, e]; simp)) hP
  · have e : ∀ (L : List D), asBls (L.filterMap fun _ => some (D.bl true)) = some (List.replicate L.length true) := by
      intro L
      induction L with
      | nil => rfl
      | cons x L ih => rw [List.filterMap_cons]; simp only [asBls, ih]; rfl
    simp only [bllR, e]
    have e2 : (List.replicate (T.map fun x => D.tup [sD x.1, sD x.2]).length true).all id = true := by simp
    rw [e2]
    exact ⟨S, Sto.le_refl, hQ⟩
def wkP (T : Tr) (i u : Nat) : List Nat → D
  | [] => .tup [.str "coins"]
  | c :: cs => match (sides T i)[c]? with
    | some (.tell n) => .tup [.str "told", .int (n : Int), .int ((u : Int) + 1)]
    | some (.node j) => wkP T j (u + 1) cs
    | none => .non
theorem sides_ix {i c : Nat} (ok : TrOk T) (hi : i < T.length) (hc : c < 2) : ∃ d, (sides T i)[c]? = some d ∧ d ∈ sides T i := by
  obtain ⟨a, b, h⟩ := sides_two hi
  rw [h]
  have : c = 0 ∨ c = 1 := by omega
  rcases this with rfl | rfl
  · exact ⟨a, rfl, by simp⟩
  · exact ⟨b, rfl, by simp⟩
theorem walk_ok {cs : List Nat} (ok : TrOk T) (hk : 0 < k) (hc : ∀ c ∈ cs, c < 2) (hQ : Q (wkP T 0 0 cs) S) : Γ k "walk_tree" [tD T, .tup (nD cs)] S Q X := by
  cases k with
  | zero => omega
  | succ k =>
  refine gam (np := 2) (nn := 7) (b := b_walk_tree) rfl rfl ?_
  simp only [b_walk_tree, wSs, wS, wT, wE, wEs, wO, wC, wI, wG, wGs, startD, List.map_cons, List.map_nil, List.length_cons, List.length_nil, List.replicate, List.cons_append, List.nil_append, List.append_nil, List.set_cons_zero, List.set_cons_succ, List.getElem?_cons_zero, List.getElem?_cons_succ, itT, wipeD, opAddI, opSubI, opMulI, opDivI, opModI, opPowI, opAddT, cmEq, cmNe, cmLt, cmLe, cmGt, cmGe, cmIn, eqI, eqS, inS2, truB, ixT0, ixT1, ixT2, ixT3, ixT4, ixT6, slcT, lenT, absI, intI, tupleT, listT, listRl, decide_true, decide_false, if_true, if_false, Bool.false_eq_true, reduceIte, decide_eq_true_eq, Bool.not_true, Bool.not_false, line, mI_int, mI_bool, mI_str, mI_tuple, mI_list, mB_int, mB_bool, mB_str, mB_tuple, mB_list, mS_int, mS_bool, mS_str, mS_tuple, mS_list, mT_int, mT_bool, mT_str, mT_tuple, mT_list, mN_int, mN_bool, mN_str, mN_tuple, mN_list, anyT, anyF, Nat.zero_add, Nat.reduceAdd, Nat.reduceLeDiff, true_and]
  refine forL_inv (enumD (nD cs)) (fun i σ S' => ∃ at' x3 x4 x5 x6, σ = [some (tD T), some (.tup (nD cs)), some (.int (at' : Nat)), x3, x4, x5, x6] ∧ S' = S ∧ at' < T.length ∧ wkP T at' i (cs.drop i) = wkP T 0 0 cs) (fun _ _ _ _ => trivial) ?_ ?_ ⟨0, _, _, _, _, rfl, rfl, ok.l0, rfl⟩
  · rintro i d σ S' NX hd ⟨at', x3, x4, x5, x6, rfl, rfl, hat, hw⟩ hN
    obtain ⟨hi, rfl⟩ := enumD_get hd
    have hi' : i < cs.length := by simpa [nD] using hi
    have e1 : (nD cs)[i] = .int (cs[i] : Int) := by simp [nD]
    obtain ⟨d, hd, hm⟩ := sides_ix ok hat (hc _ (List.getElem_mem hi'))
    rw [e1]
    simp only [s_walk_tree_1, wSs, wS, wT, wE, wEs, wO, wC, wI, wG, wGs, startD, List.map_cons, List.map_nil, List.length_cons, List.length_nil, List.replicate, List.cons_append, List.nil_append, List.append_nil, List.set_cons_zero, List.set_cons_succ, List.getElem?_cons_zero, List.getElem?_cons_succ, itT, wipeD, opAddI, opSubI, opMulI, opDivI, opModI, opPowI, opAddT, cmEq, cmNe, cmLt, cmLe, cmGt, cmGe, cmIn, eqI, eqS, inS2, truB, ixT0, ixT1, ixT2, ixT3, ixT4, ixT6, slcT, lenT, absI, intI, tupleT, listT, listRl, decide_true, decide_false, if_true, if_false, Bool.false_eq_true, reduceIte, decide_eq_true_eq, Bool.not_true, Bool.not_false, line, mI_int, mI_bool, mI_str, mI_tuple, mI_list, mB_int, mB_bool, mB_str, mB_tuple, mB_list, mS_int, mS_bool, mS_str, mS_tuple, mS_list, mT_int, mT_bool, mT_str, mT_tuple, mT_list, mN_int, mN_bool, mN_str, mN_tuple, mN_list, anyT, anyF, Nat.zero_add, Nat.reduceAdd, Nat.reduceLeDiff, true_and, ix_tree hat]
    have e2 : ((sides T at').map sD)[cs[i]]? = some (sD d) := by rw [List.getElem?_map, hd]; rfl
    rw [ixT (atIk cs[i] rfl e2)]
    rw [List.drop_eq_getElem_cons hi', wkP, hd] at hw
    cases d with
    | tell n =>
      simp only [sD, wSs, wS, wT, wE, wEs, wO, wC, wI, wG, wGs, startD, List.map_cons, List.map_nil, List.length_cons, List.length_nil, List.replicate, List.cons_append, List.nil_append, List.append_nil, List.set_cons_zero, List.set_cons_succ, List.getElem?_cons_zero, List.getElem?_cons_succ, itT, wipeD, opAddI, opSubI, opMulI, opDivI, opModI, opPowI, opAddT, cmEq, cmNe, cmLt, cmLe, cmGt, cmGe, cmIn, eqI, eqS, inS2, truB, ixT0, ixT1, ixT2, ixT3, ixT4, ixT6, slcT, lenT, absI, intI, tupleT, listT, listRl, decide_true, decide_false, if_true, if_false, Bool.false_eq_true, reduceIte, decide_eq_true_eq, Bool.not_true, Bool.not_false, line, mI_int, mI_bool, mI_str, mI_tuple, mI_list, mB_int, mB_bool, mB_str, mB_tuple, mB_list, mS_int, mS_bool, mS_str, mS_tuple, mS_list, mT_int, mT_bool, mT_str, mT_tuple, mT_list, mN_int, mN_bool, mN_str, mN_tuple, mN_list, anyT, anyF, Nat.zero_add, Nat.reduceAdd, Nat.reduceLeDiff, true_and]
      exact ⟨_, Sto.le_refl, by rw [← hw] at hQ; exact hQ⟩
    | node j =>
      have e3 : decide (("node" : Str) = ("tell" : Str)) = false := by decide
      simp only [sD, wSs, wS, wT, wE, wEs, wO, wC, wI, wG, wGs, startD, List.map_cons, List.map_nil, List.length_cons, List.length_nil, List.replicate, List.cons_append, List.nil_append, List.append_nil, List.set_cons_zero, List.set_cons_succ, List.getElem?_cons_zero, List.getElem?_cons_succ, itT, wipeD, opAddI, opSubI, opMulI, opDivI, opModI, opPowI, opAddT, cmEq, cmNe, cmLt, cmLe, cmGt, cmGe, cmIn, eqI, eqS, inS2, truB, ixT0, ixT1, ixT2, ixT3, ixT4, ixT6, slcT, lenT, absI, intI, tupleT, listT, listRl, decide_true, decide_false, if_true, if_false, Bool.false_eq_true, reduceIte, decide_eq_true_eq, Bool.not_true, Bool.not_false, line, mI_int, mI_bool, mI_str, mI_tuple, mI_list, mB_int, mB_bool, mB_str, mB_tuple, mB_list, mS_int, mS_bool, mS_str, mS_tuple, mS_list, mT_int, mT_bool, mT_str, mT_tuple, mT_list, mN_int, mN_bool, mN_str, mN_tuple, mN_list, anyT, anyF, Nat.zero_add, Nat.reduceAdd, Nat.reduceLeDiff, true_and, e3]
      exact hN _ _ ⟨j, _, _, _, _, rfl, rfl, ok.nd _ j hm, hw⟩
  · rintro σ S' ⟨at', x3, x4, x5, x6, rfl, rfl, hat, hw⟩
    rw [enumD_len, show (nD cs).length = cs.length from by simp [nD], List.drop_length, wkP] at hw
    simp only [wSs, wS, wT, wE, wEs, wO, wC, wI, wG, wGs, startD, List.map_cons, List.map_nil, List.length_cons, List.length_nil, List.replicate, List.cons_append, List.nil_append, List.append_nil, List.set_cons_zero, List.set_cons_succ, List.getElem?_cons_zero, List.getElem?_cons_succ, itT, wipeD, opAddI, opSubI, opMulI, opDivI, opModI, opPowI, opAddT, cmEq, cmNe, cmLt, cmLe, cmGt, cmGe, cmIn, eqI, eqS, inS2, truB, ixT0, ixT1, ixT2, ixT3, ixT4, ixT6, slcT, lenT, absI, intI, tupleT, listT, listRl, decide_true, decide_false, if_true, if_false, Bool.false_eq_true, reduceIte, decide_eq_true_eq, Bool.not_true, Bool.not_false, line, mI_int, mI_bool, mI_str, mI_tuple, mI_list, mB_int, mB_bool, mB_str, mB_tuple, mB_list, mS_int, mS_bool, mS_str, mS_tuple, mS_list, mT_int, mT_bool, mT_str, mT_tuple, mT_list, mN_int, mN_bool, mN_str, mN_tuple, mN_list, anyT, anyF, Nat.zero_add, Nat.reduceAdd, Nat.reduceLeDiff, true_and]
    exact ⟨_, Sto.le_refl, by rw [← hw] at hQ; exact hQ⟩
theorem lwalk_ok {cs : List Nat} (ok : TrOk T) (hk : 0 < k) (hl : cs.length ≤ 10) (hc : ∀ c ∈ cs, c < 2) (hQ : Q (wkP T 0 0 cs) S) : Γ k "_law_walk" [tD T, .tup (nD cs)] S Q X := by
  cases k with
  | zero => omega
  | succ k =>
  refine gam (np := 2) (nn := 5) (b := b__law_walk) rfl rfl ?_
  have hl2 : (nD cs).length = cs.length := by simp [nD]
  simp only [b__law_walk, wSs, wS, wT, wE, wEs, wO, wC, wI, wG, wGs, startD, List.map_cons, List.map_nil, List.length_cons, List.length_nil, List.replicate, List.cons_append, List.nil_append, List.append_nil, List.set_cons_zero, List.set_cons_succ, List.getElem?_cons_zero, List.getElem?_cons_succ, itT, wipeD, opAddI, opSubI, opMulI, opDivI, opModI, opPowI, opAddT, cmEq, cmNe, cmLt, cmLe, cmGt, cmGe, cmIn, eqI, eqS, inS2, truB, ixT0, ixT1, ixT2, ixT3, ixT4, ixT6, slcT, lenT, absI, intI, tupleT, listT, listRl, decide_true, decide_false, if_true, if_false, Bool.false_eq_true, reduceIte, decide_eq_true_eq, Bool.not_true, Bool.not_false, line, mI_int, mI_bool, mI_str, mI_tuple, mI_list, mB_int, mB_bool, mB_str, mB_tuple, mB_list, mS_int, mS_bool, mS_str, mS_tuple, mS_list, mT_int, mT_bool, mT_str, mT_tuple, mT_list, mN_int, mN_bool, mN_str, mN_tuple, mN_list, anyT, anyF, Nat.zero_add, Nat.reduceAdd, Nat.reduceLeDiff, true_and, hl2]
  refine ⟨by unfold inB; omega, ?_⟩
  rw [Int.toNat_natCast]
  refine forL_inv (rngD 0 cs.length) (fun i σ S' => ∃ at' x3 x4, σ = [some (tD T), some (.tup (nD cs)), some (.int (at' : Nat)), x3, x4] ∧ S' = S ∧ at' < T.length ∧ wkP T at' i (cs.drop i) = wkP T 0 0 cs) (fun _ _ _ _ => trivial) ?_ ?_ ⟨0, _, _, rfl, rfl, ok.l0, rfl⟩
  · rintro i d σ S' NX hd ⟨at', x3, x4, rfl, rfl, hat, hw⟩ hN
    have hi' : i < cs.length := by
      have := (List.getElem?_eq_some_iff.mp hd).1
      simpa [rngD] using this
    have e0 : d = .int (i : Int) := by
      unfold rngD at hd
      rw [List.getElem?_map, List.getElem?_range hi'] at hd
      simpa using hd.symm
    subst e0
    have e1 : (nD cs)[i]? = some (.int (cs[i] : Int)) := by simp [nD, hi']
    obtain ⟨d, hd, hm⟩ := sides_ix ok hat (hc _ (List.getElem_mem hi'))
    simp only [s__law_walk_1, wSs, wS, wT, wE, wEs, wO, wC, wI, wG, wGs, startD, List.map_cons, List.map_nil, List.length_cons, List.length_nil, List.replicate, List.cons_append, List.nil_append, List.append_nil, List.set_cons_zero, List.set_cons_succ, List.getElem?_cons_zero, List.getElem?_cons_succ, itT, wipeD, opAddI, opSubI, opMulI, opDivI, opModI, opPowI, opAddT, cmEq, cmNe, cmLt, cmLe, cmGt, cmGe, cmIn, eqI, eqS, inS2, truB, ixT0, ixT1, ixT2, ixT3, ixT4, ixT6, slcT, lenT, absI, intI, tupleT, listT, listRl, decide_true, decide_false, if_true, if_false, Bool.false_eq_true, reduceIte, decide_eq_true_eq, Bool.not_true, Bool.not_false, line, mI_int, mI_bool, mI_str, mI_tuple, mI_list, mB_int, mB_bool, mB_str, mB_tuple, mB_list, mS_int, mS_bool, mS_str, mS_tuple, mS_list, mT_int, mT_bool, mT_str, mT_tuple, mT_list, mN_int, mN_bool, mN_str, mN_tuple, mN_list, anyT, anyF, Nat.zero_add, Nat.reduceAdd, Nat.reduceLeDiff, true_and, ix_tree hat]
    rw [ixT (atIk i rfl e1)]
    have e2 : ((sides T at').map sD)[cs[i]]? = some (sD d) := by rw [List.getElem?_map, hd]; rfl
    rw [ixT (atIk cs[i] rfl e2)]
    rw [List.drop_eq_getElem_cons hi', wkP, hd] at hw
    cases d with
    | tell n =>
      simp only [sD, wSs, wS, wT, wE, wEs, wO, wC, wI, wG, wGs, startD, List.map_cons, List.map_nil, List.length_cons, List.length_nil, List.replicate, List.cons_append, List.nil_append, List.append_nil, List.set_cons_zero, List.set_cons_succ, List.getElem?_cons_zero, List.getElem?_cons_succ, itT, wipeD, opAddI, opSubI, opMulI, opDivI, opModI, opPowI, opAddT, cmEq, cmNe, cmLt, cmLe, cmGt, cmGe, cmIn, eqI, eqS, inS2, truB, ixT0, ixT1, ixT2, ixT3, ixT4, ixT6, slcT, lenT, absI, intI, tupleT, listT, listRl, decide_true, decide_false, if_true, if_false, Bool.false_eq_true, reduceIte, decide_eq_true_eq, Bool.not_true, Bool.not_false, line, mI_int, mI_bool, mI_str, mI_tuple, mI_list, mB_int, mB_bool, mB_str, mB_tuple, mB_list, mS_int, mS_bool, mS_str, mS_tuple, mS_list, mT_int, mT_bool, mT_str, mT_tuple, mT_list, mN_int, mN_bool, mN_str, mN_tuple, mN_list, anyT, anyF, Nat.zero_add, Nat.reduceAdd, Nat.reduceLeDiff, true_and]
      exact ⟨_, Sto.le_refl, by rw [← hw] at hQ; exact hQ⟩
    | node j =>
      have e3 : decide (("node" : Str) = ("tell" : Str)) = false := by decide
      simp only [sD, wSs, wS, wT, wE, wEs, wO, wC, wI, wG, wGs, startD, List.map_cons, List.map_nil, List.length_cons, List.length_nil, List.replicate, List.cons_append, List.nil_append, List.append_nil, List.set_cons_zero, List.set_cons_succ, List.getElem?_cons_zero, List.getElem?_cons_succ, itT, wipeD, opAddI, opSubI, opMulI, opDivI, opModI, opPowI, opAddT, cmEq, cmNe, cmLt, cmLe, cmGt, cmGe, cmIn, eqI, eqS, inS2, truB, ixT0, ixT1, ixT2, ixT3, ixT4, ixT6, slcT, lenT, absI, intI, tupleT, listT, listRl, decide_true, decide_false, if_true, if_false, Bool.false_eq_true, reduceIte, decide_eq_true_eq, Bool.not_true, Bool.not_false, line, mI_int, mI_bool, mI_str, mI_tuple, mI_list, mB_int, mB_bool, mB_str, mB_tuple, mB_list, mS_int, mS_bool, mS_str, mS_tuple, mS_list, mT_int, mT_bool, mT_str, mT_tuple, mT_list, mN_int, mN_bool, mN_str, mN_tuple, mN_list, anyT, anyF, Nat.zero_add, Nat.reduceAdd, Nat.reduceLeDiff, true_and, e3]
      exact hN _ _ ⟨j, _, _, rfl, rfl, ok.nd _ j hm, hw⟩
  · rintro σ S' ⟨at', x3, x4, rfl, rfl, hat, hw⟩
    rw [show (rngD 0 cs.length).length = cs.length from by simp [rngD], List.drop_length, wkP] at hw
    simp only [wSs, wS, wT, wE, wEs, wO, wC, wI, wG, wGs, startD, List.map_cons, List.map_nil, List.length_cons, List.length_nil, List.replicate, List.cons_append, List.nil_append, List.append_nil, List.set_cons_zero, List.set_cons_succ, List.getElem?_cons_zero, List.getElem?_cons_succ, itT, wipeD, opAddI, opSubI, opMulI, opDivI, opModI, opPowI, opAddT, cmEq, cmNe, cmLt, cmLe, cmGt, cmGe, cmIn, eqI, eqS, inS2, truB, ixT0, ixT1, ixT2, ixT3, ixT4, ixT6, slcT, lenT, absI, intI, tupleT, listT, listRl, decide_true, decide_false, if_true, if_false, Bool.false_eq_true, reduceIte, decide_eq_true_eq, Bool.not_true, Bool.not_false, line, mI_int, mI_bool, mI_str, mI_tuple, mI_list, mB_int, mB_bool, mB_str, mB_tuple, mB_list, mS_int, mS_bool, mS_str, mS_tuple, mS_list, mT_int, mT_bool, mT_str, mT_tuple, mT_list, mN_int, mN_bool, mN_str, mN_tuple, mN_list, anyT, anyF, Nat.zero_add, Nat.reduceAdd, Nat.reduceLeDiff, true_and]
    exact ⟨_, Sto.le_refl, by rw [← hw] at hQ; exact hQ⟩
end K49
namespace K49
open PySem PySem.Spec PyProof.Rows L2 Mi
variable {k : Nat} {S : Sto} {Q : KD} {X : KX} {pp : Addr} {T : Tr} {s : Nat}
theorem cmpL_inv {tg : Tg} {e : En → Sto → KD → Prop} {chk : Sto → Prop} {σ : En} {S : Sto} {Q : List D → Sto → Prop} (l : List D) (I : Nat → List D → Sto → Prop) (hchk : ∀ i acc S, I i acc S → chk S)
    (step : ∀ i d acc S (P : KD), l[i]? = some d → I i acc S → (∀ v S', I (i + 1) (acc ++ [v]) S' → P v S') → wG tg d σ fun σ' => e σ' S P)
    (fin : ∀ ds S', I l.length ds S' → Q ds S') (h0 : I 0 [] S) : cmpL tg (fun _ S' Q' => Q' true S') e chk l σ S Q := by
  have key : ∀ (r : List D) (i : Nat) (acc : List D) (S : Sto), l.drop i = r → i ≤ l.length → I i acc S → cmpL tg (fun _ S' Q' => Q' true S') e chk r σ S fun vs S' => Q (acc ++ vs) S' := by
    intro r
    induction r with
    | nil =>
      intro i acc S hd hi h
      have ei : i = l.length := by
        have := congrArg List.length hd
        rw [List.length_drop, List.length_nil] at this
        omega
      subst ei
      refine ⟨hchk _ _ _ h, ?_⟩
      show Q (acc ++ []) S
      rw [List.append_nil]
      exact fin _ _ h
    | cons d r ih =>
      intro i acc S hd hi h
      have hl : i < l.length := by
        have := congrArg List.length hd
        rw [List.length_drop, List.length_cons] at this
        omega
      have hdr := List.drop_eq_getElem_cons hl
      rw [hd] at hdr
      injection hdr with e1 e2
      refine ⟨hchk _ _ _ h, ?_⟩
      have := step i d acc S (fun v S2 => cmpL tg (fun _ S' Q' => Q' true S') e chk r σ S2 fun vs S3 => Q (acc ++ (v :: vs)) S3) (by rw [List.getElem?_eq_getElem hl, e1]) h fun v S' h' => by
        have := ih (i + 1) (acc ++ [v]) S' e2.symm hl h'
        simpa only [List.append_assoc, List.singleton_append] using this
      simpa only [if_true] using this
  exact key l 0 [] S rfl (Nat.zero_le _) h0
theorem slcL {a : Addr} {l : List D} {lo hi : Option Int} (h : S a = some (.lst l)) : slcR (.ref a) lo hi S Q = ∀ q, S q = none → Q (.ref q) (S.upd q (.lst (Mi.cutD l lo hi))) := by simp only [slcR, h]
theorem side_new {a : Addr} {z m : Nat} {e : Bool} (hk : 1 < k) (h0 : 0 < m) (h5 : m ≤ 5) (hz : z < 2 ^ 50) (st : Stt S a pp z)
    (hQ : ∀ (d : Sd) (S' : Sto), (∀ j, d = .node j → j < m) → (∀ n, d = .tell n → n < 4) → S.off a S' → Stt S' a pp (z + 2) → Q (sD d) S') : Γ k "_law_side" [.ref a, .int (m : Int), .bl e] S Q X := by
  cases k with
  | zero => omega
  | succ k =>
  refine gam (np := 3) (nn := 3) (b := b__law_side) rfl rfl ?_
  simp only [b__law_side, wSs, wS, wT, wE, wEs, wO, wC, wI, wG, wGs, startD, List.map_cons, List.map_nil, List.length_cons, List.length_nil, List.replicate, List.cons_append, List.nil_append, List.append_nil, List.set_cons_zero, List.set_cons_succ, List.getElem?_cons_zero, List.getElem?_cons_succ, itT, wipeD, opAddI, opSubI, opMulI, opDivI, opModI, opPowI, opAddT, cmEq, cmNe, cmLt, cmLe, cmGt, cmGe, cmIn, eqI, eqS, inS2, truB, ixT0, ixT1, ixT2, ixT3, ixT4, ixT6, slcT, lenT, absI, intI, tupleT, listT, listRl, decide_true, decide_false, if_true, if_false, Bool.false_eq_true, reduceIte, decide_eq_true_eq, Bool.not_true, Bool.not_false, line, mI_int, mI_bool, mI_str, mI_tuple, mI_list, mB_int, mB_bool, mB_str, mB_tuple, mB_list, mS_int, mS_bool, mS_str, mS_tuple, mS_list, mT_int, mT_bool, mT_str, mT_tuple, mT_list, mN_int, mN_bool, mN_str, mN_tuple, mN_list, anyT, anyF, Nat.zero_add, Nat.reduceAdd, Nat.reduceLeDiff, true_and]
  refine draw_ok (by omega) (by decide) (by decide) (by omega) st fun r S1 r0 r1 o1 st1 => ?_
  have tell : Γ k "_law_draw" [.ref a, .int 4] S1 (fun d S' => ∃ S0, S0.le S' ∧ Q (.tup [.str "tell", d]) S0) (fun x S' => ∃ S0, S0.le S' ∧ X x S0) :=
    draw_ok (by omega) (by decide) (by decide) (by omega) st1 fun r' S2 q0 q1 o2 st2 => ⟨S2, Sto.le_refl, by
      have := hQ (.tell r'.toNat) S2 (fun j e => nomatch e) (fun n e => by cases e; omega) (o1.trans o2) st2
      have e : sD (.tell r'.toNat) = .tup [.str "tell", .int r'] := by
        show D.tup [_, .int ((r'.toNat : Nat) : Int)] = _
        rw [show ((r'.toNat : Nat) : Int) = r' from by omega]
      rwa [e] at this⟩
  have node : Γ k "_law_draw" [.ref a, .int (m : Int)] S1 (fun d S' => ∃ S0, S0.le S' ∧ Q (.tup [.str "node", d]) S0) (fun x S' => ∃ S0, S0.le S' ∧ X x S0) :=
    draw_ok (by omega) (by omega) (by omega) (by omega) st1 fun r' S2 q0 q1 o2 st2 => ⟨S2, Sto.le_refl, by
      have := hQ (.node r'.toNat) S2 (fun j e => by cases e; omega) (fun n e => nomatch e) (o1.trans o2) st2
      have e : sD (.node r'.toNat) = .tup [.str "node", .int r'] := by
        show D.tup [_, .int ((r'.toNat : Nat) : Int)] = _
        rw [show ((r'.toNat : Nat) : Int) = r' from by omega]
      rwa [e] at this⟩
  simp only [opAddI, opSubI, opMulI, opDivI, opModI, opPowI, opAddT, cmEq, cmNe, cmLt, cmLe, cmGt, cmGe, cmIn, eqI, eqS, inS2, truB, ixT0, ixT1, ixT2, ixT3, ixT4, ixT6, slcT, lenT, absI, intI, tupleT, listT, listRl, decide_true, decide_false, if_true, if_false, Bool.false_eq_true, reduceIte, decide_eq_true_eq, Bool.not_true, Bool.not_false, line, mI_int, mI_bool, mI_str, mI_tuple, mI_list, mB_int, mB_bool, mB_str, mB_tuple, mB_list, mS_int, mS_bool, mS_str, mS_tuple, mS_list, mT_int, mT_bool, mT_str, mT_tuple, mT_list, mN_int, mN_bool, mN_str, mN_tuple, mN_list, anyT, anyF, Nat.zero_add, Nat.reduceAdd, Nat.reduceLeDiff, true_and]
  by_cases h : r = 0
  · rw [if_pos h]
    exact tell
  · rw [if_neg h]
    cases e with
    | true => exact tell
    | false => exact node
theorem tree_new {a : Addr} {z : Nat} (hk : 2 < k) (hz : z < 2 ^ 40) (st : Stt S a pp z) (hQ : ∀ (T : Tr) (S' : Sto), TrOk T → S.off a S' → Stt S' a pp (z + 30) → Q (tD T) S') : Γ k "_law_tree" [.ref a] S Q X := by
  cases k with
  | zero => omega
  | succ k =>
  refine gam (np := 1) (nn := 4) (b := b__law_tree) rfl rfl ?_
  simp only [b__law_tree, wSs, wS, wT, wE, wEs, wO, wC, wI, wG, wGs, startD, List.map_cons, List.map_nil, List.length_cons, List.length_nil, List.replicate, List.cons_append, List.nil_append, List.append_nil, List.set_cons_zero, List.set_cons_succ, List.getElem?_cons_zero, List.getElem?_cons_succ, itT, wipeD, opAddI, opSubI, opMulI, opDivI, opModI, opPowI, opAddT, cmEq, cmNe, cmLt, cmLe, cmGt, cmGe, cmIn, eqI, eqS, inS2, truB, ixT0, ixT1, ixT2, ixT3, ixT4, ixT6, slcT, lenT, absI, intI, tupleT, listT, listRl, decide_true, decide_false, if_true, if_false, Bool.false_eq_true, reduceIte, decide_eq_true_eq, Bool.not_true, Bool.not_false, line, mI_int, mI_bool, mI_str, mI_tuple, mI_list, mB_int, mB_bool, mB_str, mB_tuple, mB_list, mS_int, mS_bool, mS_str, mS_tuple, mS_list, mT_int, mT_bool, mT_str, mT_tuple, mT_list, mN_int, mN_bool, mN_str, mN_tuple, mN_list, anyT, anyF, Nat.zero_add, Nat.reduceAdd, Nat.reduceLeDiff, true_and]
  refine draw_ok (by omega) (by decide) (by decide) (by omega) st fun r S1 r0 r1 o1 st1 => ?_
  simp only [wSs, wS, wT, wE, wEs, wO, wC, wI, wG, wGs, startD, List.map_cons, List.map_nil, List.length_cons, List.length_nil, List.replicate, List.cons_append, List.nil_append, List.append_nil, List.set_cons_zero, List.set_cons_succ, List.getElem?_cons_zero, List.getElem?_cons_succ, itT, wipeD, opAddI, opSubI, opMulI, opDivI, opModI, opPowI, opAddT, cmEq, cmNe, cmLt, cmLe, cmGt, cmGe, cmIn, eqI, eqS, inS2, truB, ixT0, ixT1, ixT2, ixT3, ixT4, ixT6, slcT, lenT, absI, intI, tupleT, listT, listRl, decide_true, decide_false, if_true, if_false, Bool.false_eq_true, reduceIte, decide_eq_true_eq, Bool.not_true, Bool.not_false, line, mI_int, mI_bool, mI_str, mI_tuple, mI_list, mB_int, mB_bool, mB_str, mB_tuple, mB_list, mS_int, mS_bool, mS_str, mS_tuple, mS_list, mT_int, mT_bool, mT_str, mT_tuple, mT_list, mN_int, mN_bool, mN_str, mN_tuple, mN_list, anyT, anyF, Nat.zero_add, Nat.reduceAdd, Nat.reduceLeDiff, true_and]
  refine draw_ok (by omega) (by decide) (by decide) (by omega) st1 fun r' S2 q0 q1 o2 st2 => ?_
  simp only [wSs, wS, wT, wE, wEs, wO, wC, wI, wG, wGs, startD, List.map_cons, List.map_nil, List.length_cons, List.length_nil, List.replicate, List.cons_append, List.nil_append, List.append_nil, List.set_cons_zero, List.set_cons_succ, List.getElem?_cons_zero, List.getElem?_cons_succ, itT, wipeD, opAddI, opSubI, opMulI, opDivI, opModI, opPowI, opAddT, cmEq, cmNe, cmLt, cmLe, cmGt, cmGe, cmIn, eqI, eqS, inS2, truB, ixT0, ixT1, ixT2, ixT3, ixT4, ixT6, slcT, lenT, absI, intI, tupleT, listT, listRl, decide_true, decide_false, if_true, if_false, Bool.false_eq_true, reduceIte, decide_eq_true_eq, Bool.not_true, Bool.not_false, line, mI_int, mI_bool, mI_str, mI_tuple, mI_list, mB_int, mB_bool, mB_str, mB_tuple, mB_list, mS_int, mS_bool, mS_str, mS_tuple, mS_list, mT_int, mT_bool, mT_str, mT_tuple, mT_list, mN_int, mN_bool, mN_str, mN_tuple, mN_list, anyT, anyF, Nat.zero_add, Nat.reduceAdd, Nat.reduceLeDiff, true_and]
  obtain ⟨m, rfl⟩ : ∃ m : Nat, r = (m : Int) := ⟨r.toNat, by omega⟩
  have e1 : (1 + (m : Int)) = ((m + 1 : Nat) : Int) := by omega
  rw [e1]
  have hl : (rngD 0 (((m + 1 : Nat) : Int)).toNat).length = m + 1 := by simp [rngD]
  refine ⟨by unfold inB; omega, by rw [hl]; omega, ?_⟩
  refine cmpL_inv _ (fun i acc S' => ∃ L : Tr, acc = L.map (fun x => D.tup [sD x.1, sD x.2]) ∧ L.length = i ∧ (∀ x ∈ L, ∀ d, d = x.1 ∨ d = x.2 → (∀ j, d = Sd.node j → j < m + 1) ∧ ∀ n, d = Sd.tell n → n < 4) ∧ S.off a S' ∧ Stt S' a pp (z + 2 + 4 * i)) (fun _ _ _ _ => trivial) ?_ ?_ ⟨[], rfl, rfl, by simp, o1.trans o2, st2⟩
  · rintro i d acc S3 P hd ⟨L, rfl, hL, hs, o3, st3⟩ hP
    have hi : i < m + 1 := by rw [← hl]; exact (List.getElem?_eq_some_iff.mp hd).1
    simp only [e__law_tree_1, wSs, wS, wT, wE, wEs, wO, wC, wI, wG, wGs, startD, List.map_cons, List.map_nil, List.length_cons, List.length_nil, List.replicate, List.cons_append, List.nil_append, List.append_nil, List.set_cons_zero, List.set_cons_succ, List.getElem?_cons_zero, List.getElem?_cons_succ, itT, wipeD, opAddI, opSubI, opMulI, opDivI, opModI, opPowI, opAddT, cmEq, cmNe, cmLt, cmLe, cmGt, cmGe, cmIn, eqI, eqS, inS2, truB, ixT0, ixT1, ixT2, ixT3, ixT4, ixT6, slcT, lenT, absI, intI, tupleT, listT, listRl, decide_true, decide_false, if_true, if_false, Bool.false_eq_true, reduceIte, decide_eq_true_eq, Bool.not_true, Bool.not_false, line, mI_int, mI_bool, mI_str, mI_tuple, mI_list, mB_int, mB_bool, mB_str, mB_tuple, mB_list, mS_int, mS_bool, mS_str, mS_tuple, mS_list, mT_int, mT_bool, mT_str, mT_tuple, mT_list, mN_int, mN_bool, mN_str, mN_tuple, mN_list, anyT, anyF, Nat.zero_add, Nat.reduceAdd, Nat.reduceLeDiff, true_and]
    refine side_new (m := m + 1) (by omega) (by omega) (by omega) (by omega) st3 fun d1 S4 a1 a2 o4 st4 => ?_
    refine side_new (m := m + 1) (by omega) (by omega) (by omega) (by omega) st4 fun d2 S5 b1 b2 o5 st5 => ?_
    refine hP _ _ ⟨L ++ [(d1, d2)], by simp, by simp [hL], fun x hx d hd => ?_, (o3.trans o4).trans o5, st5.more (by omega)⟩
    rcases List.mem_append.mp hx with hx | hx
    · exact hs x hx d hd
    · cases List.mem_singleton.mp hx
      rcases hd with rfl | rfl
      · exact ⟨a1, a2⟩
      · exact ⟨b1, b2⟩
  · rintro ds S3 ⟨L, rfl, hL, hs, o3, st3⟩
    rw [hl] at hL st3
    refine ⟨S3, Sto.le_refl, hQ L S3 ⟨by omega, by omega, fun i j hj => ?_, fun i n hn => ?_⟩ o3 (st3.more (by omega))⟩
    · unfold sides at hj
      split at hj
      · rename_i x y e
        rw [hL]
        exact (hs _ (List.mem_of_getElem? e) _ (by simpa using hj)).1 j rfl
      · cases hj
    · unfold sides at hn
      split at hn
      · rename_i x y e
        exact (hs _ (List.mem_of_getElem? e) _ (by simpa using hn)).2 n rfl
      · cases hn
end K49
namespace K49
open PySem PySem.Spec PyProof.Rows L2 Mi
variable {k : Nat} {S : Sto} {Q : KD} {X : KX} {pp : Addr} {T : Tr} {s : Nat}
theorem whlL_inv {T : En → Sto → (Bool → Sto → Prop) → Prop} {B : De → En → Sto → Prop} {N : De} (I : Nat → En → Sto → Prop)
    (step : ∀ n σ S (NX : En → Sto → Prop), I n σ S → (∀ m σ' S', n = m + 1 → I m σ' S' → NX σ' S') → T σ S fun c S' => if c = true then B { N with nx := NX, ct := NX, bk := N.nx } σ S' else N.nx σ S') :
    ∀ n σ S, I n σ S → whlL T B (n + 1) N σ S := by
  intro n
  induction n with
  | zero => intro σ S h; exact step 0 σ S _ h fun m _ _ e => absurd e (by omega)
  | succ n ih =>
    intro σ S h
    exact step (n + 1) σ S _ h fun m σ' S' e h' => by
      have : m = n := by omega
      subst this
      exact ih σ' S' h'
theorem inD_nD {j : Nat} : ∀ {fs : List Nat}, inD (.int (j : Int)) (nD fs) = decide (j ∈ fs)
  | [] => rfl
  | a :: l => by
    show (D.eqv (.int (a : Int)) (.int (j : Int)) || inD (.int (j : Int)) (nD l)) = _
    rw [inD_nD]
    by_cases e : j = a
    · subst e; simp [D.eqv]
    · have : ¬ ((a : Int) = (j : Int)) := by omega
      simp [D.eqv, e, this]
theorem nD_flat {fs : List Nat} : (nD fs).all flatD = true := by
  rw [List.all_eq_true]
  intro d hd
  obtain ⟨n, _, rfl⟩ := List.mem_map.mp hd
  rfl
theorem inN {p : Addr} {fs : List Nat} {j : Nat} {QB : Bool → Prop} (h : S p = some (.lst (nD fs))) : Mi.inR (.int (j : Int)) (.ref p) S QB = QB (decide (j ∈ fs)) := by
  simp only [Mi.inR, h, nD_flat, inD_nD, flatD, true_and]
theorem neNil {p q : Addr} {l : List D} {QB : Bool → Prop} (h : S p = some (.lst l)) (hp : D.pures l = true) (hq : S q = some (.lst [])) : cmR .ne (.ref p) (.ref q) S QB = QB (!l.isEmpty) := by
  have e : (D.eqv (.tup l) (.tup []) : Bool) = l.isEmpty := by
    rw [D.eqv]
    cases l <;> simp [D.eqvs]
  have e2 : min (D.dep (.tup l)) (D.dep (.tup [])) ≤ 60 := by
    have : D.dep (.tup []) = 1 := by rw [D.dep, D.deps]
    omega
  simp only [cmR, eqR, plainR, h, hp, hq, D.pures, if_true, e, e2, true_and]
  simp
theorem eqNil {p q : Addr} {l : List D} {QB : Bool → Prop} (h : S p = some (.lst l)) (hp : D.pures l = true) (hq : S q = some (.lst [])) : eqR (.ref p) (.ref q) S QB = QB l.isEmpty := by
  have := neNil (QB := fun b => QB (!b)) h hp hq
  have e : cmR .ne (.ref p) (.ref q) S (fun b => QB (!b)) = eqR (.ref p) (.ref q) S fun b => QB (!!b) := rfl
  rw [e] at this
  simpa using this
theorem nD_pure : ∀ {l : List Nat}, D.pures (nD l) = true
  | [] => rfl
  | a :: l => by
    show D.pures (.int a :: nD l) = true
    rw [D.pures, nD_pure]; rfl
theorem nD_len {l : List Nat} : (nD l).length = l.length := by simp [nD]
theorem nD_empty {l : List Nat} : (nD l).isEmpty = l.isEmpty := by cases l <;> rfl
theorem nD_snoc {l : List Nat} {j : Nat} : nD l ++ [.int (j : Int)] = nD (l ++ [j]) := by simp [nD]
theorem nD_append {l m : List Nat} : nD l ++ nD m = nD (l ++ m) := by simp [nD]
theorem sortN {p : Addr} {fs : List Nat} (h : S p = some (.lst (nD fs))) (hl : fs.length < 64) : bltR .sorted [.ref p] S Q = ∀ q, S q = none → Q (.ref q) (S.upd q (.lst ((srt (nI fs)).map D.int))) := by
  have : (nI fs).length < 64 := by simpa [nI] using hl
  simp only [bltR, h, bllR, nD_ints, this, true_and]
theorem le_both {S S' : Sto} {p : Addr} {c : Cell} (h : S.le S') : (S.upd p c).le (S'.upd p c) := fun a x e => by
  by_cases ha : a = p
  · subst ha; rw [Sto.upd_same] at e ⊢; exact e
  · rw [Sto.upd_ne ha] at e ⊢; exact h a x e
theorem le_none {S S' : Sto} {p : Addr} (h : S.le S') (e : S' p = none) : S p = none := by
  cases q : S p with
  | none => rfl
  | some c => rw [h p c q] at e; cases e
structure Met (T : Tr) (s : Nat) (fs ws : List Nat) : Prop where
  nd : fs.Nodup
  rc : ∀ x ∈ fs, Rc T s x
  s0 : s ∈ fs
  sub : ∀ x ∈ ws, x ∈ fs
  cl : ∀ x ∈ fs, x ∉ ws → ∀ j ∈ succs T x, j ∈ fs
structure MetS (T : Tr) (s a i : Nat) (fs ws : List Nat) : Prop where
  nd : fs.Nodup
  rc : ∀ x ∈ fs, Rc T s x
  s0 : s ∈ fs
  sub : ∀ x ∈ ws, x ∈ fs
  cl : ∀ x ∈ fs, x ∉ ws → x ≠ a → ∀ j ∈ succs T x, j ∈ fs
  a0 : a ∈ fs
  ai : ∀ j, Sd.node j ∈ (sides T a).take i → j ∈ fs
theorem take_snoc {α : Type} {l : List α} {i : Nat} {d : α} (h : l[i]? = some d) : l.take (i + 1) = l.take i ++ [d] := by
  have hi := (List.getElem?_eq_some_iff.mp h)
  obtain ⟨hi, e⟩ := hi
  rw [List.take_succ_eq_append_getElem hi, e]
theorem MetS.skip {a i : Nat} {fs ws : List Nat} {d : Sd} (h : MetS T s a i fs ws) (hd : (sides T a)[i]? = some d) (hj : ∀ j, d = .node j → j ∈ fs) : MetS T s a (i + 1) fs ws :=
  ⟨h.nd, h.rc, h.s0, h.sub, h.cl, h.a0, fun j hm => by
    rw [take_snoc hd] at hm
    rcases List.mem_append.mp hm with hm | hm
    · exact h.ai j hm
    · exact hj j (List.mem_singleton.mp hm).symm⟩
theorem MetS.add {a i j : Nat} {fs ws : List Nat} (h : MetS T s a i fs ws) (hd : (sides T a)[i]? = some (.node j)) (hj : j ∉ fs) : MetS T s a (i + 1) (fs ++ [j]) (ws ++ [j]) :=
  ⟨by
    rw [List.nodup_append]
    exact ⟨h.nd, by simp, fun x hx y hy => by rw [List.mem_singleton.mp hy]; intro z; exact hj (z ▸ hx)⟩,
  fun x hx => by
    rcases List.mem_append.mp hx with hx | hx
    · exact h.rc x hx
    · rw [List.mem_singleton.mp hx]
      exact (h.rc a h.a0).next (mem_nodes.mpr (List.mem_of_getElem? hd)),
  by simp [h.s0],
  fun x hx => by
    rcases List.mem_append.mp hx with hx | hx
    · simp [h.sub x hx]
    · simp [List.mem_singleton.mp hx],
  fun x hx hn hxa y hy => by
    rw [List.mem_append, not_or] at hn
    rcases List.mem_append.mp hx with hx | hx
    · simp [h.cl x hx hn.1 hxa y hy]
    · exact absurd hx hn.2,
  by simp [h.a0],
  fun y hm => by
    rw [take_snoc hd] at hm
    rcases List.mem_append.mp hm with hm | hm
    · simp [h.ai y hm]
    · have := List.mem_singleton.mp hm
      cases this
      simp⟩
theorem met_ok (ok : TrOk T) (hs : s < T.length) (hk : 0 < k) (hQ : ∀ (p : Addr) (M : List Nat), S p = none → M.Pairwise (· < ·) → (∀ x, x ∈ M ↔ Rc T s x) → Q (.ref p) (S.upd p (.lst (nD M)))) : Γ k "met_nodes" [tD T, .int (s : Int)] S Q X := by
  cases k with
  | zero => omega
  | succ k =>
  refine gam (np := 2) (nn := 7) (b := b_met_nodes) rfl rfl ?_
  simp only [b_met_nodes, wSs, wS, wT, wE, wEs, wO, wC, wI, wG, wGs, startD, List.map_cons, List.map_nil, List.length_cons, List.length_nil, List.replicate, List.cons_append, List.nil_append, List.append_nil, List.set_cons_zero, List.set_cons_succ, List.getElem?_cons_zero, List.getElem?_cons_succ, itT, wipeD, opAddI, opSubI, opMulI, opDivI, opModI, opPowI, opAddT, cmEq, cmNe, cmLt, cmLe, cmGt, cmGe, cmIn, eqI, eqS, inS2, truB, ixT0, ixT1, ixT2, ixT3, ixT4, ixT6, slcT, lenT, absI, intI, tupleT, listT, listRl, decide_true, decide_false, if_true, if_false, Bool.false_eq_true, reduceIte, decide_eq_true_eq, Bool.not_true, Bool.not_false, line, mI_int, mI_bool, mI_str, mI_tuple, mI_list, mB_int, mB_bool, mB_str, mB_tuple, mB_list, mS_int, mS_bool, mS_str, mS_tuple, mS_list, mT_int, mT_bool, mT_str, mT_tuple, mT_list, mN_int, mN_bool, mN_str, mN_tuple, mN_list, anyT, anyF, Nat.zero_add, Nat.reduceAdd, Nat.reduceLeDiff, true_and]
  intro p hp q hq
  have hpq : q ≠ p := fun z => by subst z; rw [Sto.upd_same] at hq; cases hq
  have ltm : ∀ {fs : List Nat}, fs.Nodup → (∀ x ∈ fs, Rc T s x) → fs.length ≤ T.length := fun h g => nodup_le h fun x hx => (g x hx).lt ok hs
  have l5 := ok.l5
  have met0 : Met T s [s] [s] := by
    refine ⟨by simp, fun x hx => ?_, by simp, fun x hx => hx, fun x hx hn => absurd hx hn⟩
    rw [List.mem_singleton.mp hx]
    exact .self
  refine ⟨T.length + 1, whlL_inv (fun n σ S' => ∃ fs ws x4 x5 x6, σ = [some (tD T), some (.int (s : Int)), some (.ref p), some (.ref q), x4, x5, x6] ∧ S.le S' ∧ S' p = some (.lst (nD fs)) ∧ S' q = some (.lst (nD ws)) ∧ Met T s fs ws ∧ ws.length + (T.length - fs.length) ≤ n ∧ n ≤ 100) ?_ T.length _ _
    ⟨[s], [s], _, _, _, rfl, Sto.le_new' (Sto.le_new hp) hq, by rw [Sto.upd_ne hpq.symm, Sto.upd_same]; rfl, Sto.upd_same, met0, by simp; omega, by omega⟩⟩
  rintro n σ S' NX ⟨fs, ws, x4, x5, x6, rfl, hle, hfs, hws, M, hn, hn1⟩ hN
  simp only [e_met_nodes_3, wSs, wS, wT, wE, wEs, wO, wC, wI, wG, wGs, startD, List.map_cons, List.map_nil, List.length_cons, List.length_nil, List.replicate, List.cons_append, List.nil_append, List.append_nil, List.set_cons_zero, List.set_cons_succ, List.getElem?_cons_zero, List.getElem?_cons_succ, itT, wipeD]
  refine ⟨Nat.zero_le _, fun r hr => ?_⟩
  have pr : p ≠ r := fun z => by subst z; rw [hr] at hfs; cases hfs
  have qr : q ≠ r := fun z => by subst z; rw [hr] at hws; cases hws
  rw [neNil (l := nD ws) (by rw [Sto.upd_ne qr]; exact hws) nD_pure Sto.upd_same, nD_empty]
  have hle1 : S.le (S'.upd r (.lst [])) := Sto.le_new' hle hr
  have hfs1 : (S'.upd r (.lst [])) p = some (.lst (nD fs)) := by rw [Sto.upd_ne pr]; exact hfs
  have hws1 : (S'.upd r (.lst [])) q = some (.lst (nD ws)) := by rw [Sto.upd_ne qr]; exact hws
  have sp : S p = none := hp
  have sq : S q = none := by rw [Sto.upd_ne hpq] at hq; exact hq
  by_cases hw : ws = []
  · subst hw
    simp only [List.isEmpty_nil, Bool.not_true, Bool.false_eq_true, if_false]
    have hfl := ltm M.nd M.rc
    rw [sortN hfs1 (by omega)]
    intro u hu
    obtain ⟨m, m1, m2, m3⟩ := srt_nat M.nd
    rw [m3]
    refine ⟨_, le_both hle1, hQ u m (le_none hle1 hu) m1 fun x => ?_⟩
    rw [m2]
    exact ⟨M.rc x, fun h => h.sub M.s0 (fun y hy j hj => M.cl y hy (by simp) j hj)⟩
  · have hne : (!ws.isEmpty) = true := by cases ws with
      | nil => exact absurd rfl hw
      | cons => rfl
    rw [hne, if_pos rfl]
    generalize hS1 : S'.upd r (.lst []) = S1 at *
    obtain ⟨wi, a, rfl⟩ : ∃ wi a, ws = wi ++ [a] := ⟨ws.dropLast, ws.getLast hw, (List.dropLast_concat_getLast hw).symm⟩
    have ha : a ∈ fs := M.sub a (by simp)
    have hat : a < T.length := (M.rc a ha).lt ok hs
    have pop : ∀ Q' : KD, mthR .pop (.ref q) [] S1 Q' = Q' (.int (a : Int)) (S1.upd q (.lst (nD wi))) := fun Q' => by
      have e1 : (nD (wi ++ [a]))[(nD (wi ++ [a])).length - 1]? = some (.int (a : Int)) := by simp [nD]
      have e2 : (nD (wi ++ [a])).dropLast = nD wi := by simp [nD]
      simp only [mthR, hws1, e1, e2]
    have mt : mtyR .pop (.ref q) S1 = true := by simp only [mtyR, hws1]
    simp only [s_met_nodes_2, wSs, wS, wT, wE, wEs, wO, wC, wI, wG, wGs, startD, List.map_cons, List.map_nil, List.length_cons, List.length_nil, List.replicate, List.cons_append, List.nil_append, List.append_nil, List.set_cons_zero, List.set_cons_succ, List.getElem?_cons_zero, List.getElem?_cons_succ, itT, wipeD, opAddI, opSubI, opMulI, opDivI, opModI, opPowI, opAddT, cmEq, cmNe, cmLt, cmLe, cmGt, cmGe, cmIn, eqI, eqS, inS2, truB, ixT0, ixT1, ixT2, ixT3, ixT4, ixT6, slcT, lenT, absI, intI, tupleT, listT, listRl, decide_true, decide_false, if_true, if_false, Bool.false_eq_true, reduceIte, decide_eq_true_eq, Bool.not_true, Bool.not_false, line, mI_int, mI_bool, mI_str, mI_tuple, mI_list, mB_int, mB_bool, mB_str, mB_tuple, mB_list, mS_int, mS_bool, mS_str, mS_tuple, mS_list, mT_int, mT_bool, mT_str, mT_tuple, mT_list, mN_int, mN_bool, mN_str, mN_tuple, mN_list, anyT, anyF, Nat.zero_add, Nat.reduceAdd, Nat.reduceLeDiff, true_and, mt, pop, ix_tree hat]
    refine forL_inv ((sides T a).map sD) (fun i σ S' => ∃ fs' ws' x5 x6, σ = [some (tD T), some (.int (s : Int)), some (.ref p), some (.ref q), some (.int (a : Int)), x5, x6] ∧ S.le S' ∧ S' p = some (.lst (nD fs')) ∧ S' q = some (.lst (nD ws')) ∧ MetS T s a i fs' ws' ∧ ws'.length + (T.length - fs'.length) + 1 ≤ n) (fun _ _ _ _ => trivial) ?_ ?_
      ⟨fs, wi, _, _, rfl, Sto.le_upd sq hle1, by rw [Sto.upd_ne hpq.symm]; exact hfs1, Sto.upd_same, ⟨M.nd, M.rc, M.s0, fun x hx => M.sub x (by simp [hx]), fun x hx hn hxa => M.cl x hx (by simp [hn, hxa]), ha, fun j hj => by simp at hj⟩, by simp at hn; omega⟩
    · rintro i d σ S2 NX2 hd ⟨fs', ws', x5, x6, rfl, hle2, hfs2, hws2, M2, hn2⟩ hN2
      rw [List.getElem?_map, Option.map_eq_some_iff] at hd
      obtain ⟨d, hd, rfl⟩ := hd
      cases d with
      | tell t =>
        have e3 : decide (("tell" : Str) = ("node" : Str)) = false := by decide
        simp only [sD, s_met_nodes_1, wSs, wS, wT, wE, wEs, wO, wC, wI, wG, wGs, startD, List.map_cons, List.map_nil, List.length_cons, List.length_nil, List.replicate, List.cons_append, List.nil_append, List.append_nil, List.set_cons_zero, List.set_cons_succ, List.getElem?_cons_zero, List.getElem?_cons_succ, itT, wipeD, opAddI, opSubI, opMulI, opDivI, opModI, opPowI, opAddT, cmEq, cmNe, cmLt, cmLe, cmGt, cmGe, cmIn, eqI, eqS, inS2, truB, ixT0, ixT1, ixT2, ixT3, ixT4, ixT6, slcT, lenT, absI, intI, tupleT, listT, listRl, decide_true, decide_false, if_true, if_false, Bool.false_eq_true, reduceIte, decide_eq_true_eq, Bool.not_true, Bool.not_false, line, mI_int, mI_bool, mI_str, mI_tuple, mI_list, mB_int, mB_bool, mB_str, mB_tuple, mB_list, mS_int, mS_bool, mS_str, mS_tuple, mS_list, mT_int, mT_bool, mT_str, mT_tuple, mT_list, mN_int, mN_bool, mN_str, mN_tuple, mN_list, anyT, anyF, Nat.zero_add, Nat.reduceAdd, Nat.reduceLeDiff, true_and, e3]
        exact hN2 _ _ ⟨fs', ws', _, _, rfl, hle2, hfs2, hws2, M2.skip hd (fun j e => nomatch e), hn2⟩
      | node j =>
        simp only [sD, s_met_nodes_1, wSs, wS, wT, wE, wEs, wO, wC, wI, wG, wGs, startD, List.map_cons, List.map_nil, List.length_cons, List.length_nil, List.replicate, List.cons_append, List.nil_append, List.append_nil, List.set_cons_zero, List.set_cons_succ, List.getElem?_cons_zero, List.getElem?_cons_succ, itT, wipeD, opAddI, opSubI, opMulI, opDivI, opModI, opPowI, opAddT, cmEq, cmNe, cmLt, cmLe, cmGt, cmGe, cmIn, eqI, eqS, inS2, truB, ixT0, ixT1, ixT2, ixT3, ixT4, ixT6, slcT, lenT, absI, intI, tupleT, listT, listRl, decide_true, decide_false, if_true, if_false, Bool.false_eq_true, reduceIte, decide_eq_true_eq, Bool.not_true, Bool.not_false, line, mI_int, mI_bool, mI_str, mI_tuple, mI_list, mB_int, mB_bool, mB_str, mB_tuple, mB_list, mS_int, mS_bool, mS_str, mS_tuple, mS_list, mT_int, mT_bool, mT_str, mT_tuple, mT_list, mN_int, mN_bool, mN_str, mN_tuple, mN_list, anyT, anyF, Nat.zero_add, Nat.reduceAdd, Nat.reduceLeDiff, true_and, cmR, inN hfs2]
        by_cases hj : j ∈ fs'
        · simp only [hj, opAddI, opSubI, opMulI, opDivI, opModI, opPowI, opAddT, cmEq, cmNe, cmLt, cmLe, cmGt, cmGe, cmIn, eqI, eqS, inS2, truB, ixT0, ixT1, ixT2, ixT3, ixT4, ixT6, slcT, lenT, absI, intI, tupleT, listT, listRl, decide_true, decide_false, if_true, if_false, Bool.false_eq_true, reduceIte, decide_eq_true_eq, Bool.not_true, Bool.not_false, line, mI_int, mI_bool, mI_str, mI_tuple, mI_list, mB_int, mB_bool, mB_str, mB_tuple, mB_list, mS_int, mS_bool, mS_str, mS_tuple, mS_list, mT_int, mT_bool, mT_str, mT_tuple, mT_list, mN_int, mN_bool, mN_str, mN_tuple, mN_list, anyT, anyF, Nat.zero_add, Nat.reduceAdd, Nat.reduceLeDiff, true_and]
          exact hN2 _ _ ⟨fs', ws', _, _, rfl, hle2, hfs2, hws2, M2.skip hd (fun j' e => by cases e; exact hj), hn2⟩
        · have M3 := M2.add hd hj
          have hfl := ltm M3.nd M3.rc
          have hwl : ws'.length ≤ 1000 := by
            simp at hfl
            omega
          simp at hfl
          have hws3 : (S2.upd p (.lst (nD (fs' ++ [j])))) q = some (.lst (nD ws')) := by rw [Sto.upd_ne hpq]; exact hws2
          simp only [hj, opAddI, opSubI, opMulI, opDivI, opModI, opPowI, opAddT, cmEq, cmNe, cmLt, cmLe, cmGt, cmGe, cmIn, eqI, eqS, inS2, truB, ixT0, ixT1, ixT2, ixT3, ixT4, ixT6, slcT, lenT, absI, intI, tupleT, listT, listRl, decide_true, decide_false, if_true, if_false, Bool.false_eq_true, reduceIte, decide_eq_true_eq, Bool.not_true, Bool.not_false, line, mI_int, mI_bool, mI_str, mI_tuple, mI_list, mB_int, mB_bool, mB_str, mB_tuple, mB_list, mS_int, mS_bool, mS_str, mS_tuple, mS_list, mT_int, mT_bool, mT_str, mT_tuple, mT_list, mN_int, mN_bool, mN_str, mN_tuple, mN_list, anyT, anyF, Nat.zero_add, Nat.reduceAdd, Nat.reduceLeDiff, true_and, mtyA hfs2, appL hfs2, nD_snoc, mtyA hws3, appL hws3, nD_len]
          refine ⟨by omega, by omega, hN2 _ _ ⟨fs' ++ [j], ws' ++ [j], _, _, rfl, Sto.le_upd sq (Sto.le_upd sp hle2), by rw [Sto.upd_ne hpq.symm, Sto.upd_same], Sto.upd_same, M3, by simp; omega⟩⟩
    · rintro σ S2 ⟨fs', ws', x5, x6, rfl, hle2, hfs2, hws2, M2, hn2⟩
      obtain ⟨m, rfl⟩ : ∃ m, n = m + 1 := ⟨n - 1, by omega⟩
      refine hN m _ _ rfl ⟨fs', ws', _, _, _, rfl, hle2, hfs2, hws2, ⟨M2.nd, M2.rc, M2.s0, M2.sub, fun x hx hn y hy => ?_⟩, by omega, by omega⟩
      by_cases hxa : x = a
      · subst hxa
        refine M2.ai y ?_
        rw [List.length_map, List.take_length]
        exact mem_nodes.mp hy
      · exact M2.cl x hx hn hxa y hy
end K49
namespace K49
open PySem PySem.Spec PyProof.Rows L2 Mi
variable {k : Nat} {S : Sto} {Q : KD} {X : KX} {pp : Addr} {T : Tr} {s : Nat}
def tst (E : List Nat) : Sd → Bool
  | .tell _ => true
  | .node j => decide (j ∈ E)
theorem asBls_map {α : Type} {f : α → Bool} : ∀ {l : List α}, asBls (l.map fun x => D.bl (f x)) = some (l.map f)
  | [] => rfl
  | a :: l => by
    show Option.map _ (asBls (l.map fun x => D.bl (f x))) = _
    rw [asBls_map]; rfl
structure EndP (T : Tr) (M E : List Nat) : Prop where
  nd : E.Nodup
  sub : ∀ x ∈ E, x ∈ M
  rk : ∀ (k x : Nat), E[k]? = some x → (∃ n, Sd.tell n ∈ sides T x) ∨ ∃ j ∈ E.take k, Sd.node j ∈ sides T x
abbrev grow (T : Tr) (E : List Nat) (a : Nat) : Bool := decide (a ∉ E) && (sides T a).any (tst E)
theorem grow_tst {E : List Nat} {a : Nat} (h : (sides T a).any (tst E) = true) : (∃ n, Sd.tell n ∈ sides T a) ∨ ∃ j ∈ E, Sd.node j ∈ sides T a := by
  obtain ⟨d, hd, ht⟩ := List.any_eq_true.mp h
  cases d with
  | tell n => exact .inl ⟨n, hd⟩
  | node j => exact .inr ⟨j, by simpa [tst] using ht, hd⟩
theorem EndP.more {M E : List Nat} (h : EndP T M E) (hM : M.Nodup) : EndP T M (E ++ M.filter (grow T E)) where
  nd := by
    rw [List.nodup_append]
    refine ⟨h.nd, hM.sublist List.filter_sublist, fun x hx y hy e => ?_⟩
    subst e
    have := (List.mem_filter.mp hy).2
    simp [grow, hx] at this
  sub := fun x hx => by
    rcases List.mem_append.mp hx with hx | hx
    · exact h.sub x hx
    · exact (List.mem_filter.mp hx).1
  rk := fun k x hx => by
    by_cases hk : k < E.length
    · rw [List.getElem?_append_left hk] at hx
      rw [List.take_append_of_le_length (by omega)]
      exact h.rk k x hx
    · rw [List.getElem?_append_right (by omega)] at hx
      have hm := (List.mem_filter.mp (List.mem_of_getElem? hx)).2
      have h2 : (sides T x).any (tst E) = true := by
        simp only [grow, Bool.and_eq_true] at hm
        exact hm.2
      rcases grow_tst h2 with h3 | ⟨j, hj, hn⟩
      · exact .inl h3
      · refine .inr ⟨j, ?_, hn⟩
        rw [List.take_append]
        simp [List.take_of_length_le (show E.length ≤ k by omega), hj]
theorem EndP.done {M E : List Nat} (h : EndP T M E) (e : M.filter (grow T E) = []) : EndOk T M E where
  nd := h.nd
  sub := h.sub
  rk := h.rk
  cl := fun x hx hn => by
    have := List.filter_eq_nil_iff.mp e x hx
    have h2 : (sides T x).any (tst E) = false := by
      simp only [grow, hn, not_false_eq_true, decide_true, Bool.true_and] at this
      simpa using this
    rw [List.any_eq_false] at h2
    exact ⟨fun n hm => h2 _ hm rfl, fun j hj hm => h2 _ hm (by simp [tst, hj])⟩
theorem ending_ok {pm : Addr} {M : List Nat} (hM : S pm = some (.lst (nD M))) (hd : M.Nodup) (lt : ∀ x ∈ M, x < T.length) (l5 : T.length ≤ 5) (hk : 0 < k) (hQ : ∀ (p : Addr) (E : List Nat), S p = none → EndOk T M E → Q (.ref p) (S.upd p (.lst (nD E)))) : Γ k "ending_nodes" [tD T, .ref pm] S Q X := by
  cases k with
  | zero => omega
  | succ k =>
  refine gam (np := 2) (nn := 8) (b := b_ending_nodes) rfl rfl ?_
  simp only [b_ending_nodes, wSs, wS, wT, wE, wEs, wO, wC, wI, wG, wGs, startD, List.map_cons, List.map_nil, List.length_cons, List.length_nil, List.replicate, List.cons_append, List.nil_append, List.append_nil, List.set_cons_zero, List.set_cons_succ, List.getElem?_cons_zero, List.getElem?_cons_succ, itT, wipeD, opAddI, opSubI, opMulI, opDivI, opModI, opPowI, opAddT, cmEq, cmNe, cmLt, cmLe, cmGt, cmGe, cmIn, eqI, eqS, inS2, truB, ixT0, ixT1, ixT2, ixT3, ixT4, ixT6, slcT, lenT, absI, intI, tupleT, listT, listRl, decide_true, decide_false, if_true, if_false, Bool.false_eq_true, reduceIte, decide_eq_true_eq, Bool.not_true, Bool.not_false, line, mI_int, mI_bool, mI_str, mI_tuple, mI_list, mB_int, mB_bool, mB_str, mB_tuple, mB_list, mS_int, mS_bool, mS_str, mS_tuple, mS_list, mT_int, mT_bool, mT_str, mT_tuple, mT_list, mN_int, mN_bool, mN_str, mN_tuple, mN_list, anyT, anyF, Nat.zero_add, Nat.reduceAdd, Nat.reduceLeDiff, true_and]
  intro p0 hp0
  have lM := nodup_le hd lt
  have lE : ∀ {E : List Nat}, EndP T M E → E.length ≤ M.length := fun h => h.nd.length_le_of_subset fun x hx => h.sub x hx
  refine ⟨M.length + 1 + 1, whlL_inv (fun n σ S' => ∃ p E g x4 x5 x6 x7, σ = [some (tD T), some (.ref pm), some (.ref p), some (.bl g), x4, x5, x6, x7] ∧ S.le S' ∧ S p = none ∧ S' p = some (.lst (nD E)) ∧ EndP T M E ∧ (g = false → M.filter (grow T E) = []) ∧ (M.length - E.length) + (if g = true then 1 else 0) ≤ n) ?_ (M.length + 1) _ _
    ⟨p0, [], true, _, _, _, _, rfl, Sto.le_new hp0, hp0, Sto.upd_same, ⟨by simp, by simp, fun k x h => by simp at h⟩, by simp, by simp⟩⟩
  rintro n σ S' NX ⟨p, E, g, x4, x5, x6, x7, rfl, hle, sp, hE, EP, hg, hn⟩ hN
  simp only [e_ending_nodes_4, wSs, wS, wT, wE, wEs, wO, wC, wI, wG, wGs, startD, List.map_cons, List.map_nil, List.length_cons, List.length_nil, List.replicate, List.cons_append, List.nil_append, List.append_nil, List.set_cons_zero, List.set_cons_succ, List.getElem?_cons_zero, List.getElem?_cons_succ, itT, wipeD, truB]
  cases g with
  | false =>
    simp only [Bool.false_eq_true, if_false]
    exact ⟨_, by
      intro a c e
      by_cases ha : a = p
      · subst ha; rw [Sto.upd_same] at e; cases e; exact hE
      · rw [Sto.upd_ne ha] at e; exact hle a c e, hQ p E sp (EP.done (hg rfl))⟩
  | true =>
    rw [if_pos rfl]
    obtain ⟨n', rfl⟩ : ∃ m, n = m + 1 := ⟨n - 1, by simp at hn; omega⟩
    simp only [s_ending_nodes_3, wSs, wS, wT, wE, wEs, wO, wC, wI, wG, wGs, startD, List.map_cons, List.map_nil, List.length_cons, List.length_nil, List.replicate, List.cons_append, List.nil_append, List.append_nil, List.set_cons_zero, List.set_cons_succ, List.getElem?_cons_zero, List.getElem?_cons_succ, itT, wipeD, opAddI, opSubI, opMulI, opDivI, opModI, opPowI, opAddT, cmEq, cmNe, cmLt, cmLe, cmGt, cmGe, cmIn, eqI, eqS, inS2, truB, ixT0, ixT1, ixT2, ixT3, ixT4, ixT6, slcT, lenT, absI, intI, tupleT, listT, listRl, decide_true, decide_false, if_true, if_false, Bool.false_eq_true, reduceIte, decide_eq_true_eq, Bool.not_true, Bool.not_false, line, mI_int, mI_bool, mI_str, mI_tuple, mI_list, mB_int, mB_bool, mB_str, mB_tuple, mB_list, mS_int, mS_bool, mS_str, mS_tuple, mS_list, mT_int, mT_bool, mT_str, mT_tuple, mT_list, mN_int, mN_bool, mN_str, mN_tuple, mN_list, anyT, anyF, Nat.zero_add, Nat.reduceAdd, Nat.reduceLeDiff, true_and]
    intro q hq
    have sq := le_none hle hq
    have qm : q ≠ pm := fun z => by subst z; rw [sq] at hM; cases hM
    have qp : q ≠ p := fun z => by subst z; rw [hq] at hE; cases hE
    have hM1 : (S'.upd q (.lst [])) pm = some (.lst (nD M)) := by rw [Sto.upd_ne qm.symm]; exact hle _ _ hM
    rw [itL hM1]
    refine forL_inv (nD M) (fun i σ S2 => ∃ x5 x6 x7, σ = [some (tD T), some (.ref pm), some (.ref p), some (.bl true), some (.ref q), x5, x6, x7] ∧ S.le S2 ∧ S2 p = some (.lst (nD E)) ∧ S2 q = some (.lst (nD ((M.take i).filter (grow T E))))) (fun i σ S2 ⟨_, _, _, _, h, _⟩ => h _ _ hM) ?_ ?_
      ⟨_, _, _, rfl, Sto.le_new' hle hq, by rw [Sto.upd_ne qp.symm]; exact hE, Sto.upd_same⟩
    · rintro i d σ S2 NX2 hd' ⟨x5, x6, x7, rfl, hle2, hE2, hq2⟩ hN2
      unfold nD at hd'
      rw [List.getElem?_map, Option.map_eq_some_iff] at hd'
      obtain ⟨a, ha, rfl⟩ := hd'
      have haM := List.mem_of_getElem? ha
      have hal := lt a haM
      have sub5 : ((M.take i).filter (grow T E)).length ≤ 5 := by
        have h1 := List.length_filter_le (grow T E) (M.take i)
        have h2 : (M.take i).length ≤ M.length := by rw [List.length_take]; omega
        omega
      simp only [s_ending_nodes_2, wSs, wS, wT, wE, wEs, wO, wC, wI, wG, wGs, startD, List.map_cons, List.map_nil, List.length_cons, List.length_nil, List.replicate, List.cons_append, List.nil_append, List.append_nil, List.set_cons_zero, List.set_cons_succ, List.getElem?_cons_zero, List.getElem?_cons_succ, itT, wipeD, opAddI, opSubI, opMulI, opDivI, opModI, opPowI, opAddT, cmEq, cmNe, cmLt, cmLe, cmGt, cmGe, cmIn, eqI, eqS, inS2, truB, ixT0, ixT1, ixT2, ixT3, ixT4, ixT6, slcT, lenT, absI, intI, tupleT, listT, listRl, decide_true, decide_false, if_true, if_false, Bool.false_eq_true, reduceIte, decide_eq_true_eq, Bool.not_true, Bool.not_false, line, mI_int, mI_bool, mI_str, mI_tuple, mI_list, mB_int, mB_bool, mB_str, mB_tuple, mB_list, mS_int, mS_bool, mS_str, mS_tuple, mS_list, mT_int, mT_bool, mT_str, mT_tuple, mT_list, mN_int, mN_bool, mN_str, mN_tuple, mN_list, anyT, anyF, Nat.zero_add, Nat.reduceAdd, Nat.reduceLeDiff, true_and, cmR, inN hE2]
      by_cases haE : a ∈ E
      · simp only [haE, opAddI, opSubI, opMulI, opDivI, opModI, opPowI, opAddT, cmEq, cmNe, cmLt, cmLe, cmGt, cmGe, cmIn, eqI, eqS, inS2, truB, ixT0, ixT1, ixT2, ixT3, ixT4, ixT6, slcT, lenT, absI, intI, tupleT, listT, listRl, decide_true, decide_false, if_true, if_false, Bool.false_eq_true, reduceIte, decide_eq_true_eq, Bool.not_true, Bool.not_false, line, mI_int, mI_bool, mI_str, mI_tuple, mI_list, mB_int, mB_bool, mB_str, mB_tuple, mB_list, mS_int, mS_bool, mS_str, mS_tuple, mS_list, mT_int, mT_bool, mT_str, mT_tuple, mT_list, mN_int, mN_bool, mN_str, mN_tuple, mN_list, anyT, anyF, Nat.zero_add, Nat.reduceAdd, Nat.reduceLeDiff, true_and]
        refine hN2 _ _ ⟨_, _, _, rfl, hle2, hE2, ?_⟩
        rw [take_snoc ha, List.filter_append]
        have : grow T E a = false := by simp [grow, haE]
        simp [List.filter_cons, this, hq2]
      · simp only [haE, opAddI, opSubI, opMulI, opDivI, opModI, opPowI, opAddT, cmEq, cmNe, cmLt, cmLe, cmGt, cmGe, cmIn, eqI, eqS, inS2, truB, ixT0, ixT1, ixT2, ixT3, ixT4, ixT6, slcT, lenT, absI, intI, tupleT, listT, listRl, decide_true, decide_false, if_true, if_false, Bool.false_eq_true, reduceIte, decide_eq_true_eq, Bool.not_true, Bool.not_false, line, mI_int, mI_bool, mI_str, mI_tuple, mI_list, mB_int, mB_bool, mB_str, mB_tuple, mB_list, mS_int, mS_bool, mS_str, mS_tuple, mS_list, mT_int, mT_bool, mT_str, mT_tuple, mT_list, mN_int, mN_bool, mN_str, mN_tuple, mN_list, anyT, anyF, Nat.zero_add, Nat.reduceAdd, Nat.reduceLeDiff, true_and, ix_tree hal]
        refine ⟨by
          obtain ⟨x, y, e⟩ := sides_two hal
          rw [e, List.length_map]
          show 2 ≤ 16777216
          decide, ?_⟩
        refine cmpL_inv ((sides T a).map sD) (fun i acc S3 => S3 = S2 ∧ acc = ((sides T a).take i).map fun d => D.bl (tst E d)) (fun _ _ _ _ => trivial) ?_ ?_ ⟨rfl, rfl⟩
        · rintro i2 d acc S3 P hd2 ⟨rfl, rfl⟩ hP
          rw [List.getElem?_map, Option.map_eq_some_iff] at hd2
          obtain ⟨d, hd2, rfl⟩ := hd2
          have fin : P (.bl (tst E d)) S3 := hP _ _ ⟨rfl, by rw [take_snoc hd2, List.map_append]; rfl⟩
          cases d with
          | tell t =>
            simp only [sD, e_ending_nodes_1, wSs, wS, wT, wE, wEs, wO, wC, wI, wG, wGs, startD, List.map_cons, List.map_nil, List.length_cons, List.length_nil, List.replicate, List.cons_append, List.nil_append, List.append_nil, List.set_cons_zero, List.set_cons_succ, List.getElem?_cons_zero, List.getElem?_cons_succ, itT, wipeD, opAddI, opSubI, opMulI, opDivI, opModI, opPowI, opAddT, cmEq, cmNe, cmLt, cmLe, cmGt, cmGe, cmIn, eqI, eqS, inS2, truB, ixT0, ixT1, ixT2, ixT3, ixT4, ixT6, slcT, lenT, absI, intI, tupleT, listT, listRl, decide_true, decide_false, if_true, if_false, Bool.false_eq_true, reduceIte, decide_eq_true_eq, Bool.not_true, Bool.not_false, line, mI_int, mI_bool, mI_str, mI_tuple, mI_list, mB_int, mB_bool, mB_str, mB_tuple, mB_list, mS_int, mS_bool, mS_str, mS_tuple, mS_list, mT_int, mT_bool, mT_str, mT_tuple, mT_list, mN_int, mN_bool, mN_str, mN_tuple, mN_list, anyT, anyF, Nat.zero_add, Nat.reduceAdd, Nat.reduceLeDiff, true_and]
            exact fin
          | node j =>
            have e3 : decide (("node" : Str) = ("tell" : Str)) = false := by decide
            simp only [sD, e_ending_nodes_1, wSs, wS, wT, wE, wEs, wO, wC, wI, wG, wGs, startD, List.map_cons, List.map_nil, List.length_cons, List.length_nil, List.replicate, List.cons_append, List.nil_append, List.append_nil, List.set_cons_zero, List.set_cons_succ, List.getElem?_cons_zero, List.getElem?_cons_succ, itT, wipeD, opAddI, opSubI, opMulI, opDivI, opModI, opPowI, opAddT, cmEq, cmNe, cmLt, cmLe, cmGt, cmGe, cmIn, eqI, eqS, inS2, truB, ixT0, ixT1, ixT2, ixT3, ixT4, ixT6, slcT, lenT, absI, intI, tupleT, listT, listRl, decide_true, decide_false, if_true, if_false, Bool.false_eq_true, reduceIte, decide_eq_true_eq, Bool.not_true, Bool.not_false, line, mI_int, mI_bool, mI_str, mI_tuple, mI_list, mB_int, mB_bool, mB_str, mB_tuple, mB_list, mS_int, mS_bool, mS_str, mS_tuple, mS_list, mT_int, mT_bool, mT_str, mT_tuple, mT_list, mN_int, mN_bool, mN_str, mN_tuple, mN_list, anyT, anyF, Nat.zero_add, Nat.reduceAdd, Nat.reduceLeDiff, true_and, e3, cmR, inN hE2]
            exact fin
        · rintro ds S3 ⟨rfl, rfl⟩
          rw [List.length_map, List.take_length]
          simp only [bllR, asBls_map, truB]
          have e5 : ((sides T a).map fun x => tst E x).any id = (sides T a).any (tst E) := by rw [List.any_map]; rfl
          rw [e5]
          by_cases hg2 : (sides T a).any (tst E) = true
          · rw [hg2, if_pos rfl]
            simp only [mtyA hq2, appL hq2, nD_len, opAddI, opSubI, opMulI, opDivI, opModI, opPowI, opAddT, cmEq, cmNe, cmLt, cmLe, cmGt, cmGe, cmIn, eqI, eqS, inS2, truB, ixT0, ixT1, ixT2, ixT3, ixT4, ixT6, slcT, lenT, absI, intI, tupleT, listT, listRl, decide_true, decide_false, if_true, if_false, Bool.false_eq_true, reduceIte, decide_eq_true_eq, Bool.not_true, Bool.not_false, line, mI_int, mI_bool, mI_str, mI_tuple, mI_list, mB_int, mB_bool, mB_str, mB_tuple, mB_list, mS_int, mS_bool, mS_str, mS_tuple, mS_list, mT_int, mT_bool, mT_str, mT_tuple, mT_list, mN_int, mN_bool, mN_str, mN_tuple, mN_list, anyT, anyF, Nat.zero_add, Nat.reduceAdd, Nat.reduceLeDiff, true_and]
            refine ⟨by omega, hN2 _ _ ⟨_, _, _, rfl, Sto.le_upd sq hle2, by rw [Sto.upd_ne qp.symm]; exact hE2, ?_⟩⟩
            have : grow T E a = true := by simp only [grow, haE, hg2]; rfl
            rw [Sto.upd_same, take_snoc ha, List.filter_append, nD_snoc]
            simp [List.filter_cons, this]
          · rw [if_neg hg2]
            refine hN2 _ _ ⟨_, _, _, rfl, hle2, hE2, ?_⟩
            have : grow T E a = false := by
              have : (sides T a).any (tst E) = false := by simpa using hg2
              simp only [grow, this, Bool.and_false]
            rw [take_snoc ha, List.filter_append]
            simp [List.filter_cons, this, hq2]
    · rintro σ S2 ⟨x5, x6, x7, rfl, hle2, hE2, hq2⟩
      rw [nD_len, List.take_length] at hq2
      simp only [wSs, wS, wT, wE, wEs, wO, wC, wI, wG, wGs, startD, List.map_cons, List.map_nil, List.length_cons, List.length_nil, List.replicate, List.cons_append, List.nil_append, List.append_nil, List.set_cons_zero, List.set_cons_succ, List.getElem?_cons_zero, List.getElem?_cons_succ, itT, wipeD, opAddI, opSubI, opMulI, opDivI, opModI, opPowI, opAddT, cmEq, cmNe, cmLt, cmLe, cmGt, cmGe, cmIn, eqI, eqS, inS2, truB, ixT0, ixT1, ixT2, ixT3, ixT4, ixT6, slcT, lenT, absI, intI, tupleT, listT, listRl, decide_true, decide_false, if_true, if_false, Bool.false_eq_true, reduceIte, decide_eq_true_eq, Bool.not_true, Bool.not_false, line, mI_int, mI_bool, mI_str, mI_tuple, mI_list, mB_int, mB_bool, mB_str, mB_tuple, mB_list, mS_int, mS_bool, mS_str, mS_tuple, mS_list, mT_int, mT_bool, mT_str, mT_tuple, mT_list, mN_int, mN_bool, mN_str, mN_tuple, mN_list, anyT, anyF, Nat.zero_add, Nat.reduceAdd, Nat.reduceLeDiff, true_and, opAddL hE2 hq2, nD_len, nD_append]
      have lf := List.length_filter_le (grow T E) M
      have lEE := lE EP
      refine ⟨by omega, fun p' hp' r hr => ?_⟩
      have sp' := le_none hle2 hp'
      have qp' : q ≠ p' := fun z => by subst z; rw [hq2] at hp'; cases hp'
      have rq' : r ≠ q := fun z => by
        subst z
        rw [Sto.upd_ne qp', hq2] at hr; cases hr
      have rp' : r ≠ p' := fun z => by subst z; rw [Sto.upd_same] at hr; cases hr
      have hq3 : ((S2.upd p' (.lst (nD (E ++ M.filter (grow T E))))).upd r (.lst [])) q = some (.lst (nD (M.filter (grow T E)))) := by
        rw [Sto.upd_ne rq'.symm, Sto.upd_ne qp']; exact hq2
      rw [eqNil hq3 nD_pure Sto.upd_same, nD_empty]
      have EM := EP.more hd
      have lEM := lE EM
      rw [List.length_append] at lEM
      refine hN n' _ _ rfl ⟨p', _, _, _, _, _, _, rfl, Sto.le_new' (Sto.le_new' hle2 hp') hr, sp', by rw [Sto.upd_ne rp'.symm, Sto.upd_same], EM, fun hz => ?_, ?_⟩
      · have : M.filter (grow T E) = [] := by
          cases h : M.filter (grow T E) with
          | nil => rfl
          | cons a l => rw [h] at hz; simp at hz
        rw [this, List.append_nil, this]
      · rw [List.length_append]
        cases h : M.filter (grow T E) with
        | nil => simp at hn ⊢; omega
        | cons a l => rw [h] at lEM; simp at hn lEM ⊢; omega
end K49
namespace K49
open PySem PySem.Spec PyProof.Rows L2 Mi
variable {k : Nat} {S : Sto} {Q : KD} {X : KX} {pp : Addr} {T : Tr} {s : Nat}
theorem cut1 {l : List D} : Mi.cutD l none (some 1) = l.take 1 := by
  cases l with
  | nil => simp [Mi.cutD]
  | cons a l =>
    have e1 : HT.sIx (a :: l).length 0 none = 0 := rfl
    have e2 : HT.sIx (a :: l).length (a :: l).length (some 1) = 1 := by
      simp [HT.sIx]
    unfold Mi.cutD
    rw [e1, e2]
    rfl
def outE (E : List Nat) (d : D) : Option D := if inD d (nD E) = true then none else some d
theorem outE_nD {E : List Nat} : ∀ {M : List Nat}, (nD M).filterMap (outE E) = nD (M.filter fun a => decide (a ∉ E))
  | [] => rfl
  | a :: l => by
    show List.filterMap (outE E) (.int (a : Int) :: nD l) = _
    rw [List.filterMap_cons, List.filter_cons]
    have e : outE E (.int (a : Int)) = if a ∈ E then none else some (.int (a : Int)) := by
      unfold outE
      rw [inD_nD]
      simp
    rw [e]
    by_cases h : a ∈ E
    · simp only [h, if_true, not_true, decide_false, Bool.false_eq_true, if_false]
      exact outE_nD
    · simp only [h, if_false, not_false_eq_true, decide_true, if_true]
      rw [outE_nD]; rfl
theorem stuck_ok (ok : TrOk T) (hs : s < T.length) (hk : 1 < k) (hQ : ∀ M E : List Nat, M.Pairwise (· < ·) → (∀ x, x ∈ M ↔ Rc T s x) → EndOk T M E → Q (.tup ((nD (M.filter fun a => decide (a ∉ E))).take 1)) S) : Γ k "stuck_node" [tD T, .int (s : Int)] S Q X := by
  cases k with
  | zero => omega
  | succ k =>
  refine gam (np := 2) (nn := 5) (b := b_stuck_node) rfl rfl ?_
  have l5 := ok.l5
  simp only [b_stuck_node, wSs, wS, wT, wE, wEs, wO, wC, wI, wG, wGs, startD, List.map_cons, List.map_nil, List.length_cons, List.length_nil, List.replicate, List.cons_append, List.nil_append, List.append_nil, List.set_cons_zero, List.set_cons_succ, List.getElem?_cons_zero, List.getElem?_cons_succ, itT, wipeD, opAddI, opSubI, opMulI, opDivI, opModI, opPowI, opAddT, cmEq, cmNe, cmLt, cmLe, cmGt, cmGe, cmIn, eqI, eqS, inS2, truB, ixT0, ixT1, ixT2, ixT3, ixT4, ixT6, slcT, lenT, absI, intI, tupleT, listT, listRl, decide_true, decide_false, if_true, if_false, Bool.false_eq_true, reduceIte, decide_eq_true_eq, Bool.not_true, Bool.not_false, line, mI_int, mI_bool, mI_str, mI_tuple, mI_list, mB_int, mB_bool, mB_str, mB_tuple, mB_list, mS_int, mS_bool, mS_str, mS_tuple, mS_list, mT_int, mT_bool, mT_str, mT_tuple, mT_list, mN_int, mN_bool, mN_str, mN_tuple, mN_list, anyT, anyF, Nat.zero_add, Nat.reduceAdd, Nat.reduceLeDiff, true_and]
  refine met_ok ok hs (by omega) fun pm M hpm hM1 hM2 => ?_
  have hMd := asc_nodup hM1
  have lt : ∀ x ∈ M, x < T.length := fun x hx => ((hM2 x).mp hx).lt ok hs
  refine ending_ok Sto.upd_same hMd lt l5 (by omega) fun p E hp hE => ?_
  have ppm : pm ≠ p := fun z => by subst z; rw [Sto.upd_same] at hp; cases hp
  have hM3 : ((S.upd pm (.lst (nD M))).upd p (.lst (nD E))) pm = some (.lst (nD M)) := by rw [Sto.upd_ne ppm, Sto.upd_same]
  have hE3 : ((S.upd pm (.lst (nD M))).upd p (.lst (nD E))) p = some (.lst (nD E)) := Sto.upd_same
  have lM := nodup_le hMd lt
  have hle : S.le ((S.upd pm (.lst (nD M))).upd p (.lst (nD E))) := Sto.le_new' (Sto.le_new hpm) hp
  generalize (S.upd pm (.lst (nD M))).upd p (.lst (nD E)) = S1 at *
  simp only [wSs, wS, wT, wE, wEs, wO, wC, wI, wG, wGs, startD, List.map_cons, List.map_nil, List.length_cons, List.length_nil, List.replicate, List.cons_append, List.nil_append, List.append_nil, List.set_cons_zero, List.set_cons_succ, List.getElem?_cons_zero, List.getElem?_cons_succ, itT, wipeD, opAddI, opSubI, opMulI, opDivI, opModI, opPowI, opAddT, cmEq, cmNe, cmLt, cmLe, cmGt, cmGe, cmIn, eqI, eqS, inS2, truB, ixT0, ixT1, ixT2, ixT3, ixT4, ixT6, slcT, lenT, absI, intI, tupleT, listT, listRl, decide_true, decide_false, if_true, if_false, Bool.false_eq_true, reduceIte, decide_eq_true_eq, Bool.not_true, Bool.not_false, line, mI_int, mI_bool, mI_str, mI_tuple, mI_list, mB_int, mB_bool, mB_str, mB_tuple, mB_list, mS_int, mS_bool, mS_str, mS_tuple, mS_list, mT_int, mT_bool, mT_str, mT_tuple, mT_list, mN_int, mN_bool, mN_str, mN_tuple, mN_list, anyT, anyF, Nat.zero_add, Nat.reduceAdd, Nat.reduceLeDiff, true_and, itL hM3]
  refine ⟨by rw [nD_len]; omega, ?_⟩
  refine cmpL_pure (outE E) hM3 (fun d hd P hP => ?_) ?_
  · obtain ⟨a, ha, rfl⟩ := List.mem_map.mp hd
    simp only [wSs, wS, wT, wE, wEs, wO, wC, wI, wG, wGs, startD, List.map_cons, List.map_nil, List.length_cons, List.length_nil, List.replicate, List.cons_append, List.nil_append, List.append_nil, List.set_cons_zero, List.set_cons_succ, List.getElem?_cons_zero, List.getElem?_cons_succ, itT, wipeD, opAddI, opSubI, opMulI, opDivI, opModI, opPowI, opAddT, cmEq, cmNe, cmLt, cmLe, cmGt, cmGe, cmIn, eqI, eqS, inS2, truB, ixT0, ixT1, ixT2, ixT3, ixT4, ixT6, slcT, lenT, absI, intI, tupleT, listT, listRl, decide_true, decide_false, if_true, if_false, Bool.false_eq_true, reduceIte, decide_eq_true_eq, Bool.not_true, Bool.not_false, line, mI_int, mI_bool, mI_str, mI_tuple, mI_list, mB_int, mB_bool, mB_str, mB_tuple, mB_list, mS_int, mS_bool, mS_str, mS_tuple, mS_list, mT_int, mT_bool, mT_str, mT_tuple, mT_list, mN_int, mN_bool, mN_str, mN_tuple, mN_list, anyT, anyF, Nat.zero_add, Nat.reduceAdd, Nat.reduceLeDiff, true_and, cmR, inN hE3, e_stuck_node_1]
    have e : outE E (.int (a : Int)) = if a ∈ E then none else some (.int (a : Int)) := by
      unfold outE
      rw [inD_nD]
      simp
    rw [e] at hP
    by_cases h : a ∈ E
    · simp only [h, opAddI, opSubI, opMulI, opDivI, opModI, opPowI, opAddT, cmEq, cmNe, cmLt, cmLe, cmGt, cmGe, cmIn, eqI, eqS, inS2, truB, ixT0, ixT1, ixT2, ixT3, ixT4, ixT6, slcT, lenT, absI, intI, tupleT, listT, listRl, decide_true, decide_false, if_true, if_false, Bool.false_eq_true, reduceIte, decide_eq_true_eq, Bool.not_true, Bool.not_false, line, mI_int, mI_bool, mI_str, mI_tuple, mI_list, mB_int, mB_bool, mB_str, mB_tuple, mB_list, mS_int, mS_bool, mS_str, mS_tuple, mS_list, mT_int, mT_bool, mT_str, mT_tuple, mT_list, mN_int, mN_bool, mN_str, mN_tuple, mN_list, anyT, anyF, Nat.zero_add, Nat.reduceAdd, Nat.reduceLeDiff, true_and] at hP ⊢
      exact hP
    · simp only [h, opAddI, opSubI, opMulI, opDivI, opModI, opPowI, opAddT, cmEq, cmNe, cmLt, cmLe, cmGt, cmGe, cmIn, eqI, eqS, inS2, truB, ixT0, ixT1, ixT2, ixT3, ixT4, ixT6, slcT, lenT, absI, intI, tupleT, listT, listRl, decide_true, decide_false, if_true, if_false, Bool.false_eq_true, reduceIte, decide_eq_true_eq, Bool.not_true, Bool.not_false, line, mI_int, mI_bool, mI_str, mI_tuple, mI_list, mB_int, mB_bool, mB_str, mB_tuple, mB_list, mS_int, mS_bool, mS_str, mS_tuple, mS_list, mT_int, mT_bool, mT_str, mT_tuple, mT_list, mN_int, mN_bool, mN_str, mN_tuple, mN_list, anyT, anyF, Nat.zero_add, Nat.reduceAdd, Nat.reduceLeDiff, true_and] at hP ⊢
      exact hP
  · rw [outE_nD]
    intro q hq
    simp only [wSs, wS, wT, wE, wEs, wO, wC, wI, wG, wGs, startD, List.map_cons, List.map_nil, List.length_cons, List.length_nil, List.replicate, List.cons_append, List.nil_append, List.append_nil, List.set_cons_zero, List.set_cons_succ, List.getElem?_cons_zero, List.getElem?_cons_succ, itT, wipeD, opAddI, opSubI, opMulI, opDivI, opModI, opPowI, opAddT, cmEq, cmNe, cmLt, cmLe, cmGt, cmGe, cmIn, eqI, eqS, inS2, truB, ixT0, ixT1, ixT2, ixT3, ixT4, ixT6, slcT, lenT, absI, intI, tupleT, listT, listRl, decide_true, decide_false, if_true, if_false, Bool.false_eq_true, reduceIte, decide_eq_true_eq, Bool.not_true, Bool.not_false, line, mI_int, mI_bool, mI_str, mI_tuple, mI_list, mB_int, mB_bool, mB_str, mB_tuple, mB_list, mS_int, mS_bool, mS_str, mS_tuple, mS_list, mT_int, mT_bool, mT_str, mT_tuple, mT_list, mN_int, mN_bool, mN_str, mN_tuple, mN_list, anyT, anyF, Nat.zero_add, Nat.reduceAdd, Nat.reduceLeDiff, true_and, slcL Sto.upd_same, cut1]
    intro r hr
    rw [tupleL Sto.upd_same]
    exact ⟨S, Sto.le_new' (Sto.le_new' hle hq) hr, hQ M E hM1 hM2 hE⟩
structure Rch (T : Tr) (s : Nat) (fs : List Nat) : Prop where
  nd : fs.Nodup
  rc : ∀ x ∈ fs, Rc T s x
  s0 : s ∈ fs
theorem Rch.add {fs : List Nat} {a j : Nat} (h : Rch T s fs) (ha : a ∈ fs) (hj : j ∈ succs T a) (hn : j ∉ fs) : Rch T s (fs ++ [j]) :=
  ⟨by
    rw [List.nodup_append]
    exact ⟨h.nd, by simp, fun x hx y hy => by rw [List.mem_singleton.mp hy]; intro z; exact hn (z ▸ hx)⟩,
  fun x hx => by
    rcases List.mem_append.mp hx with hx | hx
    · exact h.rc x hx
    · rw [List.mem_singleton.mp hx]
      exact (h.rc a ha).next hj,
  by simp [h.s0]⟩
theorem reach_ok (ok : TrOk T) (hs : s < T.length) (hk : 0 < k) (hQ : ∀ (p : Addr) (fs : List Nat), S p = none → fs.Nodup → (∀ x, x ∈ fs ↔ Rc T s x) → Q (.ref p) (S.upd p (.lst (nD fs)))) : Γ k "_law_reach" [tD T, .int (s : Int)] S Q X := by
  cases k with
  | zero => omega
  | succ k =>
  refine gam (np := 2) (nn := 7) (b := b__law_reach) rfl rfl ?_
  have l5 := ok.l5
  have hl : bltR .len [tD T] = fun S' Q' => Q' (.int (T.length : Int)) S' := by
    funext S' Q'
    unfold tD
    rw [lenT, List.length_map]
  simp only [b__law_reach, wSs, wS, wT, wE, wEs, wO, wC, wI, wG, wGs, startD, List.map_cons, List.map_nil, List.length_cons, List.length_nil, List.replicate, List.cons_append, List.nil_append, List.append_nil, List.set_cons_zero, List.set_cons_succ, List.getElem?_cons_zero, List.getElem?_cons_succ, itT, wipeD, opAddI, opSubI, opMulI, opDivI, opModI, opPowI, opAddT, cmEq, cmNe, cmLt, cmLe, cmGt, cmGe, cmIn, eqI, eqS, inS2, truB, ixT0, ixT1, ixT2, ixT3, ixT4, ixT6, slcT, lenT, absI, intI, tupleT, listT, listRl, decide_true, decide_false, if_true, if_false, Bool.false_eq_true, reduceIte, decide_eq_true_eq, Bool.not_true, Bool.not_false, line, mI_int, mI_bool, mI_str, mI_tuple, mI_list, mB_int, mB_bool, mB_str, mB_tuple, mB_list, mS_int, mS_bool, mS_str, mS_tuple, mS_list, mT_int, mT_bool, mT_str, mT_tuple, mT_list, mN_int, mN_bool, mN_str, mN_tuple, mN_list, anyT, anyF, Nat.zero_add, Nat.reduceAdd, Nat.reduceLeDiff, true_and, hl]
  intro p hp
  refine ⟨by unfold inB; omega, ?_⟩
  have ltm : ∀ {fs : List Nat}, Rch T s fs → fs.length ≤ T.length := fun h => nodup_le h.nd fun x hx => (h.rc x hx).lt ok hs
  have hr0 : Rch T s [s] := ⟨by simp, fun x hx => by rw [List.mem_singleton.mp hx]; exact .self, by simp⟩
  rw [Int.toNat_natCast]
  refine forL_inv (rngD 0 T.length) (fun i σ S' => ∃ fs x3 x4 x5 x6, σ = [some (tD T), some (.int (s : Int)), some (.ref p), x3, x4, x5, x6] ∧ S.le S' ∧ S' p = some (.lst (nD fs)) ∧ Rch T s fs ∧ ((∀ x ∈ fs, ∀ j ∈ succs T x, j ∈ fs) ∨ i + 1 ≤ fs.length)) (fun _ _ _ _ => trivial) ?_ ?_
    ⟨[s], _, _, _, _, rfl, Sto.le_new hp, Sto.upd_same, hr0, .inr (by simp)⟩
  · rintro i d σ S1 NX hd ⟨gs, x3, x4, x5, x6, rfl, hle, hgs, G, hc⟩ hN
    simp only [s__law_reach_3, wSs, wS, wT, wE, wEs, wO, wC, wI, wG, wGs, startD, List.map_cons, List.map_nil, List.length_cons, List.length_nil, List.replicate, List.cons_append, List.nil_append, List.append_nil, List.set_cons_zero, List.set_cons_succ, List.getElem?_cons_zero, List.getElem?_cons_succ, itT, wipeD, opAddI, opSubI, opMulI, opDivI, opModI, opPowI, opAddT, cmEq, cmNe, cmLt, cmLe, cmGt, cmGe, cmIn, eqI, eqS, inS2, truB, ixT0, ixT1, ixT2, ixT3, ixT4, ixT6, slcT, lenT, absI, intI, tupleT, listT, listRl, decide_true, decide_false, if_true, if_false, Bool.false_eq_true, reduceIte, decide_eq_true_eq, Bool.not_true, Bool.not_false, line, mI_int, mI_bool, mI_str, mI_tuple, mI_list, mB_int, mB_bool, mB_str, mB_tuple, mB_list, mS_int, mS_bool, mS_str, mS_tuple, mS_list, mT_int, mT_bool, mT_str, mT_tuple, mT_list, mN_int, mN_bool, mN_str, mN_tuple, mN_list, anyT, anyF, Nat.zero_add, Nat.reduceAdd, Nat.reduceLeDiff, true_and, listL hgs]
    intro q hq
    have sq := le_none hle hq
    have qp : q ≠ p := fun z => by subst z; rw [hq] at hgs; cases hgs
    rw [itL Sto.upd_same]
    refine forL_inv (nD gs) (fun j σ S2 => ∃ ex x4 x5 x6, σ = [some (tD T), some (.int (s : Int)), some (.ref p), some d, x4, x5, x6] ∧ S.le S2 ∧ S2 q = some (.lst (nD gs)) ∧ S2 p = some (.lst (nD (gs ++ ex))) ∧ Rch T s (gs ++ ex) ∧ (∀ x ∈ ex, ∃ y ∈ gs, x ∈ succs T y) ∧ ∀ y ∈ gs.take j, ∀ x ∈ succs T y, x ∈ gs ++ ex) (fun _ _ _ ⟨_, _, _, _, _, _, h, _⟩ => h) ?_ ?_
      ⟨[], _, _, _, rfl, Sto.le_new' hle hq, Sto.upd_same, by rw [Sto.upd_ne qp.symm, List.append_nil]; exact hgs, by rw [List.append_nil]; exact G, by simp, by simp⟩
    · rintro j d2 σ S2 NX2 hd2 ⟨ex, x4, x5, x6, rfl, hle2, hq2, hp2, R2, hex, hcl⟩ hN2
      unfold nD at hd2
      rw [List.getElem?_map, Option.map_eq_some_iff] at hd2
      obtain ⟨a, ha, rfl⟩ := hd2
      have hag := List.mem_of_getElem? ha
      have hal := (G.rc a hag).lt ok hs
      simp only [s__law_reach_2, wSs, wS, wT, wE, wEs, wO, wC, wI, wG, wGs, startD, List.map_cons, List.map_nil, List.length_cons, List.length_nil, List.replicate, List.cons_append, List.nil_append, List.append_nil, List.set_cons_zero, List.set_cons_succ, List.getElem?_cons_zero, List.getElem?_cons_succ, itT, wipeD, opAddI, opSubI, opMulI, opDivI, opModI, opPowI, opAddT, cmEq, cmNe, cmLt, cmLe, cmGt, cmGe, cmIn, eqI, eqS, inS2, truB, ixT0, ixT1, ixT2, ixT3, ixT4, ixT6, slcT, lenT, absI, intI, tupleT, listT, listRl, decide_true, decide_false, if_true, if_false, Bool.false_eq_true, reduceIte, decide_eq_true_eq, Bool.not_true, Bool.not_false, line, mI_int, mI_bool, mI_str, mI_tuple, mI_list, mB_int, mB_bool, mB_str, mB_tuple, mB_list, mS_int, mS_bool, mS_str, mS_tuple, mS_list, mT_int, mT_bool, mT_str, mT_tuple, mT_list, mN_int, mN_bool, mN_str, mN_tuple, mN_list, anyT, anyF, Nat.zero_add, Nat.reduceAdd, Nat.reduceLeDiff, true_and, ix_tree hal]
      refine forL_inv ((sides T a).map sD) (fun m σ S2 => ∃ ex x5 x6, σ = [some (tD T), some (.int (s : Int)), some (.ref p), some d, some (.int (a : Int)), x5, x6] ∧ S.le S2 ∧ S2 q = some (.lst (nD gs)) ∧ S2 p = some (.lst (nD (gs ++ ex))) ∧ Rch T s (gs ++ ex) ∧ (∀ x ∈ ex, ∃ y ∈ gs, x ∈ succs T y) ∧ (∀ y ∈ gs.take j, ∀ x ∈ succs T y, x ∈ gs ++ ex) ∧ ∀ x, Sd.node x ∈ (sides T a).take m → x ∈ gs ++ ex) (fun _ _ _ _ => trivial) ?_ ?_
        ⟨ex, _, _, rfl, hle2, hq2, hp2, R2, hex, hcl, by simp⟩
      · rintro m d3 σ S3 NX3 hd3 ⟨ex, x5, x6, rfl, hle3, hq3, hp3, R3, hex3, hcl3, hs3⟩ hN3
        rw [List.getElem?_map, Option.map_eq_some_iff] at hd3
        obtain ⟨d3, hd3, rfl⟩ := hd3
        have skip : (∀ x, d3 = .node x → x ∈ gs ++ ex) → ∀ x, Sd.node x ∈ (sides T a).take (m + 1) → x ∈ gs ++ ex := fun h x hx => by
          rw [take_snoc hd3] at hx
          rcases List.mem_append.mp hx with hx | hx
          · exact hs3 x hx
          · exact h x (List.mem_singleton.mp hx).symm
        cases d3 with
        | tell t =>
          have e3 : decide (("tell" : Str) = ("node" : Str)) = false := by decide
          simp only [sD, s__law_reach_1, wSs, wS, wT, wE, wEs, wO, wC, wI, wG, wGs, startD, List.map_cons, List.map_nil, List.length_cons, List.length_nil, List.replicate, List.cons_append, List.nil_append, List.append_nil, List.set_cons_zero, List.set_cons_succ, List.getElem?_cons_zero, List.getElem?_cons_succ, itT, wipeD, opAddI, opSubI, opMulI, opDivI, opModI, opPowI, opAddT, cmEq, cmNe, cmLt, cmLe, cmGt, cmGe, cmIn, eqI, eqS, inS2, truB, ixT0, ixT1, ixT2, ixT3, ixT4, ixT6, slcT, lenT, absI, intI, tupleT, listT, listRl, decide_true, decide_false, if_true, if_false, Bool.false_eq_true, reduceIte, decide_eq_true_eq, Bool.not_true, Bool.not_false, line, mI_int, mI_bool, mI_str, mI_tuple, mI_list, mB_int, mB_bool, mB_str, mB_tuple, mB_list, mS_int, mS_bool, mS_str, mS_tuple, mS_list, mT_int, mT_bool, mT_str, mT_tuple, mT_list, mN_int, mN_bool, mN_str, mN_tuple, mN_list, anyT, anyF, Nat.zero_add, Nat.reduceAdd, Nat.reduceLeDiff, true_and, e3]
          exact hN3 _ _ ⟨ex, _, _, rfl, hle3, hq3, hp3, R3, hex3, hcl3, skip fun x e => nomatch e⟩
        | node x =>
          simp only [sD, s__law_reach_1, wSs, wS, wT, wE, wEs, wO, wC, wI, wG, wGs, startD, List.map_cons, List.map_nil, List.length_cons, List.length_nil, List.replicate, List.cons_append, List.nil_append, List.append_nil, List.set_cons_zero, List.set_cons_succ, List.getElem?_cons_zero, List.getElem?_cons_succ, itT, wipeD, opAddI, opSubI, opMulI, opDivI, opModI, opPowI, opAddT, cmEq, cmNe, cmLt, cmLe, cmGt, cmGe, cmIn, eqI, eqS, inS2, truB, ixT0, ixT1, ixT2, ixT3, ixT4, ixT6, slcT, lenT, absI, intI, tupleT, listT, listRl, decide_true, decide_false, if_true, if_false, Bool.false_eq_true, reduceIte, decide_eq_true_eq, Bool.not_true, Bool.not_false, line, mI_int, mI_bool, mI_str, mI_tuple, mI_list, mB_int, mB_bool, mB_str, mB_tuple, mB_list, mS_int, mS_bool, mS_str, mS_tuple, mS_list, mT_int, mT_bool, mT_str, mT_tuple, mT_list, mN_int, mN_bool, mN_str, mN_tuple, mN_list, anyT, anyF, Nat.zero_add, Nat.reduceAdd, Nat.reduceLeDiff, true_and, cmR, inN hp3]
          by_cases hx : x ∈ gs ++ ex
          · simp only [hx, opAddI, opSubI, opMulI, opDivI, opModI, opPowI, opAddT, cmEq, cmNe, cmLt, cmLe, cmGt, cmGe, cmIn, eqI, eqS, inS2, truB, ixT0, ixT1, ixT2, ixT3, ixT4, ixT6, slcT, lenT, absI, intI, tupleT, listT, listRl, decide_true, decide_false, if_true, if_false, Bool.false_eq_true, reduceIte, decide_eq_true_eq, Bool.not_true, Bool.not_false, line, mI_int, mI_bool, mI_str, mI_tuple, mI_list, mB_int, mB_bool, mB_str, mB_tuple, mB_list, mS_int, mS_bool, mS_str, mS_tuple, mS_list, mT_int, mT_bool, mT_str, mT_tuple, mT_list, mN_int, mN_bool, mN_str, mN_tuple, mN_list, anyT, anyF, Nat.zero_add, Nat.reduceAdd, Nat.reduceLeDiff, true_and]
            exact hN3 _ _ ⟨ex, _, _, rfl, hle3, hq3, hp3, R3, hex3, hcl3, skip fun x' e => by cases e; exact hx⟩
          · have hxs : x ∈ succs T a := mem_nodes.mpr (List.mem_of_getElem? hd3)
            have R4 := R3.add (List.mem_append.mpr (.inl hag)) hxs hx
            have lR := ltm R4
            simp at lR
            simp only [hx, opAddI, opSubI, opMulI, opDivI, opModI, opPowI, opAddT, cmEq, cmNe, cmLt, cmLe, cmGt, cmGe, cmIn, eqI, eqS, inS2, truB, ixT0, ixT1, ixT2, ixT3, ixT4, ixT6, slcT, lenT, absI, intI, tupleT, listT, listRl, decide_true, decide_false, if_true, if_false, Bool.false_eq_true, reduceIte, decide_eq_true_eq, Bool.not_true, Bool.not_false, line, mI_int, mI_bool, mI_str, mI_tuple, mI_list, mB_int, mB_bool, mB_str, mB_tuple, mB_list, mS_int, mS_bool, mS_str, mS_tuple, mS_list, mT_int, mT_bool, mT_str, mT_tuple, mT_list, mN_int, mN_bool, mN_str, mN_tuple, mN_list, anyT, anyF, Nat.zero_add, Nat.reduceAdd, Nat.reduceLeDiff, true_and, mtyA hp3, appL hp3, nD_snoc, nD_len, List.append_assoc]
            refine ⟨by rw [List.length_append]; omega, hN3 _ _ ⟨ex ++ [x], _, _, rfl, Sto.le_upd hp hle3, by rw [Sto.upd_ne qp]; exact hq3, Sto.upd_same, by rw [← List.append_assoc]; exact R4, fun y hy => ?_, fun y hy z hz => ?_, fun y hy => ?_⟩⟩
            · rcases List.mem_append.mp hy with hy | hy
              · exact hex3 y hy
              · rw [List.mem_singleton.mp hy]; exact ⟨a, hag, hxs⟩
            · have := hcl3 y hy z hz
              rw [← List.append_assoc]
              exact List.mem_append.mpr (.inl this)
            · rw [← List.append_assoc]
              rw [take_snoc hd3] at hy
              rcases List.mem_append.mp hy with hy | hy
              · exact List.mem_append.mpr (.inl (hs3 y hy))
              · have := List.mem_singleton.mp hy
                cases this
                simp
      · rintro σ S3 ⟨ex, x5, x6, rfl, hle3, hq3, hp3, R3, hex3, hcl3, hs3⟩
        rw [List.length_map, List.take_length] at hs3
        refine hN2 _ _ ⟨ex, _, _, _, rfl, hle3, hq3, hp3, R3, hex3, fun y hy x hx => ?_⟩
        rw [take_snoc ha] at hy
        rcases List.mem_append.mp hy with hy | hy
        · exact hcl3 y hy x hx
        · rw [List.mem_singleton.mp hy] at hx
          exact hs3 x (mem_nodes.mp hx)
    · rintro σ S2 ⟨ex, x4, x5, x6, rfl, hle2, hq2, hp2, R2, hex, hcl⟩
      rw [nD_len, List.take_length] at hcl
      refine hN _ _ ⟨gs ++ ex, _, _, _, _, rfl, hle2, hp2, R2, ?_⟩
      cases ex with
      | nil =>
        rw [List.append_nil] at hcl ⊢
        exact .inl hcl
      | cons e ex =>
        rcases hc with hc | hc
        · obtain ⟨y, hy, hx⟩ := hex e (by simp)
          have := hc y hy e hx
          have nd := R2.nd
          rw [List.nodup_append] at nd
          exact absurd rfl (nd.2.2 e this e (by simp))
        · exact .inr (by simp; omega)
  · rintro σ S1 ⟨fs, x3, x4, x5, x6, rfl, hle, hfs, G, hc⟩
    have hlr : (rngD 0 T.length).length = T.length := by simp [rngD]
    rw [hlr] at hc
    simp only [wSs, wS, wT, wE, wEs, wO, wC, wI, wG, wGs, startD, List.map_cons, List.map_nil, List.length_cons, List.length_nil, List.replicate, List.cons_append, List.nil_append, List.append_nil, List.set_cons_zero, List.set_cons_succ, List.getElem?_cons_zero, List.getElem?_cons_succ, itT, wipeD, opAddI, opSubI, opMulI, opDivI, opModI, opPowI, opAddT, cmEq, cmNe, cmLt, cmLe, cmGt, cmGe, cmIn, eqI, eqS, inS2, truB, ixT0, ixT1, ixT2, ixT3, ixT4, ixT6, slcT, lenT, absI, intI, tupleT, listT, listRl, decide_true, decide_false, if_true, if_false, Bool.false_eq_true, reduceIte, decide_eq_true_eq, Bool.not_true, Bool.not_false, line, mI_int, mI_bool, mI_str, mI_tuple, mI_list, mB_int, mB_bool, mB_str, mB_tuple, mB_list, mS_int, mS_bool, mS_str, mS_tuple, mS_list, mT_int, mT_bool, mT_str, mT_tuple, mT_list, mN_int, mN_bool, mN_str, mN_tuple, mN_list, anyT, anyF, Nat.zero_add, Nat.reduceAdd, Nat.reduceLeDiff, true_and]
    have lf := ltm G
    have cl : ∀ x ∈ fs, ∀ j ∈ succs T x, j ∈ fs := by
      rcases hc with hc | hc
      · exact hc
      · omega
    refine ⟨S.upd p (.lst (nD fs)), fun a c e => ?_, hQ p fs hp G.nd fun x => ⟨G.rc x, fun h => h.sub G.s0 cl⟩⟩
    by_cases ha : a = p
    · subst ha; rw [Sto.upd_same] at e; cases e; exact hfs
    · rw [Sto.upd_ne ha] at e; exact hle a c e
end K49
namespace K49
open PySem PySem.Spec PyProof.Rows L2 Mi
variable {k : Nat} {S : Sto} {Q : KD} {X : KX} {pp : Addr} {T : Tr} {s : Nat}
def kd : Sd → Str
  | .tell _ => "tell"
  | .node _ => "node"
def sS (l : List Str) : List D := l.map D.str
theorem sS_flat {l : List Str} : (sS l).all flatD = true := by
  rw [List.all_eq_true]
  intro d hd
  obtain ⟨n, _, rfl⟩ := List.mem_map.mp hd
  rfl
theorem inD_sS {z : Str} : ∀ {l : List Str}, inD (.str z) (sS l) = decide (z ∈ l)
  | [] => rfl
  | a :: l => by
    show (D.eqv (.str a) (.str z) || inD (.str z) (sS l)) = _
    rw [inD_sS]
    by_cases e : z = a
    · subst e; simp [D.eqv]
    · have : ¬ a = z := fun h => e h.symm
      simp [D.eqv, e, this]
theorem inS {p : Addr} {l : List Str} {z : Str} {QB : Bool → Prop} (h : S p = some (.lst (sS l))) : Mi.inR (.str z) (.ref p) S QB = QB (decide (z ∈ l)) := by
  simp only [Mi.inR, h, sS_flat, inD_sS, flatD, true_and]
theorem kd_map {l : List Sd} : (l.map sD).filterMap (fun d => match d with | .tup (x :: _) => some x | _ => none) = sS (l.map kd) := by
  induction l with
  | nil => rfl
  | cons d l ih =>
    rw [List.map_cons, List.filterMap_cons, List.map_cons]
    cases d <;> (simp only [sD, kd]; rw [ih]; rfl)
def kds (T : Tr) (fs : List Nat) : List Str := fs.flatMap fun y => (sides T y).map kd
theorem kds_len {fs : List Nat} (h : ∀ y ∈ fs, y < T.length) : (kds T fs).length ≤ 2 * fs.length := by
  induction fs with
  | nil => simp [kds]
  | cons a l ih =>
    have := ih fun y hy => h y (by simp [hy])
    obtain ⟨x, y, e⟩ := sides_two (h a (by simp))
    unfold kds at *
    rw [List.flatMap_cons, List.length_append, e, List.length_cons]
    show 2 + _ ≤ _
    omega
theorem kds_tell {fs : List Nat} : ("tell" : Str) ∈ kds T fs ↔ ∃ y ∈ fs, ∃ n, Sd.tell n ∈ sides T y := by
  unfold kds
  rw [List.mem_flatMap]
  constructor
  · rintro ⟨y, hy, h⟩
    obtain ⟨d, hd, e⟩ := List.mem_map.mp h
    cases d with
    | tell n => exact ⟨y, hy, n, hd⟩
    | node j => exact absurd (show ("node" : Str) = ("tell" : Str) from e) (by decide)
  · rintro ⟨y, hy, n, h⟩
    exact ⟨y, hy, List.mem_map.mpr ⟨_, h, rfl⟩⟩
theorem lstuck_ok (ok : TrOk T) (hk : 1 < k) (hQ1 : ∀ a : Nat, Rc T 0 a → ¬ Tl T a → (∀ b, Rc T 0 b → b < a → Tl T b) → Q (.int (a : Int)) S) (hQ2 : (∀ b, Rc T 0 b → Tl T b) → Q (.int (-1)) S) : Γ k "_law_stuck" [tD T] S Q X := by
  cases k with
  | zero => omega
  | succ k =>
  refine gam (np := 1) (nn := 6) (b := b__law_stuck) rfl rfl ?_
  have l5 := ok.l5
  simp only [b__law_stuck, wSs, wS, wT, wE, wEs, wO, wC, wI, wG, wGs, startD, List.map_cons, List.map_nil, List.length_cons, List.length_nil, List.replicate, List.cons_append, List.nil_append, List.append_nil, List.set_cons_zero, List.set_cons_succ, List.getElem?_cons_zero, List.getElem?_cons_succ, itT, wipeD, opAddI, opSubI, opMulI, opDivI, opModI, opPowI, opAddT, cmEq, cmNe, cmLt, cmLe, cmGt, cmGe, cmIn, eqI, eqS, inS2, truB, ixT0, ixT1, ixT2, ixT3, ixT4, ixT6, slcT, lenT, absI, intI, tupleT, listT, listRl, decide_true, decide_false, if_true, if_false, Bool.false_eq_true, reduceIte, decide_eq_true_eq, Bool.not_true, Bool.not_false, line, mI_int, mI_bool, mI_str, mI_tuple, mI_list, mB_int, mB_bool, mB_str, mB_tuple, mB_list, mS_int, mS_bool, mS_str, mS_tuple, mS_list, mT_int, mT_bool, mT_str, mT_tuple, mT_list, mN_int, mN_bool, mN_str, mN_tuple, mN_list, anyT, anyF, Nat.zero_add, Nat.reduceAdd, Nat.reduceLeDiff, true_and]
  refine reach_ok (s := 0) ok ok.l0 (by omega) fun p fs hp hnd hrc => ?_
  have lf := nodup_le hnd fun x hx => ((hrc x).mp hx).lt ok ok.l0
  rw [sortN Sto.upd_same (by omega)]
  intro q hq
  obtain ⟨M, M1, M2, M3⟩ := srt_nat hnd
  rw [M3, itL Sto.upd_same]
  have hM : ∀ x, x ∈ M ↔ Rc T 0 x := fun x => (M2 x).trans (hrc x)
  refine forL_inv (nD M) (fun i σ S' => ∃ x1 x2 x3 x4 x5, σ = [some (tD T), x1, x2, x3, x4, x5] ∧ S.le S' ∧ S' q = some (.lst (nD M)) ∧ ∀ x ∈ M.take i, Tl T x) (fun _ _ _ ⟨_, _, _, _, _, _, _, h, _⟩ => h) ?_ ?_
    ⟨_, _, _, _, _, rfl, Sto.le_new' (Sto.le_new hp) hq, Sto.upd_same, by simp⟩
  · rintro i d σ S1 NX hd ⟨x1, x2, x3, x4, x5, rfl, hle, hq1, hT⟩ hN
    unfold nD at hd
    rw [List.getElem?_map, Option.map_eq_some_iff] at hd
    obtain ⟨a, ha, rfl⟩ := hd
    have haM := List.mem_of_getElem? ha
    have hal := ((hM a).mp haM).lt ok ok.l0
    simp only [s__law_stuck_3, wSs, wS, wT, wE, wEs, wO, wC, wI, wG, wGs, startD, List.map_cons, List.map_nil, List.length_cons, List.length_nil, List.replicate, List.cons_append, List.nil_append, List.append_nil, List.set_cons_zero, List.set_cons_succ, List.getElem?_cons_zero, List.getElem?_cons_succ, itT, wipeD, opAddI, opSubI, opMulI, opDivI, opModI, opPowI, opAddT, cmEq, cmNe, cmLt, cmLe, cmGt, cmGe, cmIn, eqI, eqS, inS2, truB, ixT0, ixT1, ixT2, ixT3, ixT4, ixT6, slcT, lenT, absI, intI, tupleT, listT, listRl, decide_true, decide_false, if_true, if_false, Bool.false_eq_true, reduceIte, decide_eq_true_eq, Bool.not_true, Bool.not_false, line, mI_int, mI_bool, mI_str, mI_tuple, mI_list, mB_int, mB_bool, mB_str, mB_tuple, mB_list, mS_int, mS_bool, mS_str, mS_tuple, mS_list, mT_int, mT_bool, mT_str, mT_tuple, mT_list, mN_int, mN_bool, mN_str, mN_tuple, mN_list, anyT, anyF, Nat.zero_add, Nat.reduceAdd, Nat.reduceLeDiff, true_and]
    intro r hr
    have hle1 : S.le (S1.upd r (.lst [])) := Sto.le_new' hle hr
    have rq : q ≠ r := fun z => by subst z; rw [hr] at hq1; cases hq1
    have hq2 : (S1.upd r (.lst [])) q = some (.lst (nD M)) := by rw [Sto.upd_ne rq]; exact hq1
    have hr2 : (S1.upd r (.lst [])) r = some (.lst (sS (kds T []))) := Sto.upd_same
    generalize S1.upd r (.lst []) = S2 at *
    refine reach_ok ok hal (by omega) fun u gs hu gnd grc => ?_
    have su := le_none hle1 hu
    have gl : ∀ y ∈ gs, y < T.length := fun y hy => ((grc y).mp hy).lt ok hal
    have lg := nodup_le gnd gl
    rw [itL Sto.upd_same]
    refine forL_inv (nD gs) (fun j σ S' => ∃ v x3 x4 x5, σ = [some (tD T), some (.int (a : Int)), some (.ref v), x3, x4, x5] ∧ S.le S' ∧ S' q = some (.lst (nD M)) ∧ S' u = some (.lst (nD gs)) ∧ S' v = some (.lst (sS (kds T (gs.take j))))) (fun _ _ _ ⟨_, _, _, _, _, _, _, h, _⟩ => h) ?_ ?_
      ⟨r, _, _, _, rfl, Sto.le_new' hle1 hu, by
        have : q ≠ u := fun z => by subst z; rw [hu] at hq2; cases hq2
        rw [Sto.upd_ne this]; exact hq2, Sto.upd_same, by
        have : r ≠ u := fun z => by subst z; rw [hu] at hr2; cases hr2
        rw [Sto.upd_ne this]; exact hr2⟩
    · rintro j d σ S3 NX3 hd ⟨v, x3, x4, x5, rfl, hle3, hq3, hu3, hv3⟩ hN3
      unfold nD at hd
      rw [List.getElem?_map, Option.map_eq_some_iff] at hd
      obtain ⟨y, hy, rfl⟩ := hd
      have hyg := List.mem_of_getElem? hy
      have hyl := gl y hyg
      simp only [s__law_stuck_2, wSs, wS, wT, wE, wEs, wO, wC, wI, wG, wGs, startD, List.map_cons, List.map_nil, List.length_cons, List.length_nil, List.replicate, List.cons_append, List.nil_append, List.append_nil, List.set_cons_zero, List.set_cons_succ, List.getElem?_cons_zero, List.getElem?_cons_succ, itT, wipeD, opAddI, opSubI, opMulI, opDivI, opModI, opPowI, opAddT, cmEq, cmNe, cmLt, cmLe, cmGt, cmGe, cmIn, eqI, eqS, inS2, truB, ixT0, ixT1, ixT2, ixT3, ixT4, ixT6, slcT, lenT, absI, intI, tupleT, listT, listRl, decide_true, decide_false, if_true, if_false, Bool.false_eq_true, reduceIte, decide_eq_true_eq, Bool.not_true, Bool.not_false, line, mI_int, mI_bool, mI_str, mI_tuple, mI_list, mB_int, mB_bool, mB_str, mB_tuple, mB_list, mS_int, mS_bool, mS_str, mS_tuple, mS_list, mT_int, mT_bool, mT_str, mT_tuple, mT_list, mN_int, mN_bool, mN_str, mN_tuple, mN_list, anyT, anyF, Nat.zero_add, Nat.reduceAdd, Nat.reduceLeDiff, true_and, ix_tree hyl]
      refine ⟨by
        obtain ⟨x, z, e⟩ := sides_two hyl
        rw [e, List.length_map]
        show 2 ≤ 16777216
        decide, ?_⟩
      refine cmpL_pure (fun d => match d with | .tup (x :: _) => some x | _ => none) trivial (fun d hd P hP => ?_) ?_
      · obtain ⟨d, hd, rfl⟩ := List.mem_map.mp hd
        cases d with
        | tell t => simp only [sD, wSs, wS, wT, wE, wEs, wO, wC, wI, wG, wGs, startD, List.map_cons, List.map_nil, List.length_cons, List.length_nil, List.replicate, List.cons_append, List.nil_append, List.append_nil, List.set_cons_zero, List.set_cons_succ, List.getElem?_cons_zero, List.getElem?_cons_succ, itT, wipeD, opAddI, opSubI, opMulI, opDivI, opModI, opPowI, opAddT, cmEq, cmNe, cmLt, cmLe, cmGt, cmGe, cmIn, eqI, eqS, inS2, truB, ixT0, ixT1, ixT2, ixT3, ixT4, ixT6, slcT, lenT, absI, intI, tupleT, listT, listRl, decide_true, decide_false, if_true, if_false, Bool.false_eq_true, reduceIte, decide_eq_true_eq, Bool.not_true, Bool.not_false, line, mI_int, mI_bool, mI_str, mI_tuple, mI_list, mB_int, mB_bool, mB_str, mB_tuple, mB_list, mS_int, mS_bool, mS_str, mS_tuple, mS_list, mT_int, mT_bool, mT_str, mT_tuple, mT_list, mN_int, mN_bool, mN_str, mN_tuple, mN_list, anyT, anyF, Nat.zero_add, Nat.reduceAdd, Nat.reduceLeDiff, true_and, e__law_stuck_1] at hP ⊢; exact hP
        | node t => simp only [sD, wSs, wS, wT, wE, wEs, wO, wC, wI, wG, wGs, startD, List.map_cons, List.map_nil, List.length_cons, List.length_nil, List.replicate, List.cons_append, List.nil_append, List.append_nil, List.set_cons_zero, List.set_cons_succ, List.getElem?_cons_zero, List.getElem?_cons_succ, itT, wipeD, opAddI, opSubI, opMulI, opDivI, opModI, opPowI, opAddT, cmEq, cmNe, cmLt, cmLe, cmGt, cmGe, cmIn, eqI, eqS, inS2, truB, ixT0, ixT1, ixT2, ixT3, ixT4, ixT6, slcT, lenT, absI, intI, tupleT, listT, listRl, decide_true, decide_false, if_true, if_false, Bool.false_eq_true, reduceIte, decide_eq_true_eq, Bool.not_true, Bool.not_false, line, mI_int, mI_bool, mI_str, mI_tuple, mI_list, mB_int, mB_bool, mB_str, mB_tuple, mB_list, mS_int, mS_bool, mS_str, mS_tuple, mS_list, mT_int, mT_bool, mT_str, mT_tuple, mT_list, mN_int, mN_bool, mN_str, mN_tuple, mN_list, anyT, anyF, Nat.zero_add, Nat.reduceAdd, Nat.reduceLeDiff, true_and, e__law_stuck_1] at hP ⊢; exact hP
      · rw [kd_map]
        intro w hw
        have vw : v ≠ w := fun z => by subst z; rw [hw] at hv3; cases hv3
        have hv4 : (S3.upd w (.lst (sS ((sides T y).map kd)))) v = some (.lst (sS (kds T (gs.take j)))) := by rw [Sto.upd_ne vw]; exact hv3
        have qw : q ≠ w := fun z => by subst z; rw [hw] at hq3; cases hq3
        have uw : u ≠ w := fun z => by subst z; rw [hw] at hu3; cases hu3
        rw [opAddL hv4 Sto.upd_same]
        have k1 := kds_len (T := T) (fs := gs.take j) fun y hy => gl y (List.mem_of_mem_take hy)
        have k2 : ((sides T y).map kd).length = 2 := by
          obtain ⟨x, z, e⟩ := sides_two hyl
          rw [e]; rfl
        have k3 : (gs.take j).length ≤ gs.length := by rw [List.length_take]; omega
        refine ⟨by unfold sS; rw [List.length_map, List.length_map, k2, line]; omega, fun w2 hw2 => ?_⟩
        have qw2 : q ≠ w2 := fun z => by subst z; rw [Sto.upd_ne qw, hq3] at hw2; cases hw2
        have uw2 : u ≠ w2 := fun z => by subst z; rw [Sto.upd_ne uw, hu3] at hw2; cases hw2
        refine hN3 _ _ ⟨w2, _, _, _, rfl, Sto.le_new' (Sto.le_new' hle3 hw) hw2, by rw [Sto.upd_ne qw2, Sto.upd_ne qw]; exact hq3, by rw [Sto.upd_ne uw2, Sto.upd_ne uw]; exact hu3, ?_⟩
        rw [Sto.upd_same, take_snoc hy]
        unfold kds sS
        rw [List.flatMap_append, List.map_append]
        simp
    · rintro σ S3 ⟨v, x3, x4, x5, rfl, hle3, hq3, hu3, hv3⟩
      rw [nD_len, List.take_length] at hv3
      simp only [wSs, wS, wT, wE, wEs, wO, wC, wI, wG, wGs, startD, List.map_cons, List.map_nil, List.length_cons, List.length_nil, List.replicate, List.cons_append, List.nil_append, List.append_nil, List.set_cons_zero, List.set_cons_succ, List.getElem?_cons_zero, List.getElem?_cons_succ, itT, wipeD, opAddI, opSubI, opMulI, opDivI, opModI, opPowI, opAddT, cmEq, cmNe, cmLt, cmLe, cmGt, cmGe, cmIn, eqI, eqS, inS2, truB, ixT0, ixT1, ixT2, ixT3, ixT4, ixT6, slcT, lenT, absI, intI, tupleT, listT, listRl, decide_true, decide_false, if_true, if_false, Bool.false_eq_true, reduceIte, decide_eq_true_eq, Bool.not_true, Bool.not_false, line, mI_int, mI_bool, mI_str, mI_tuple, mI_list, mB_int, mB_bool, mB_str, mB_tuple, mB_list, mS_int, mS_bool, mS_str, mS_tuple, mS_list, mT_int, mT_bool, mT_str, mT_tuple, mT_list, mN_int, mN_bool, mN_str, mN_tuple, mN_list, anyT, anyF, Nat.zero_add, Nat.reduceAdd, Nat.reduceLeDiff, true_and, cmR, inS hv3]
      have iff : ("tell" : Str) ∈ kds T gs ↔ Tl T a := by
        rw [kds_tell]
        constructor
        · rintro ⟨y, hy, n, h⟩
          exact ⟨y, n, (grc y).mp hy, h⟩
        · rintro ⟨y, n, h1, h⟩
          exact ⟨y, (grc y).mpr h1, n, h⟩
      by_cases ht : ("tell" : Str) ∈ kds T gs
      · simp only [ht, opAddI, opSubI, opMulI, opDivI, opModI, opPowI, opAddT, cmEq, cmNe, cmLt, cmLe, cmGt, cmGe, cmIn, eqI, eqS, inS2, truB, ixT0, ixT1, ixT2, ixT3, ixT4, ixT6, slcT, lenT, absI, intI, tupleT, listT, listRl, decide_true, decide_false, if_true, if_false, Bool.false_eq_true, reduceIte, decide_eq_true_eq, Bool.not_true, Bool.not_false, line, mI_int, mI_bool, mI_str, mI_tuple, mI_list, mB_int, mB_bool, mB_str, mB_tuple, mB_list, mS_int, mS_bool, mS_str, mS_tuple, mS_list, mT_int, mT_bool, mT_str, mT_tuple, mT_list, mN_int, mN_bool, mN_str, mN_tuple, mN_list, anyT, anyF, Nat.zero_add, Nat.reduceAdd, Nat.reduceLeDiff, true_and]
        refine hN _ _ ⟨_, _, _, _, _, rfl, hle3, hq3, fun x hx => ?_⟩
        rw [take_snoc ha] at hx
        rcases List.mem_append.mp hx with hx | hx
        · exact hT x hx
        · rw [List.mem_singleton.mp hx]; exact iff.mp ht
      · simp only [ht, opAddI, opSubI, opMulI, opDivI, opModI, opPowI, opAddT, cmEq, cmNe, cmLt, cmLe, cmGt, cmGe, cmIn, eqI, eqS, inS2, truB, ixT0, ixT1, ixT2, ixT3, ixT4, ixT6, slcT, lenT, absI, intI, tupleT, listT, listRl, decide_true, decide_false, if_true, if_false, Bool.false_eq_true, reduceIte, decide_eq_true_eq, Bool.not_true, Bool.not_false, line, mI_int, mI_bool, mI_str, mI_tuple, mI_list, mB_int, mB_bool, mB_str, mB_tuple, mB_list, mS_int, mS_bool, mS_str, mS_tuple, mS_list, mT_int, mT_bool, mT_str, mT_tuple, mT_list, mN_int, mN_bool, mN_str, mN_tuple, mN_list, anyT, anyF, Nat.zero_add, Nat.reduceAdd, Nat.reduceLeDiff, true_and]
        refine ⟨S, hle3, hQ1 a ((hM a).mp haM) (fun z => ht (iff.mpr z)) fun b hb hlt => ?_⟩
        have hbM := (hM b).mpr hb
        obtain ⟨j, hj⟩ := List.mem_iff_getElem?.mp hbM
        have hji : j < i := by
          refine Decidable.byContradiction fun hge => ?_
          obtain ⟨h1, e1⟩ := List.getElem?_eq_some_iff.mp hj
          obtain ⟨h2, e2⟩ := List.getElem?_eq_some_iff.mp ha
          by_cases e : i = j
          · subst e; rw [e1] at e2; omega
          · have := List.pairwise_iff_getElem.mp M1 i j h2 h1 (by omega)
            omega
        refine hT b (List.mem_iff_getElem?.mpr ⟨j, ?_⟩)
        rw [List.getElem?_take_of_lt hji]
        exact hj
  · rintro σ S1 ⟨x1, x2, x3, x4, x5, rfl, hle, hq1, hT⟩
    rw [nD_len, List.take_length] at hT
    simp only [wSs, wS, wT, wE, wEs, wO, wC, wI, wG, wGs, startD, List.map_cons, List.map_nil, List.length_cons, List.length_nil, List.replicate, List.cons_append, List.nil_append, List.append_nil, List.set_cons_zero, List.set_cons_succ, List.getElem?_cons_zero, List.getElem?_cons_succ, itT, wipeD, opAddI, opSubI, opMulI, opDivI, opModI, opPowI, opAddT, cmEq, cmNe, cmLt, cmLe, cmGt, cmGe, cmIn, eqI, eqS, inS2, truB, ixT0, ixT1, ixT2, ixT3, ixT4, ixT6, slcT, lenT, absI, intI, tupleT, listT, listRl, decide_true, decide_false, if_true, if_false, Bool.false_eq_true, reduceIte, decide_eq_true_eq, Bool.not_true, Bool.not_false, line, mI_int, mI_bool, mI_str, mI_tuple, mI_list, mB_int, mB_bool, mB_str, mB_tuple, mB_list, mS_int, mS_bool, mS_str, mS_tuple, mS_list, mT_int, mT_bool, mT_str, mT_tuple, mT_list, mN_int, mN_bool, mN_str, mN_tuple, mN_list, anyT, anyF, Nat.zero_add, Nat.reduceAdd, Nat.reduceLeDiff, true_and]
    exact ⟨S, hle, hQ2 fun b hb => hT b ((hM b).mpr hb)⟩
end K49
namespace K49
open PySem PySem.Spec PyProof.Rows L2 Mi
variable {k : Nat} {S : Sto} {Q : KD} {X : KX} {pp : Addr} {T : Tr} {s : Nat}
def en (g : Nat → D) (ks : List Nat) : List (D × D) := ks.map fun (j : Nat) => (D.int (j : Int), g j)
theorem intE {i j : Nat} : (D.int (i : Int) = D.int (j : Int)) ↔ i = j := by
  constructor
  · intro h; injection h with h; omega
  · intro h; rw [h]
theorem en_get {g : Nat → D} {i : Nat} : ∀ {ks : List Nat}, dget (en g ks) (.int (i : Int)) = if i ∈ ks then some (g i) else none
  | [] => rfl
  | j :: l => by
    have ih := en_get (g := g) (i := i) (ks := l)
    unfold dget en at ih ⊢
    rw [List.map_cons, List.find?_cons]
    by_cases h : j = i
    · subst h; simp
    · have : ¬ (D.int (j : Int) = D.int (i : Int)) := fun z => h (intE.mp z)
      simp only [this, decide_false]
      rw [ih]
      by_cases h2 : i ∈ l
      · simp [h2]
      · have : i ≠ j := fun z => h z.symm
        simp [h2, this]
theorem en_any {g : Nat → D} {i : Nat} : ∀ {ks : List Nat}, ((en g ks).any fun kv => decide (kv.1 = .int (i : Int))) = decide (i ∈ ks)
  | [] => rfl
  | j :: l => by
    have ih := en_any (g := g) (i := i) (ks := l)
    unfold en at ih ⊢
    rw [List.map_cons, List.any_cons, ih]
    by_cases h : j = i
    · subst h; simp
    · have h1 : ¬ (D.int (j : Int) = D.int (i : Int)) := fun z => h (intE.mp z)
      have h2 : i ≠ j := fun z => h z.symm
      simp [h1, h2]
theorem en_congr {g g' : Nat → D} {ks : List Nat} (h : ∀ j ∈ ks, g j = g' j) : en g ks = en g' ks := List.map_congr_left fun j hj => by rw [h j hj]
theorem en_put {g : Nat → D} {i : Nat} {v : D} {ks : List Nat} : dput (en g ks) (.int (i : Int)) v = en (fun j => if j = i then v else g j) (if i ∈ ks then ks else ks ++ [i]) := by
  unfold dput
  rw [en_any]
  by_cases h : i ∈ ks
  · simp only [h, decide_true, if_true]
    unfold en
    rw [List.map_map]
    refine List.map_congr_left fun j _ => ?_
    by_cases e : j = i
    · subst e; simp
    · have h1 : ¬ (D.int (j : Int) = D.int (i : Int)) := fun z => e (intE.mp z)
      simp [e, h1]
  · simp only [h, decide_false, Bool.false_eq_true, if_false]
    have : en (fun j => if j = i then v else g j) (ks ++ [i]) = en (fun j => if j = i then v else g j) ks ++ [(D.int (i : Int), v)] := by
      unfold en; rw [List.map_append]; simp
    rw [this]
    congr 1
    exact en_congr fun j hj => by rw [if_neg (show ¬ j = i from fun z => h (z ▸ hj))]
theorem en_len {g : Nat → D} {ks : List Nat} : (en g ks).length = ks.length := by simp [en]
theorem en_keyW {g : Nat → D} {ks : List Nat} : (en g ks).all (fun kv => keyW kv.1) = true := by
  rw [List.all_eq_true]
  intro kv hkv
  obtain ⟨j, _, rfl⟩ := List.mem_map.mp hkv
  rfl
theorem en_keys {g : Nat → D} {ks : List Nat} : (en g ks).map (·.1) = nD ks := by
  unfold en nD; rw [List.map_map]; rfl
theorem en_items {g : Nat → D} {ks : List Nat} : (en g ks).map (fun kv => D.tup [kv.1, kv.2]) = ks.map fun (j : Nat) => D.tup [.int (j : Int), g j] := by
  unfold en; rw [List.map_map]; rfl
def Fd (f : Nat → Rat) (kvs : List (D × D)) : Prop := ∃ ks : List Nat, ks.Nodup ∧ (∀ j, j ∈ ks ↔ f j ≠ 0) ∧ (∀ j ∈ ks, j < 8) ∧ kvs = en (fun j => rq (f j)) ks
variable {f f' : Nat → Rat} {kvs : List (D × D)} {x : Rat} {i j : Nat}
theorem Fd.nil : Fd (fun _ => 0) [] := ⟨[], by simp, by simp, by simp, rfl⟩
theorem Fd.eq (h : Fd f kvs) (e : ∀ j, f j = f' j) : Fd f' kvs := by
  have : f = f' := funext e
  rwa [← this]
theorem Fd.get (h : Fd f kvs) (j : Nat) : dget kvs (.int (j : Int)) = if f j = 0 then none else some (rq (f j)) := by
  obtain ⟨ks, h1, h2, h3, rfl⟩ := h
  rw [en_get]
  by_cases e : f j = 0
  · rw [if_pos e, if_neg fun z => (h2 j).mp z e]
  · rw [if_neg e, if_pos ((h2 j).mpr e)]
theorem Fd.getD (h : Fd f kvs) (j : Nat) : (dget kvs (.int (j : Int))).getD (rq 0) = rq (f j) := by
  rw [h.get]
  split
  · rename_i e; rw [e]; rfl
  · rfl
theorem Fd.put (h : Fd f kvs) (hx : x ≠ 0) (hj : j < 8) : Fd (fun i => if i = j then x else f i) (dput kvs (.int (j : Int)) (rq x)) := by
  obtain ⟨ks, h1, h2, h3, rfl⟩ := h
  rw [en_put]
  refine ⟨if j ∈ ks then ks else ks ++ [j], ?_, fun i => ?_, fun i hi => ?_, en_congr fun i _ => by
    show (if i = j then rq x else rq (f i)) = rq (if i = j then x else f i)
    split <;> rfl⟩
  · split
    · exact h1
    · rename_i hn
      rw [List.nodup_append]
      exact ⟨h1, by simp, fun a ha b hb => by rw [List.mem_singleton.mp hb]; intro z; exact hn (z ▸ ha)⟩
  · show _ ↔ (if i = j then x else f i) ≠ 0
    by_cases e : i = j
    · subst e
      rw [if_pos rfl]
      constructor
      · intro _; exact hx
      · intro _
        split
        · assumption
        · simp
    · rw [if_neg e]
      split
      · exact h2 i
      · rw [List.mem_append, List.mem_singleton]
        constructor
        · intro z
          rcases z with z | z
          · exact (h2 i).mp z
          · exact absurd z e
        · intro z
          exact .inl ((h2 i).mpr z)
  · split at hi
    · exact h3 i hi
    · rcases List.mem_append.mp hi with hi | hi
      · exact h3 i hi
      · rw [List.mem_singleton.mp hi]; exact hj
theorem Fd.len (h : Fd f kvs) : kvs.length ≤ 8 := by
  obtain ⟨ks, h1, h2, h3, rfl⟩ := h
  rw [en_len]
  exact nodup_le h1 h3
theorem Fd.keyW (h : Fd f kvs) : kvs.all (fun kv => Mi.keyW kv.1) = true := by
  obtain ⟨ks, h1, h2, h3, rfl⟩ := h
  exact en_keyW
theorem inDc {p : Addr} {QB : Bool → Prop} (h : S p = some (.dct kvs)) (F : Fd f kvs) : Mi.inR (.int (j : Int)) (.ref p) S QB = QB (decide (f j ≠ 0)) := by
  have e : (dget kvs (.int (j : Int))).isSome = decide (f j ≠ 0) := by
    rw [F.get]
    by_cases e : f j = 0
    · rw [if_pos e]; simp [e]
    · rw [if_neg e]; simp [e]
  simp only [Mi.inR, h, keyOk, keyD, Option.isSome_some, e, true_and]
theorem ixFd {p : Addr} (h : S p = some (.dct kvs)) (F : Fd f kvs) (hj : f j ≠ 0) : ixR (.ref p) (.int (j : Int)) S Q = Q (rq (f j)) S :=
  ixD h rfl (by rw [F.get, if_neg hj])
theorem getFd {p : Addr} (h : S p = some (.dct kvs)) (F : Fd f kvs) : mthR .get (.ref p) [.int (j : Int), rq 0] S Q = Q (rq (f j)) S := by
  rw [getDt h rfl, F.getD]
theorem setFd {p : Addr} {v : D} {Q : Sto → Prop} (h : S p = some (.dct kvs)) (F : Fd f kvs) : setR (.ref p) (.int (j : Int)) v S Q = Q (S.upd p (.dct (dput kvs (.int (j : Int)) v))) := by
  have := F.len
  rw [Mi.setD h rfl]
  have e : kvs.length < sizeLine := by rw [line]; omega
  simp only [e, true_and]
theorem ixEn {p : Addr} {g : Nat → D} {ks : List Nat} (h : S p = some (.dct (en g ks))) (hj : j ∈ ks) : ixR (.ref p) (.int (j : Int)) S Q = Q (g j) S :=
  ixD h rfl (by rw [en_get, if_pos hj])
theorem ixEnF {p : Addr} {g : Nat → D} {ks : List Nat} (h : S p = some (.fdc (en g ks))) (hj : j ∈ ks) : ixR (.ref p) (.int (j : Int)) S Q = Q (g j) S := by
  have e : dget (en g ks) (.int (j : Int)) = some (g j) := by rw [en_get, if_pos hj]
  simp only [ixR, h, keyOk, keyD, Option.isSome_some, e, true_and]
theorem setEn {p : Addr} {g : Nat → D} {ks : List Nat} {v : D} {Q : Sto → Prop} (h : S p = some (.dct (en g ks))) (hl : ks.length ≤ 100) : setR (.ref p) (.int (j : Int)) v S Q = Q (S.upd p (.dct (en (fun i => if i = j then v else g i) (if j ∈ ks then ks else ks ++ [j])))) := by
  rw [Mi.setD h rfl, en_put]
  have e : (en g ks).length < sizeLine := by rw [line, en_len]; omega
  simp only [e, true_and]
theorem mtyGd {p : Addr} (h : S p = some (.dct kvs)) : mtyR .get (.ref p) S = true := mtyG h
theorem dcL_pure {tg : Tg} {c : En → Sto → (Bool → Sto → Prop) → Prop} {e1 e2 : En → Sto → KD → Prop} {chk : Sto → Prop} {σ : En} {S : Sto} (g : D → Option (D × D)) (hc : chk S) : ∀ {l : List D} {acc : List (D × D)} {Q : List (D × D) → Sto → Prop},
    (∀ d ∈ l, ∀ P : Option (D × D) → Sto → Prop, P (g d) S → wG tg d σ fun σ' => c σ' S fun b S1 => if b = true then e1 σ' S1 fun x S2 => e2 σ' S2 fun y S3 => (keyD x).isSome = true ∧ P (some (x, y)) S3 else P none S1) → Q (dmerge acc (l.filterMap g)) S → dcL tg c e1 e2 chk l σ S acc Q
  | [], acc, Q, h, q => ⟨hc, q⟩
  | d :: l, acc, Q, h, q => by
    refine ⟨hc, h d (List.mem_cons_self ..) (fun o S2 => match o with | some v => dcL tg c e1 e2 chk l σ S2 (dput acc v.1 v.2) Q | none => dcL tg c e1 e2 chk l σ S2 acc Q) ?_⟩
    rw [List.filterMap_cons] at q
    cases hg : g d with
    | none =>
      rw [hg] at q
      exact dcL_pure g hc (fun d' hd => h d' (List.mem_cons_of_mem _ hd)) q
    | some v =>
      rw [hg] at q
      exact dcL_pure g hc (fun d' hd => h d' (List.mem_cons_of_mem _ hd)) q
theorem dm_en {g : Nat → D} : ∀ {m l : List Nat}, (l ++ m).Nodup → dmerge (en g l) (en g m) = en g (l ++ m)
  | [], l, _ => by rw [List.append_nil]; rfl
  | a :: m, l, h => by
    have hn : a ∉ l := fun z => by
      rw [List.nodup_append] at h
      exact h.2.2 a z a (by simp) rfl
    show dmerge (dput (en g l) (.int (a : Int)) (g a)) (en g m) = _
    rw [en_put, if_neg hn]
    have e : en (fun j => if j = a then g a else g j) (l ++ [a]) = en g (l ++ [a]) := en_congr fun j _ => by
      by_cases e : j = a
      · subst e; rw [if_pos rfl]
      · rw [if_neg e]
    rw [e, dm_en (by simpa using h)]
    simp
theorem zq_of {q : Rat} {E e f : Nat} {z : Int} (h0 : 0 < E) (hE : E ≤ 2 ^ e) (n : 0 ≤ q) (l : q ≤ ((2 ^ f : Nat) : Rat)) (h : q * (E : Rat) = (z : Rat)) : Zq (e + f + 1) q := by
  have hE' : (0 : Rat) < (E : Rat) := Rat.natCast_pos.mpr h0
  have e1 : q = mkRat z E := by
    rw [Rat.mkRat_eq_div, ← h]
    have : q * (E : Rat) / (E : Rat) * (E : Rat) = q * (E : Rat) := div_cancel hE'
    have h2 : (q * (E : Rat) / ((E : Nat) : Rat) - q) * (E : Rat) = 0 := by grind
    rcases Rat.mul_eq_zero.mp h2 with z | z
    · grind
    · rw [z] at hE'; exact absurd hE' (by decide)
  rw [e1]
  have z0 : 0 ≤ z := Rat.intCast_le_intCast.mp (by rw [← h]; exact mul_nn n (Rat.le_of_lt hE'))
  have z1 : z ≤ ((2 ^ f * E : Nat) : Int) := Rat.intCast_le_intCast.mp (by
    rw [← h]
    have : q * (E : Rat) ≤ ((2 ^ f : Nat) : Rat) * (E : Rat) := Rat.mul_le_mul_of_nonneg_right l (Rat.le_of_lt hE')
    have e3 : (((2 ^ f * E : Nat) : Int) : Rat) = ((2 ^ f : Nat) : Rat) * (E : Rat) := Rat.natCast_mul ..
    rw [e3]; exact this)
  have z2 : 2 ^ f * E ≤ 2 ^ f * 2 ^ e := Nat.mul_le_mul_left _ hE
  rw [← Nat.pow_add] at z2
  have z3 : 2 ^ (f + e) < 2 ^ (e + f + 1) := Nat.pow_lt_pow_right (by decide) (by omega)
  have z4 : 2 ^ e ≤ 2 ^ (f + e) := Nat.pow_le_pow_right (by decide) (by omega)
  exact Zq.of (by omega) (by omega) (by omega)
end K49
namespace K49
open PySem PySem.Spec PyProof.Rows L2 Mi
variable {k : Nat} {S : Sto} {Q : KD} {X : KX} {pp : Addr} {T : Tr} {s : Nat}
structure Ways (B S : Sto) (p : Addr) (a : Nat → Addr) (M A : List Nat) (W : Mx) : Prop where
  le : B.le S
  p0 : B p = none
  dict : S p = some (.dct (en (fun i => .ref (a i)) M))
  row : ∀ i ∈ A, ∃ row, S (a i) = some (.dct row) ∧ Fd (W i) row
  a0 : ∀ i ∈ A, B (a i) = none
  ap : ∀ i ∈ A, a i ≠ p
  inj : ∀ i ∈ A, ∀ j ∈ A, a i = a j → i = j
theorem Ways.put {B S : Sto} {p x : Addr} {a : Nat → Addr} {M A : List Nat} {W : Mx} {c : Cell} (h : Ways B S p a M A W) (hx : x ≠ p) (hx2 : ∀ i ∈ A, x ≠ a i) : Ways (B.upd x c) (S.upd x c) p a M A W where
  le := le_both h.le
  p0 := by rw [Sto.upd_ne hx.symm]; exact h.p0
  dict := by rw [Sto.upd_ne hx.symm]; exact h.dict
  row := fun i hi => by rw [Sto.upd_ne (hx2 i hi).symm]; exact h.row i hi
  a0 := fun i hi => by rw [Sto.upd_ne (hx2 i hi).symm]; exact h.a0 i hi
  ap := h.ap
  inj := h.inj
theorem Ways.new {B S : Sto} {p x : Addr} {a : Nat → Addr} {M A : List Nat} {W : Mx} {c : Cell} (h : Ways B S p a M A W) (hx : S x = none) : Ways (B.upd x c) (S.upd x c) p a M A W :=
  h.put (fun z => by subst z; rw [h.dict] at hx; cases hx) fun i hi z => by
    obtain ⟨row, h1, _⟩ := h.row i hi
    rw [← z, hx] at h1; cases h1
theorem Ways.set {B S : Sto} {p x : Addr} {a : Nat → Addr} {M A : List Nat} {W : Mx} {c c0 : Cell} (h : Ways B S p a M A W) (hx : B x = some c0) : Ways (B.upd x c) (S.upd x c) p a M A W :=
  h.put (fun z => by subst z; rw [h.p0] at hx; cases hx) fun i hi z => by
    have := h.a0 i hi
    rw [← z, hx] at this; cases this
theorem Ways.base {B B' S : Sto} {p : Addr} {a : Nat → Addr} {M A : List Nat} {W : Mx} (h : Ways B S p a M A W) (g : B'.le B) : Ways B' S p a M A W :=
  ⟨g.trans h.le, le_none g h.p0, h.dict, h.row, fun i hi => le_none g (h.a0 i hi), h.ap, h.inj⟩
theorem Ways.eq {B S : Sto} {p : Addr} {a : Nat → Addr} {M A : List Nat} {W W' : Mx} (h : Ways B S p a M A W) (e : ∀ i ∈ A, ∀ j, W i j = W' i j) : Ways B S p a M A W' :=
  ⟨h.le, h.p0, h.dict, fun i hi => let ⟨row, h1, h2⟩ := h.row i hi; ⟨row, h1, h2.eq (e i hi)⟩, h.a0, h.ap, h.inj⟩
theorem gZ : G0 "ZERO" = some (rq 0) := by rw [rq0]; rfl
theorem gO : G0 "ONE" = some (rq 1) := by rw [rq1]; rfl
theorem rqh : rq (1 / 2) = .tup [.int 1, .int 2] := by decide +kernel
theorem gH : G0 "HALF" = some (rq (1 / 2)) := by rw [rqh]; rfl
theorem zqh : Zq 2 (1 / 2) := ⟨by unfold Sz; decide +kernel, by unfold Sz; decide +kernel⟩
theorem ssum_append {f : Sd → Rat} : ∀ {l m : List Sd}, ssum f (l ++ m) = ssum f l + ssum f m
  | [], m => by rw [List.nil_append, ssum]; grind
  | a :: l, m => by rw [List.cons_append, ssum, ssum, ssum_append]; grind
theorem zq_hn {j : Nat} {d : Sd} : Zq 2 (hn j d) := by
  unfold hn
  split
  · exact zqh
  · exact zq0.mono (by decide)
theorem zq_ssum {j : Nat} : ∀ {l : List Sd}, Zq (1 + 4 * l.length) (ssum (hn j) l)
  | [] => by rw [ssum]; exact zq0
  | d :: l => by
    rw [ssum]
    exact (zq_hn.add zq_ssum).mono (by rw [List.length_cons]; omega)
theorem ways_ok (ok : TrOk T) {pm : Addr} {M : List Nat} (hM : S pm = some (.lst (nD M))) (hd : M.Nodup) (lt : ∀ x ∈ M, x < T.length) (hk : 2 < k)
    (hQ : ∀ (p : Addr) (a : Nat → Addr) (S' : Sto), Ways S S' p a M M (PM T) → Q (.ref p) S') : Γ k "ways_of" [tD T, .ref pm] S Q X := by
  cases k with
  | zero => omega
  | succ k =>
  refine gam (np := 2) (nn := 6) (b := b_ways_of) rfl rfl ?_
  have l5 := ok.l5
  have lM := nodup_le hd lt
  simp only [b_ways_of, wSs, wS, wT, wE, wEs, wO, wC, wI, wG, wGs, startD, List.map_cons, List.map_nil, List.length_cons, List.length_nil, List.replicate, List.cons_append, List.nil_append, List.append_nil, List.set_cons_zero, List.set_cons_succ, List.getElem?_cons_zero, List.getElem?_cons_succ, itT, wipeD, opAddI, opSubI, opMulI, opDivI, opModI, opPowI, opAddT, cmEq, cmNe, cmLt, cmLe, cmGt, cmGe, cmIn, eqI, eqS, inS2, truB, ixT0, ixT1, ixT2, ixT3, ixT4, ixT6, slcT, lenT, absI, intI, tupleT, listT, listRl, decide_true, decide_false, if_true, if_false, Bool.false_eq_true, reduceIte, decide_eq_true_eq, Bool.not_true, Bool.not_false, line, mI_int, mI_bool, mI_str, mI_tuple, mI_list, mB_int, mB_bool, mB_str, mB_tuple, mB_list, mS_int, mS_bool, mS_str, mS_tuple, mS_list, mT_int, mT_bool, mT_str, mT_tuple, mT_list, mN_int, mN_bool, mN_str, mN_tuple, mN_list, anyT, anyF, Nat.zero_add, Nat.reduceAdd, Nat.reduceLeDiff, true_and]
  intro p hp
  have pm_p : pm ≠ p := fun z => by subst z; rw [hp] at hM; cases hM
  have hM1 : (S.upd p (.dct [])) pm = some (.lst (nD M)) := by rw [Sto.upd_ne pm_p]; exact hM
  rw [itL hM1]
  refine forL_inv (nD M) (fun i σ S' => ∃ a x3 x4 x5, σ = [some (tD T), some (.ref pm), some (.ref p), x3, x4, x5] ∧ Ways S S' p a (M.take i) (M.take i) (PM T)) (fun _ _ _ ⟨_, _, _, _, _, h⟩ => h.le _ _ hM) ?_ ?_
    ⟨fun _ => 0, _, _, _, rfl, ⟨Sto.le_new hp, hp, Sto.upd_same, by simp, by simp, by simp, by simp⟩⟩
  · rintro i d σ S1 NX hd' ⟨a, x3, x4, x5, rfl, Wy⟩ hN
    unfold nD at hd'
    rw [List.getElem?_map, Option.map_eq_some_iff] at hd'
    obtain ⟨at', hat, rfl⟩ := hd'
    have haM := List.mem_of_getElem? hat
    have hal := lt at' haM
    have hil := (List.getElem?_eq_some_iff.mp hat).1
    have hnt : at' ∉ M.take i := fun z => by
      have e := List.take_append_drop i M
      rw [← e, List.nodup_append] at hd
      obtain ⟨h1, e1⟩ := List.getElem?_eq_some_iff.mp hat
      exact hd.2.2 at' z at' (by rw [List.drop_eq_getElem_cons h1, e1]; simp) rfl
    simp only [s_ways_of_2, wSs, wS, wT, wE, wEs, wO, wC, wI, wG, wGs, startD, List.map_cons, List.map_nil, List.length_cons, List.length_nil, List.replicate, List.cons_append, List.nil_append, List.append_nil, List.set_cons_zero, List.set_cons_succ, List.getElem?_cons_zero, List.getElem?_cons_succ, itT, wipeD, opAddI, opSubI, opMulI, opDivI, opModI, opPowI, opAddT, cmEq, cmNe, cmLt, cmLe, cmGt, cmGe, cmIn, eqI, eqS, inS2, truB, ixT0, ixT1, ixT2, ixT3, ixT4, ixT6, slcT, lenT, absI, intI, tupleT, listT, listRl, decide_true, decide_false, if_true, if_false, Bool.false_eq_true, reduceIte, decide_eq_true_eq, Bool.not_true, Bool.not_false, line, mI_int, mI_bool, mI_str, mI_tuple, mI_list, mB_int, mB_bool, mB_str, mB_tuple, mB_list, mS_int, mS_bool, mS_str, mS_tuple, mS_list, mT_int, mT_bool, mT_str, mT_tuple, mT_list, mN_int, mN_bool, mN_str, mN_tuple, mN_list, anyT, anyF, Nat.zero_add, Nat.reduceAdd, Nat.reduceLeDiff, true_and]
    intro r hr
    have hle := Wy.le
    have sr := le_none hle hr
    have rp : r ≠ p := fun z => by subst z; rw [Wy.dict] at hr; cases hr
    have ra : ∀ j ∈ M.take i, r ≠ a j := fun j hj z => by
      obtain ⟨row, h1, _⟩ := Wy.row j hj
      rw [← z, hr] at h1; cases h1
    have hd1 : (S1.upd r (.dct [])) p = some (.dct (en (fun j => .ref (a j)) (M.take i))) := by rw [Sto.upd_ne rp.symm]; exact Wy.dict
    have lt5 : (M.take i).length ≤ 5 := by rw [List.length_take]; omega
    rw [setEn hd1 (by omega), if_neg hnt]
    let a' : Nat → Addr := fun j => if j = at' then r else a j
    have a'_at : a' at' = r := if_pos rfl
    have a'_j : ∀ j ∈ M.take i, a' j = a j := fun j hj => if_neg (show ¬ j = at' from fun z => hnt (z ▸ hj))
    have e1 : en (fun i => if i = at' then D.ref r else D.ref (a i)) (M.take i ++ [at']) = en (fun j => .ref (a' j)) (M.take (i + 1)) := by
      rw [take_snoc hat]
      refine en_congr fun j _ => ?_
      show _ = D.ref (if j = at' then r else a j)
      split <;> rfl
    rw [e1]
    have atT : at' ∈ M.take (i + 1) := by rw [take_snoc hat]; simp
    have W1 : Ways S ((S1.upd r (.dct [])).upd p (.dct (en (fun j => .ref (a' j)) (M.take (i + 1))))) p a' (M.take (i + 1)) (M.take i) (PM T) := by
      refine ⟨Sto.le_upd Wy.p0 (Sto.le_new' hle hr), Wy.p0, Sto.upd_same, fun j hj => ?_, fun j hj => ?_, fun j hj => ?_, fun x hx y hy e => ?_⟩
      · rw [a'_j j hj, Sto.upd_ne (Wy.ap j hj), Sto.upd_ne (ra j hj).symm]; exact Wy.row j hj
      · rw [a'_j j hj]; exact Wy.a0 j hj
      · rw [a'_j j hj]; exact Wy.ap j hj
      · rw [a'_j x hx, a'_j y hy] at e; exact Wy.inj x hx y hy e
    have hr2 : ((S1.upd r (.dct [])).upd p (.dct (en (fun j => .ref (a' j)) (M.take (i + 1))))) r = some (.dct []) := by rw [Sto.upd_ne rp, Sto.upd_same]
    generalize (S1.upd r (.dct [])).upd p (.dct (en (fun j => .ref (a' j)) (M.take (i + 1)))) = S2 at W1 hr2 ⊢
    rw [ix_tree hal]
    simp only [itT]
    refine forL_inv ((sides T at').map sD) (fun m σ S' => ∃ x4 x5 row, σ = [some (tD T), some (.ref pm), some (.ref p), some (.int (at' : Int)), x4, x5] ∧ Ways S S' p a' (M.take (i + 1)) (M.take i) (PM T) ∧ S' r = some (.dct row) ∧ Fd (fun j => ssum (hn j) ((sides T at').take m)) row) (fun _ _ _ _ => trivial) ?_ ?_
      ⟨_, _, [], rfl, W1, hr2, Fd.nil⟩
    · rintro m d σ S3 NX3 hd3 ⟨x4, x5, row, rfl, W3, hr3, F3⟩ hN3
      rw [List.getElem?_map, Option.map_eq_some_iff] at hd3
      obtain ⟨d, hd3, rfl⟩ := hd3
      have ap : ∀ j, ssum (hn j) ((sides T at').take (m + 1)) = ssum (hn j) ((sides T at').take m) + hn j d := fun j => by
        rw [take_snoc hd3, ssum_append, ssum, ssum]; grind
      cases d with
      | tell t =>
        have e3 : decide (("tell" : Str) = ("node" : Str)) = false := by decide
        simp only [sD, s_ways_of_1, wSs, wS, wT, wE, wEs, wO, wC, wI, wG, wGs, startD, List.map_cons, List.map_nil, List.length_cons, List.length_nil, List.replicate, List.cons_append, List.nil_append, List.append_nil, List.set_cons_zero, List.set_cons_succ, List.getElem?_cons_zero, List.getElem?_cons_succ, itT, wipeD, opAddI, opSubI, opMulI, opDivI, opModI, opPowI, opAddT, cmEq, cmNe, cmLt, cmLe, cmGt, cmGe, cmIn, eqI, eqS, inS2, truB, ixT0, ixT1, ixT2, ixT3, ixT4, ixT6, slcT, lenT, absI, intI, tupleT, listT, listRl, decide_true, decide_false, if_true, if_false, Bool.false_eq_true, reduceIte, decide_eq_true_eq, Bool.not_true, Bool.not_false, line, mI_int, mI_bool, mI_str, mI_tuple, mI_list, mB_int, mB_bool, mB_str, mB_tuple, mB_list, mS_int, mS_bool, mS_str, mS_tuple, mS_list, mT_int, mT_bool, mT_str, mT_tuple, mT_list, mN_int, mN_bool, mN_str, mN_tuple, mN_list, anyT, anyF, Nat.zero_add, Nat.reduceAdd, Nat.reduceLeDiff, true_and, e3]
        refine hN3 _ _ ⟨_, _, row, rfl, W3, hr3, F3.eq fun j => ?_⟩
        rw [ap]
        have : hn j (.tell t) = 0 := if_neg (by simp)
        rw [this]; grind
      | node j =>
        have hjT := ok.nd _ j (List.mem_of_getElem? hd3)
        have j8 : j < 8 := by omega
        have zs : Zq 1500 (ssum (hn j) ((sides T at').take m)) := zq_ssum.mono (by
          have : ((sides T at').take m).length ≤ (sides T at').length := by rw [List.length_take]; omega
          obtain ⟨x, y, e⟩ := sides_two hal
          rw [e] at this
          rw [e]
          simp only [List.length_cons, List.length_nil] at this
          omega)
        have nn : 0 ≤ ssum (hn j) ((sides T at').take m) := ssum_nonneg fun _ _ => hn_nn
        simp only [sD, s_ways_of_1, wSs, wS, wT, wE, wEs, wO, wC, wI, wG, wGs, startD, List.map_cons, List.map_nil, List.length_cons, List.length_nil, List.replicate, List.cons_append, List.nil_append, List.append_nil, List.set_cons_zero, List.set_cons_succ, List.getElem?_cons_zero, List.getElem?_cons_succ, itT, wipeD, opAddI, opSubI, opMulI, opDivI, opModI, opPowI, opAddT, cmEq, cmNe, cmLt, cmLe, cmGt, cmGe, cmIn, eqI, eqS, inS2, truB, ixT0, ixT1, ixT2, ixT3, ixT4, ixT6, slcT, lenT, absI, intI, tupleT, listT, listRl, decide_true, decide_false, if_true, if_false, Bool.false_eq_true, reduceIte, decide_eq_true_eq, Bool.not_true, Bool.not_false, line, mI_int, mI_bool, mI_str, mI_tuple, mI_list, mB_int, mB_bool, mB_str, mB_tuple, mB_list, mS_int, mS_bool, mS_str, mS_tuple, mS_list, mT_int, mT_bool, mT_str, mT_tuple, mT_list, mN_int, mN_bool, mN_str, mN_tuple, mN_list, anyT, anyF, Nat.zero_add, Nat.reduceAdd, Nat.reduceLeDiff, true_and, ixEn W3.dict atT, a'_at, mtyGd hr3, gZ, gH, getFd hr3 F3]
        refine plus_rq (by omega) zs (zqh.mono (by decide)) ?_
        simp only [ixEn W3.dict atT, a'_at, setFd hr3 F3]
        have nz : ssum (hn j) ((sides T at').take m) + 1 / 2 ≠ 0 := by grind
        refine hN3 _ _ ⟨_, _, _, rfl, ⟨Sto.le_upd sr W3.le, W3.p0, by rw [Sto.upd_ne rp.symm]; exact W3.dict, fun x hx => ?_, W3.a0, W3.ap, W3.inj⟩, Sto.upd_same, (F3.put nz j8).eq fun i' => ?_⟩
        · have : a' x ≠ r := by rw [a'_j x hx]; exact (ra x hx).symm
          rw [Sto.upd_ne this]; exact W3.row x hx
        · show (if i' = j then _ else _) = _
          rw [ap]
          unfold hn
          by_cases e : i' = j
          · subst e; rw [if_pos rfl, if_pos rfl]
          · have : ¬ (Sd.node j = Sd.node i') := fun z => e (by cases z; rfl)
            rw [if_neg e, if_neg this]; grind
    · rintro σ S3 ⟨x4, x5, row, rfl, W3, hr3, F3⟩
      rw [List.length_map, List.take_length] at F3
      refine hN _ _ ⟨a', _, _, _, rfl, W3.le, W3.p0, W3.dict, fun x hx => ?_, fun x hx => ?_, fun x hx => ?_, fun x hx y hy e => ?_⟩
      · rw [take_snoc hat] at hx
        rcases List.mem_append.mp hx with hx | hx
        · exact W3.row x hx
        · rw [List.mem_singleton.mp hx, a'_at]; exact ⟨row, hr3, F3⟩
      · rw [take_snoc hat] at hx
        rcases List.mem_append.mp hx with hx | hx
        · exact W3.a0 x hx
        · rw [List.mem_singleton.mp hx, a'_at]; exact sr
      · rw [take_snoc hat] at hx
        rcases List.mem_append.mp hx with hx | hx
        · exact W3.ap x hx
        · rw [List.mem_singleton.mp hx, a'_at]; exact rp
      · rw [take_snoc hat] at hx hy
        rcases List.mem_append.mp hx with hx | hx <;> rcases List.mem_append.mp hy with hy | hy
        · exact W3.inj x hx y hy e
        · rw [List.mem_singleton.mp hy, a'_at, a'_j x hx] at e
          exact absurd e.symm (ra x hx)
        · rw [List.mem_singleton.mp hx, a'_at, a'_j y hy] at e
          exact absurd e (ra y hy)
        · rw [List.mem_singleton.mp hx, List.mem_singleton.mp hy]
  · rintro σ S1 ⟨a, x3, x4, x5, rfl, Wy⟩
    rw [nD_len, List.take_length] at Wy
    simp only [wSs, wS, wT, wE, wEs, wO, wC, wI, wG, wGs, startD, List.map_cons, List.map_nil, List.length_cons, List.length_nil, List.replicate, List.cons_append, List.nil_append, List.append_nil, List.set_cons_zero, List.set_cons_succ, List.getElem?_cons_zero, List.getElem?_cons_succ, itT, wipeD, opAddI, opSubI, opMulI, opDivI, opModI, opPowI, opAddT, cmEq, cmNe, cmLt, cmLe, cmGt, cmGe, cmIn, eqI, eqS, inS2, truB, ixT0, ixT1, ixT2, ixT3, ixT4, ixT6, slcT, lenT, absI, intI, tupleT, listT, listRl, decide_true, decide_false, if_true, if_false, Bool.false_eq_true, reduceIte, decide_eq_true_eq, Bool.not_true, Bool.not_false, line, mI_int, mI_bool, mI_str, mI_tuple, mI_list, mB_int, mB_bool, mB_str, mB_tuple, mB_list, mS_int, mS_bool, mS_str, mS_tuple, mS_list, mT_int, mT_bool, mT_str, mT_tuple, mT_list, mN_int, mN_bool, mN_str, mN_tuple, mN_list, anyT, anyF, Nat.zero_add, Nat.reduceAdd, Nat.reduceLeDiff, true_and]
    exact ⟨S1, Sto.le_refl, hQ p a S1 Wy⟩
end K49
namespace K49
open PySem PySem.Spec PyProof.Rows L2 Mi
variable {k : Nat} {S : Sto} {Q : KD} {X : KX} {pp : Addr} {T : Tr} {s : Nat}
theorem itDc {p : Addr} {kvs : List (D × D)} {Q : KI} (h : S p = some (.dct kvs)) (hw : kvs.all (fun kv => Mi.keyW kv.1) = true) : itR (.ref p) S Q = Q (kvs.map (·.1)) (fun S' => S' p = some (.fdc kvs)) (S.upd p (.fdc kvs)) := by
  simp only [itR, h, hw, true_and]
theorem itmDc {p : Addr} {kvs : List (D × D)} {Q : KI} (h : S p = some (.dct kvs)) (hw : kvs.all (fun kv => Mi.keyW kv.1) = true) : itmR (.ref p) S Q = Q (kvs.map fun kv => .tup [kv.1, kv.2]) (fun S' => S' p = some (.fdc kvs)) (S.upd p (.fdc kvs)) := by
  simp only [itmR, h, hw, true_and]
theorem itmFd {p : Addr} {kvs : List (D × D)} {Q : KI} (h : S p = some (.fdc kvs)) (hw : kvs.all (fun kv => Mi.keyW kv.1) = true) : itmR (.ref p) S Q = Q (kvs.map fun kv => .tup [kv.1, kv.2]) (fun S' => S' p = some (.fdc kvs)) S := by
  simp only [itmR, h, hw, true_and]
theorem itm_own {p : Addr} {kvs : List (D × D)} {c : Cell} {Q : KI} (h : S p = some c) (hc : c = .dct kvs ∨ c = .fdc kvs) (hw : kvs.all (fun kv => Mi.keyW kv.1) = true)
    (hQ : ∀ S4 : Sto, S4 p = some (.fdc kvs) → (∀ y, y ≠ p → S4 y = S y) → Q (kvs.map fun kv => .tup [kv.1, kv.2]) (fun S' => S' p = some (.fdc kvs)) S4) : itmR (.ref p) S Q := by
  rcases hc with rfl | rfl
  · rw [itmDc h hw]
    exact hQ _ Sto.upd_same fun y hy => Sto.upd_ne hy
  · rw [itmFd h hw]
    exact hQ _ h fun _ _ => rfl
theorem getFd' {p : Addr} {kvs : List (D × D)} {f : Nat → Rat} {j : Nat} {x : Rat} (h : S p = some (.dct kvs)) (F : Fd f kvs) (e : f j = x) : mthR .get (.ref p) [.int (j : Int), rq 0] S Q = Q (rq x) S := by
  rw [getFd h F, e]
def dropK (a : Nat) : D → Option (D × D)
  | .tup [k, v] => if k = .int (a : Int) then none else some (k, v)
  | _ => none
theorem dropK_en {a : Nat} {g : Nat → D} : ∀ {ks : List Nat}, (ks.map fun (j : Nat) => D.tup [.int (j : Int), g j]).filterMap (dropK a) = en g (ks.filter fun j => decide (j ≠ a))
  | [] => rfl
  | j :: l => by
    rw [List.map_cons, List.filterMap_cons, List.filter_cons]
    by_cases h : j = a
    · subst h
      have : dropK j (.tup [.int (j : Int), g j]) = none := if_pos rfl
      rw [this]
      simp only [ne_eq, not_true, decide_false, Bool.false_eq_true, if_false]
      exact dropK_en
    · have h1 : ¬ (D.int (j : Int) = D.int (a : Int)) := fun z => h (intE.mp z)
      have : dropK a (.tup [.int (j : Int), g j]) = some (.int (j : Int), g j) := if_neg h1
      rw [this]
      simp only [ne_eq, h, not_false_eq_true, decide_true, if_true]
      rw [dropK_en]
      rfl
def cmD (W : Mx) (a b : Nat) : D := rq (cm W a b)
def cmF (W : Mx) (a : Nat) (pre : List Nat) : List Nat := pre.filter fun b => decide (W b a ≠ 0)
theorem left_ok {B : Sto} {p pl : Addr} {a : Nat → Addr} {M pre : List Nat} {W : Mx} {c : Nat} {u : Nat → Rat} {e : Nat} (h : Ways B S p a M (pre ++ [c]) W) (hpl : B pl = some (.lst (nD pre))) (wk : Wk W (pre ++ [c]) u e) (hnd : (pre ++ [c]).Nodup)
    (hM : ∀ i ∈ pre ++ [c], i ∈ M) (h8 : ∀ i ∈ M, i < 8) (hMl : M.length ≤ 8) (z1 : ∀ i ∈ pre ++ [c], ∀ x, Zq 300 (W i x)) (z2 : ∀ i ∈ pre, Zq 300 (cm W c i)) (hk : 2 < k)
    (hQ : ∀ (q : Addr) (a' : Nat → Addr) (S' : Sto), B q = none → Ways (B.upd q (.fdc (en (cmD W c) (cmF W c pre)))) S' p a' M pre (elim W c) → Q (.ref q) S') : Γ k "left_out" [.ref p, .ref pl, .int (c : Int)] S Q X := by
  cases k with
  | zero => omega
  | succ k =>
  refine gam (np := 3) (nn := 10) (b := b_left_out) rfl rfl ?_
  have hcM : c ∈ M := hM c (by simp)
  have hcp : c ∉ pre := fun z => by
    rw [List.nodup_append] at hnd
    exact hnd.2.2 c z c (by simp) rfl
  have hpd : pre.Nodup := (List.nodup_append.mp hnd).1
  have plen : pre.length ≤ 8 := nodup_le hpd fun x hx => h8 x (hM x (by simp [hx]))
  obtain ⟨orow, hor, Fo⟩ := h.row c (by simp)
  have piv := wk.piv
  have pivn : 0 < (1 - W c c).num := by
    have h1 : (0 : Rat) < 1 - W c c := by grind
    have h2 : 0 ≤ (1 - W c c).num := Rat.num_nonneg.mpr (Rat.le_of_lt h1)
    have h3 : (1 - W c c).num ≠ 0 := fun z => by rw [Rat.num_eq_zero.mp z] at h1; exact absurd h1 (by decide)
    omega
  have zpiv : Zq 302 (1 - W c c) := by
    have h1 := (zq1.add (z1 c (by simp) c).neg)
    rw [Rat.sub_eq_add_neg]
    exact h1
  simp only [b_left_out, wSs, wS, wT, wE, wEs, wO, wC, wI, wG, wGs, startD, List.map_cons, List.map_nil, List.length_cons, List.length_nil, List.replicate, List.cons_append, List.nil_append, List.append_nil, List.set_cons_zero, List.set_cons_succ, List.getElem?_cons_zero, List.getElem?_cons_succ, itT, wipeD, opAddI, opSubI, opMulI, opDivI, opModI, opPowI, opAddT, cmEq, cmNe, cmLt, cmLe, cmGt, cmGe, cmIn, eqI, eqS, inS2, truB, ixT0, ixT1, ixT2, ixT3, ixT4, ixT6, slcT, lenT, absI, intI, tupleT, listT, listRl, decide_true, decide_false, if_true, if_false, Bool.false_eq_true, reduceIte, decide_eq_true_eq, Bool.not_true, Bool.not_false, line, mI_int, mI_bool, mI_str, mI_tuple, mI_list, mB_int, mB_bool, mB_str, mB_tuple, mB_list, mS_int, mS_bool, mS_str, mS_tuple, mS_list, mT_int, mT_bool, mT_str, mT_tuple, mT_list, mN_int, mN_bool, mN_str, mN_tuple, mN_list, anyT, anyF, Nat.zero_add, Nat.reduceAdd, Nat.reduceLeDiff, true_and, ixEn h.dict hcM, gO, gZ, mtyGd hor, getFd hor Fo]
  refine minus_rq (by omega) (zq1.mono (by decide)) ((z1 c (by simp) c).mono (by decide)) ?_
  intro q hq
  have Bq0 := le_none h.le hq
  have W1 := h.new (c := .dct []) hq
  have hpl1 : (S.upd q (.dct [])) pl = some (.lst (nD pre)) := W1.le _ _ (by
    have : pl ≠ q := fun z => by subst z; rw [Bq0] at hpl; cases hpl
    rw [Sto.upd_ne this]; exact hpl)
  rw [itL hpl1]
  have hplq : pl ≠ q := fun z => by subst z; rw [Bq0] at hpl; cases hpl
  refine forL_inv (nD pre) (fun i σ S' => ∃ x6 x7 x8 x9, σ = [some (.ref p), some (.ref pl), some (.int (c : Int)), some (.ref (a c)), some (rq (1 - W c c)), some (.ref q), x6, x7, x8, x9] ∧ Ways (B.upd q (.dct (en (cmD W c) (cmF W c (pre.take i))))) S' p a M (pre ++ [c]) W) (fun _ _ _ ⟨_, _, _, _, _, h⟩ => h.le _ _ (by rw [Sto.upd_ne hplq]; exact hpl)) ?_ ?_
    ⟨_, _, _, _, rfl, W1⟩
  · rintro i d σ S2 NX hd' ⟨x6, x7, x8, x9, rfl, W2⟩ hN
    unfold nD at hd'
    rw [List.getElem?_map, Option.map_eq_some_iff] at hd'
    obtain ⟨b, hb, rfl⟩ := hd'
    have hbp := List.mem_of_getElem? hb
    have hbA : b ∈ pre ++ [c] := by simp [hbp]
    have hbM := hM b hbA
    obtain ⟨row, hrow, Fr⟩ := W2.row b hbA
    have hq2 : S2 q = some (.dct (en (cmD W c) (cmF W c (pre.take i)))) := W2.le _ _ Sto.upd_same
    simp only [s_left_out_1, wSs, wS, wT, wE, wEs, wO, wC, wI, wG, wGs, startD, List.map_cons, List.map_nil, List.length_cons, List.length_nil, List.replicate, List.cons_append, List.nil_append, List.append_nil, List.set_cons_zero, List.set_cons_succ, List.getElem?_cons_zero, List.getElem?_cons_succ, itT, wipeD, opAddI, opSubI, opMulI, opDivI, opModI, opPowI, opAddT, cmEq, cmNe, cmLt, cmLe, cmGt, cmGe, cmIn, eqI, eqS, inS2, truB, ixT0, ixT1, ixT2, ixT3, ixT4, ixT6, slcT, lenT, absI, intI, tupleT, listT, listRl, decide_true, decide_false, if_true, if_false, Bool.false_eq_true, reduceIte, decide_eq_true_eq, Bool.not_true, Bool.not_false, line, mI_int, mI_bool, mI_str, mI_tuple, mI_list, mB_int, mB_bool, mB_str, mB_tuple, mB_list, mS_int, mS_bool, mS_str, mS_tuple, mS_list, mT_int, mT_bool, mT_str, mT_tuple, mT_list, mN_int, mN_bool, mN_str, mN_tuple, mN_list, anyT, anyF, Nat.zero_add, Nat.reduceAdd, Nat.reduceLeDiff, true_and, ixEn W2.dict hbM, inDc hrow Fr, cmR]
    by_cases hz : W b c = 0
    · simp only [hz, opAddI, opSubI, opMulI, opDivI, opModI, opPowI, opAddT, cmEq, cmNe, cmLt, cmLe, cmGt, cmGe, cmIn, eqI, eqS, inS2, truB, ixT0, ixT1, ixT2, ixT3, ixT4, ixT6, slcT, lenT, absI, intI, tupleT, listT, listRl, decide_true, decide_false, if_true, if_false, Bool.false_eq_true, reduceIte, decide_eq_true_eq, Bool.not_true, Bool.not_false, line, mI_int, mI_bool, mI_str, mI_tuple, mI_list, mB_int, mB_bool, mB_str, mB_tuple, mB_list, mS_int, mS_bool, mS_str, mS_tuple, mS_list, mT_int, mT_bool, mT_str, mT_tuple, mT_list, mN_int, mN_bool, mN_str, mN_tuple, mN_list, anyT, anyF, Nat.zero_add, Nat.reduceAdd, Nat.reduceLeDiff, true_and, ne_eq, not_true]
      refine hN _ _ ⟨_, _, _, _, rfl, ?_⟩
      have : cmF W c (pre.take (i + 1)) = cmF W c (pre.take i) := by
        unfold cmF
        rw [take_snoc hb, List.filter_append]
        simp [List.filter_cons, hz]
      rw [this]
      exact W2
    · simp only [hz, opAddI, opSubI, opMulI, opDivI, opModI, opPowI, opAddT, cmEq, cmNe, cmLt, cmLe, cmGt, cmGe, cmIn, eqI, eqS, inS2, truB, ixT0, ixT1, ixT2, ixT3, ixT4, ixT6, slcT, lenT, absI, intI, tupleT, listT, listRl, decide_true, decide_false, if_true, if_false, Bool.false_eq_true, reduceIte, decide_eq_true_eq, Bool.not_true, Bool.not_false, line, mI_int, mI_bool, mI_str, mI_tuple, mI_list, mB_int, mB_bool, mB_str, mB_tuple, mB_list, mS_int, mS_bool, mS_str, mS_tuple, mS_list, mT_int, mT_bool, mT_str, mT_tuple, mT_list, mN_int, mN_bool, mN_str, mN_tuple, mN_list, anyT, anyF, Nat.zero_add, Nat.reduceAdd, Nat.reduceLeDiff, true_and, ne_eq, not_false_eq_true, ixFd hrow Fr hz]
      refine over_rq (by omega) ((z1 b hbA c).mono (by decide)) (zpiv.mono (by decide)) pivn ?_
      have lF : (cmF W c (pre.take i)).length ≤ 100 := by
        have h1 := List.length_filter_le (fun b => decide (W b c ≠ 0)) (pre.take i)
        have h2 : (pre.take i).length ≤ pre.length := by rw [List.length_take]; omega
        unfold cmF
        omega
      have hbn : b ∉ cmF W c (pre.take i) := fun z => by
        have z := (List.mem_filter.mp z).1
        have e := List.take_append_drop i pre
        rw [← e, List.nodup_append] at hpd
        obtain ⟨h1, e1⟩ := List.getElem?_eq_some_iff.mp hb
        exact hpd.2.2 b z b (by rw [List.drop_eq_getElem_cons h1, e1]; simp) rfl
      rw [setEn hq2 lF, if_neg hbn]
      have e1 : en (fun i => if i = b then rq (W b c / (1 - W c c)) else cmD W c i) (cmF W c (pre.take i) ++ [b]) = en (cmD W c) (cmF W c (pre.take (i + 1))) := by
        have : cmF W c (pre.take (i + 1)) = cmF W c (pre.take i) ++ [b] := by
          unfold cmF
          rw [take_snoc hb, List.filter_append]
          simp [List.filter_cons, hz]
        rw [this]
        refine en_congr fun j _ => ?_
        by_cases e : j = b
        · subst e; rw [if_pos rfl]; rfl
        · rw [if_neg e]
      rw [e1]
      have W3 := W2.set (c := .dct (en (cmD W c) (cmF W c (pre.take (i + 1))))) (x := q) Sto.upd_same
      rw [Sto.upd_upd] at W3
      exact hN _ _ ⟨_, _, _, _, rfl, W3⟩
  · rintro σ S2 ⟨x6, x7, x8, x9, rfl, W2⟩
    rw [nD_len, List.take_length] at W2
    have hq2 : S2 q = some (.dct (en (cmD W c) (cmF W c pre))) := W2.le _ _ Sto.upd_same
    simp only [wSs, wS, wT, wE, wEs, wO, wC, wI, wG, wGs, startD, List.map_cons, List.map_nil, List.length_cons, List.length_nil, List.replicate, List.cons_append, List.nil_append, List.append_nil, List.set_cons_zero, List.set_cons_succ, List.getElem?_cons_zero, List.getElem?_cons_succ, itT, wipeD, opAddI, opSubI, opMulI, opDivI, opModI, opPowI, opAddT, cmEq, cmNe, cmLt, cmLe, cmGt, cmGe, cmIn, eqI, eqS, inS2, truB, ixT0, ixT1, ixT2, ixT3, ixT4, ixT6, slcT, lenT, absI, intI, tupleT, listT, listRl, decide_true, decide_false, if_true, if_false, Bool.false_eq_true, reduceIte, decide_eq_true_eq, Bool.not_true, Bool.not_false, line, mI_int, mI_bool, mI_str, mI_tuple, mI_list, mB_int, mB_bool, mB_str, mB_tuple, mB_list, mS_int, mS_bool, mS_str, mS_tuple, mS_list, mT_int, mT_bool, mT_str, mT_tuple, mT_list, mN_int, mN_bool, mN_str, mN_tuple, mN_list, anyT, anyF, Nat.zero_add, Nat.reduceAdd, Nat.reduceLeDiff, true_and]
    rw [itDc hq2 en_keyW, en_keys]
    have W3 := W2.set (c := .fdc (en (cmD W c) (cmF W c pre))) (x := q) Sto.upd_same
    rw [Sto.upd_upd] at W3
    generalize S2.upd q (.fdc (en (cmD W c) (cmF W c pre))) = S3 at W3 ⊢
    generalize hBq : B.upd q (.fdc (en (cmD W c) (cmF W c pre))) = Bq at W3
    have hBqq : Bq q = some (.fdc (en (cmD W c) (cmF W c pre))) := by rw [← hBq]; exact Sto.upd_same
    obtain ⟨orow2, hor2, Fo⟩ := W3.row c (by simp)
    obtain ⟨ks', o1, o2, o3, rfl⟩ := id Fo
    generalize hF : cmF W c pre = F at *
    have Fnd : F.Nodup := by rw [← hF]; exact hpd.sublist List.filter_sublist
    have Fp : ∀ b ∈ F, b ∈ pre ∧ W b c ≠ 0 := fun b hb => by
      rw [← hF] at hb
      have := List.mem_filter.mp hb
      exact ⟨this.1, by simpa using this.2⟩
    have aca0 : Bq (a c) = none := W3.a0 c (by simp)
    have acp : a c ≠ p := W3.ap c (by simp)
    refine forL_inv (nD F) (fun j σ S' => ∃ a' cell x6 x7 x8 x9, σ = [some (.ref p), some (.ref pl), some (.int (c : Int)), some (.ref (a c)), some (rq (1 - W c c)), some (.ref q), x6, x7, x8, x9] ∧ Ways Bq S' p a' M pre (fun b x => if b ∈ F.take j then elim W c b x else W b x) ∧ S' (a c) = some cell ∧ (cell = .dct (en (fun j => rq (W c j)) ks') ∨ cell = .fdc (en (fun j => rq (W c j)) ks')) ∧ ∀ i ∈ pre, a' i ≠ a c) (fun _ _ _ ⟨_, _, _, _, _, _, _, h, _⟩ => h.le _ _ hBqq) ?_ ?_
      ⟨a, _, _, _, _, _, rfl, ⟨W3.le, W3.p0, W3.dict, fun i hi => by
        simp only [List.take_zero, List.not_mem_nil, if_false]
        exact W3.row i (by simp [hi]), fun i hi => W3.a0 i (by simp [hi]), fun i hi => W3.ap i (by simp [hi]), fun i hi j hj => W3.inj i (by simp [hi]) j (by simp [hj])⟩, hor2, .inl rfl, fun i hi e => by
        have := W3.inj i (by simp [hi]) c (by simp) e
        exact hcp (this ▸ hi)⟩
    · rintro j d σ S4 NX hd' ⟨a', cell, x6, x7, x8, x9, rfl, W4, hown, hcell, hac⟩ hN
      unfold nD at hd'
      rw [List.getElem?_map, Option.map_eq_some_iff] at hd'
      obtain ⟨b, hb, rfl⟩ := hd'
      have hbF := List.mem_of_getElem? hb
      obtain ⟨hbp, hbc⟩ := Fp b hbF
      have hbA : b ∈ pre ++ [c] := by simp [hbp]
      have hbM := hM b hbA
      have hbn : b ∉ F.take j := fun z => by
        have e := List.take_append_drop j F
        rw [← e, List.nodup_append] at Fnd
        obtain ⟨h1, e1⟩ := List.getElem?_eq_some_iff.mp hb
        exact Fnd.2.2 b z b (by rw [List.drop_eq_getElem_cons h1, e1]; simp) rfl
      obtain ⟨row, hrow, Fr⟩ := W4.row b hbp
      have Fr : Fd (W b) row := Fr.eq fun x => by simp only [hbn, if_false]
      obtain ⟨ks, r1, r2, r3, rfl⟩ := id Fr
      simp only [s_left_out_5, wSs, wS, wT, wE, wEs, wO, wC, wI, wG, wGs, startD, List.map_cons, List.map_nil, List.length_cons, List.length_nil, List.replicate, List.cons_append, List.nil_append, List.append_nil, List.set_cons_zero, List.set_cons_succ, List.getElem?_cons_zero, List.getElem?_cons_succ, itT, wipeD, opAddI, opSubI, opMulI, opDivI, opModI, opPowI, opAddT, cmEq, cmNe, cmLt, cmLe, cmGt, cmGe, cmIn, eqI, eqS, inS2, truB, ixT0, ixT1, ixT2, ixT3, ixT4, ixT6, slcT, lenT, absI, intI, tupleT, listT, listRl, decide_true, decide_false, if_true, if_false, Bool.false_eq_true, reduceIte, decide_eq_true_eq, Bool.not_true, Bool.not_false, line, mI_int, mI_bool, mI_str, mI_tuple, mI_list, mB_int, mB_bool, mB_str, mB_tuple, mB_list, mS_int, mS_bool, mS_str, mS_tuple, mS_list, mT_int, mT_bool, mT_str, mT_tuple, mT_list, mN_int, mN_bool, mN_str, mN_tuple, mN_list, anyT, anyF, Nat.zero_add, Nat.reduceAdd, Nat.reduceLeDiff, true_and, ixEn W4.dict hbM]
      rw [itmDc hrow en_keyW, en_items]
      have lks : ks.length ≤ 8 := nodup_le r1 r3
      refine ⟨by rw [List.length_map]; omega, ?_⟩
      refine dcL_pure (dropK c) Sto.upd_same (fun d hd P hP => ?_) ?_
      · obtain ⟨x, hx, rfl⟩ := List.mem_map.mp hd
        simp only [wSs, wS, wT, wE, wEs, wO, wC, wI, wG, wGs, startD, List.map_cons, List.map_nil, List.length_cons, List.length_nil, List.replicate, List.cons_append, List.nil_append, List.append_nil, List.set_cons_zero, List.set_cons_succ, List.getElem?_cons_zero, List.getElem?_cons_succ, itT, wipeD, opAddI, opSubI, opMulI, opDivI, opModI, opPowI, opAddT, cmEq, cmNe, cmLt, cmLe, cmGt, cmGe, cmIn, eqI, eqS, inS2, truB, ixT0, ixT1, ixT2, ixT3, ixT4, ixT6, slcT, lenT, absI, intI, tupleT, listT, listRl, decide_true, decide_false, if_true, if_false, Bool.false_eq_true, reduceIte, decide_eq_true_eq, Bool.not_true, Bool.not_false, line, mI_int, mI_bool, mI_str, mI_tuple, mI_list, mB_int, mB_bool, mB_str, mB_tuple, mB_list, mS_int, mS_bool, mS_str, mS_tuple, mS_list, mT_int, mT_bool, mT_str, mT_tuple, mT_list, mN_int, mN_bool, mN_str, mN_tuple, mN_list, anyT, anyF, Nat.zero_add, Nat.reduceAdd, Nat.reduceLeDiff, true_and, e_left_out_2, e_left_out_3]
        by_cases hxc : x = c
        · subst hxc
          have : dropK x (.tup [.int (x : Int), rq (W b x)]) = none := if_pos rfl
          rw [this] at hP
          simp only [opAddI, opSubI, opMulI, opDivI, opModI, opPowI, opAddT, cmEq, cmNe, cmLt, cmLe, cmGt, cmGe, cmIn, eqI, eqS, inS2, truB, ixT0, ixT1, ixT2, ixT3, ixT4, ixT6, slcT, lenT, absI, intI, tupleT, listT, listRl, decide_true, decide_false, if_true, if_false, Bool.false_eq_true, reduceIte, decide_eq_true_eq, Bool.not_true, Bool.not_false, line, mI_int, mI_bool, mI_str, mI_tuple, mI_list, mB_int, mB_bool, mB_str, mB_tuple, mB_list, mS_int, mS_bool, mS_str, mS_tuple, mS_list, mT_int, mT_bool, mT_str, mT_tuple, mT_list, mN_int, mN_bool, mN_str, mN_tuple, mN_list, anyT, anyF, Nat.zero_add, Nat.reduceAdd, Nat.reduceLeDiff, true_and, not_true]
          exact hP
        · have h1 : ¬ (D.int (x : Int) = D.int (c : Int)) := fun z => hxc (intE.mp z)
          have h2 : ¬ ((x : Int) = (c : Int)) := fun z => hxc (by omega)
          have : dropK c (.tup [.int (x : Int), rq (W b x)]) = some (.int (x : Int), rq (W b x)) := if_neg h1
          rw [this] at hP
          simp only [h2, opAddI, opSubI, opMulI, opDivI, opModI, opPowI, opAddT, cmEq, cmNe, cmLt, cmLe, cmGt, cmGe, cmIn, eqI, eqS, inS2, truB, ixT0, ixT1, ixT2, ixT3, ixT4, ixT6, slcT, lenT, absI, intI, tupleT, listT, listRl, decide_true, decide_false, if_true, if_false, Bool.false_eq_true, reduceIte, decide_eq_true_eq, Bool.not_true, Bool.not_false, line, mI_int, mI_bool, mI_str, mI_tuple, mI_list, mB_int, mB_bool, mB_str, mB_tuple, mB_list, mS_int, mS_bool, mS_str, mS_tuple, mS_list, mT_int, mT_bool, mT_str, mT_tuple, mT_list, mN_int, mN_bool, mN_str, mN_tuple, mN_list, anyT, anyF, Nat.zero_add, Nat.reduceAdd, Nat.reduceLeDiff, true_and, not_false_eq_true]
          exact ⟨rfl, hP⟩
      · rw [dropK_en]
        have dm := dm_en (g := fun j => rq (W b j)) (m := ks.filter fun j => decide (j ≠ c)) (l := []) (by rw [List.nil_append]; exact r1.sublist List.filter_sublist)
        rw [List.nil_append] at dm
        have dm : dmerge [] (en (fun j => rq (W b j)) (ks.filter fun j => decide (j ≠ c))) = en (fun j => rq (W b j)) (ks.filter fun j => decide (j ≠ c)) := dm
        rw [dm]
        intro r hr
        have Fr2 : Fd (fun x => if x = c then 0 else W b x) (en (fun j => rq (W b j)) (ks.filter fun j => decide (j ≠ c))) := by
          refine ⟨ks.filter fun j => decide (j ≠ c), r1.sublist List.filter_sublist, fun x => ?_, fun x hx => r3 x (List.mem_filter.mp hx).1, en_congr fun x hx => ?_⟩
          · rw [List.mem_filter, r2]
            by_cases e : x = c
            · simp [e]
            · simp [e]
          · have : x ≠ c := by simpa using (List.mem_filter.mp hx).2
            show rq (W b x) = rq (if x = c then 0 else W b x)
            rw [if_neg this]
        generalize en (fun j => rq (W b j)) (ks.filter fun j => decide (j ≠ c)) = row0 at Fr2 ⊢
        have rb : r ≠ a' b := fun z => by subst z; rw [Sto.upd_same] at hr; cases hr
        have hr4 : S4 r = none := by rw [Sto.upd_ne rb] at hr; exact hr
        have rc : r ≠ a c := fun z => by subst z; rw [hown] at hr4; cases hr4
        have rp : r ≠ p := fun z => by subst z; rw [W4.dict] at hr4; cases hr4
        have rq' : r ≠ q := fun z => by subst z; rw [W4.le _ _ hBqq] at hr4; cases hr4
        have bc := hac b hbp
        have hown3 : (((S4.upd (a' b) (.fdc (en (fun j => rq (W b j)) ks))).upd r (.dct row0))) (a c) = some cell := by rw [Sto.upd_ne rc.symm, Sto.upd_ne bc.symm]; exact hown
        refine itm_own hown3 hcell en_keyW fun S5 h5 e5 => ?_
        rw [en_items]
        have h5r : S5 r = some (.dct row0) := by rw [e5 r rc, Sto.upd_same]
        have h5o : ∀ y, y ≠ r → y ≠ a' b → y ≠ a c → S5 y = S4 y := fun y y1 y2 y3 => by rw [e5 y y3, Sto.upd_ne y1, Sto.upd_ne y2]
        clear e5 hown3
        have qab : q ≠ a' b := fun z => by
          have := W4.a0 b hbp
          rw [← z, hBqq] at this; cases this
        have qac : q ≠ a c := fun z => by rw [← z, hBqq] at aca0; cases aca0
        have pab : p ≠ a' b := (W4.ap b hbp).symm
        refine forL_inv (ks'.map fun (j : Nat) => D.tup [.int (j : Int), rq (W c j)]) (fun m σ S' => ∃ x8 x9 rw, σ = [some (.ref p), some (.ref pl), some (.int (c : Int)), some (.ref (a c)), some (rq (1 - W c c)), some (.ref q), some (.int (b : Int)), some (.ref r), x8, x9] ∧ S' r = some (.dct rw) ∧ Fd (fun x => if x = c then 0 else W b x + (if x ∈ ks'.take m then cm W c b * W c x else 0)) rw ∧ ∀ y, y ≠ r → S' y = S5 y) (fun _ _ _ ⟨_, _, _, _, _, _, e⟩ => by rw [e _ rc.symm]; exact h5) ?_ ?_
          ⟨_, _, row0, rfl, h5r, Fr2.eq fun x => by
            by_cases e : x = c
            · rw [if_pos e, if_pos e]
            · rw [if_neg e, if_neg e]
              simp only [List.take_zero, List.not_mem_nil, if_false]
              grind, fun _ _ => rfl⟩
        · rintro m d σ S6 NX6 hd6 ⟨x8, x9, rw0, rfl, h6r, F6, e6⟩ hN6
          rw [List.getElem?_map, Option.map_eq_some_iff] at hd6
          obtain ⟨x, hx, rfl⟩ := hd6
          have hxk := List.mem_of_getElem? hx
          have hxn : x ∉ ks'.take m := fun z => by
            have e := List.take_append_drop m ks'
            rw [← e, List.nodup_append] at o1
            obtain ⟨h1, e1⟩ := List.getElem?_eq_some_iff.mp hx
            exact o1.2.2 x z x (by rw [List.drop_eq_getElem_cons h1, e1]; simp) rfl
          have h6q : S6 q = some (.fdc (en (cmD W c) F)) := by
            rw [e6 q rq'.symm, h5o q rq'.symm qab qac]
            exact W4.le _ _ hBqq
          simp only [s_left_out_4, wSs, wS, wT, wE, wEs, wO, wC, wI, wG, wGs, startD, List.map_cons, List.map_nil, List.length_cons, List.length_nil, List.replicate, List.cons_append, List.nil_append, List.append_nil, List.set_cons_zero, List.set_cons_succ, List.getElem?_cons_zero, List.getElem?_cons_succ, itT, wipeD, opAddI, opSubI, opMulI, opDivI, opModI, opPowI, opAddT, cmEq, cmNe, cmLt, cmLe, cmGt, cmGe, cmIn, eqI, eqS, inS2, truB, ixT0, ixT1, ixT2, ixT3, ixT4, ixT6, slcT, lenT, absI, intI, tupleT, listT, listRl, decide_true, decide_false, if_true, if_false, Bool.false_eq_true, reduceIte, decide_eq_true_eq, Bool.not_true, Bool.not_false, line, mI_int, mI_bool, mI_str, mI_tuple, mI_list, mB_int, mB_bool, mB_str, mB_tuple, mB_list, mS_int, mS_bool, mS_str, mS_tuple, mS_list, mT_int, mT_bool, mT_str, mT_tuple, mT_list, mN_int, mN_bool, mN_str, mN_tuple, mN_list, anyT, anyF, Nat.zero_add, Nat.reduceAdd, Nat.reduceLeDiff, true_and]
          by_cases hxc : x = c
          · subst hxc
            simp only [opAddI, opSubI, opMulI, opDivI, opModI, opPowI, opAddT, cmEq, cmNe, cmLt, cmLe, cmGt, cmGe, cmIn, eqI, eqS, inS2, truB, ixT0, ixT1, ixT2, ixT3, ixT4, ixT6, slcT, lenT, absI, intI, tupleT, listT, listRl, decide_true, decide_false, if_true, if_false, Bool.false_eq_true, reduceIte, decide_eq_true_eq, Bool.not_true, Bool.not_false, line, mI_int, mI_bool, mI_str, mI_tuple, mI_list, mB_int, mB_bool, mB_str, mB_tuple, mB_list, mS_int, mS_bool, mS_str, mS_tuple, mS_list, mT_int, mT_bool, mT_str, mT_tuple, mT_list, mN_int, mN_bool, mN_str, mN_tuple, mN_list, anyT, anyF, Nat.zero_add, Nat.reduceAdd, Nat.reduceLeDiff, true_and, not_true]
            refine hN6 _ _ ⟨_, _, rw0, rfl, h6r, F6.eq fun y => ?_, e6⟩
            by_cases e : y = x
            · rw [if_pos e, if_pos e]
            · rw [if_neg e, if_neg e, take_snoc hx]
              simp [List.mem_append, e]
          · have h2 : ¬ ((x : Int) = (c : Int)) := fun z => hxc (by omega)
            have fx : (fun x => if x = c then 0 else W b x + (if x ∈ ks'.take m then cm W c b * W c x else 0)) x = W b x := by
              show (if x = c then 0 else W b x + (if x ∈ ks'.take m then cm W c b * W c x else 0)) = _
              rw [if_neg hxc, if_neg hxn]; grind
            simp only [h2, opAddI, opSubI, opMulI, opDivI, opModI, opPowI, opAddT, cmEq, cmNe, cmLt, cmLe, cmGt, cmGe, cmIn, eqI, eqS, inS2, truB, ixT0, ixT1, ixT2, ixT3, ixT4, ixT6, slcT, lenT, absI, intI, tupleT, listT, listRl, decide_true, decide_false, if_true, if_false, Bool.false_eq_true, reduceIte, decide_eq_true_eq, Bool.not_true, Bool.not_false, line, mI_int, mI_bool, mI_str, mI_tuple, mI_list, mB_int, mB_bool, mB_str, mB_tuple, mB_list, mS_int, mS_bool, mS_str, mS_tuple, mS_list, mT_int, mT_bool, mT_str, mT_tuple, mT_list, mN_int, mN_bool, mN_str, mN_tuple, mN_list, anyT, anyF, Nat.zero_add, Nat.reduceAdd, Nat.reduceLeDiff, true_and, not_false_eq_true, mtyGd h6r, gZ, ixEnF h6q hbF]
            rw [getFd' h6r F6 fx, ixEnF h6q hbF]
            have zc := z2 b hbp
            have zw := z1 c (by simp) x
            show Γ k "times" [rq (cm W c b), rq (W c x)] _ _ _
            refine times_rq (by omega) (zc.mono (by decide)) (zw.mono (by decide)) ?_
            refine plus_rq (by omega) ((z1 b hbA x).mono (by decide)) ((zc.mul zw).mono (by decide)) ?_
            rw [setFd h6r F6]
            have cmp : 0 < cm W c b := by
              have := wk.cm_nn b
              have := wk.cm_pos hbc
              grind
            have wpos : 0 < W c x := by
              have := wk.nn c x
              have := (o2 x).mp hxk
              grind
            have nz : W b x + cm W c b * W c x ≠ 0 := by
              have := Rat.mul_pos cmp wpos
              have := wk.nn b x
              grind
            refine hN6 _ _ ⟨_, _, _, rfl, Sto.upd_same, (F6.put nz (o3 x hxk)).eq fun y => ?_, fun y hy => by rw [Sto.upd_ne hy]; exact e6 y hy⟩
            show (if y = x then _ else if y = c then _ else _) = _
            by_cases e : y = x
            · subst e
              rw [if_pos rfl, if_neg hxc, take_snoc hx]
              simp
            · rw [if_neg e, take_snoc hx]
              simp [List.mem_append, e]
        · rintro σ S6 ⟨x8, x9, rw0, rfl, h6r, F6, e6⟩
          rw [List.length_map, List.take_length] at F6
          have h6p : S6 p = some (.dct (en (fun i => .ref (a' i)) M)) := by
            rw [e6 p rp.symm, h5o p rp.symm pab acp.symm]
            exact W4.dict
          simp only [wSs, wS, wT, wE, wEs, wO, wC, wI, wG, wGs, startD, List.map_cons, List.map_nil, List.length_cons, List.length_nil, List.replicate, List.cons_append, List.nil_append, List.append_nil, List.set_cons_zero, List.set_cons_succ, List.getElem?_cons_zero, List.getElem?_cons_succ, itT, wipeD, opAddI, opSubI, opMulI, opDivI, opModI, opPowI, opAddT, cmEq, cmNe, cmLt, cmLe, cmGt, cmGe, cmIn, eqI, eqS, inS2, truB, ixT0, ixT1, ixT2, ixT3, ixT4, ixT6, slcT, lenT, absI, intI, tupleT, listT, listRl, decide_true, decide_false, if_true, if_false, Bool.false_eq_true, reduceIte, decide_eq_true_eq, Bool.not_true, Bool.not_false, line, mI_int, mI_bool, mI_str, mI_tuple, mI_list, mB_int, mB_bool, mB_str, mB_tuple, mB_list, mS_int, mS_bool, mS_str, mS_tuple, mS_list, mT_int, mT_bool, mT_str, mT_tuple, mT_list, mN_int, mN_bool, mN_str, mN_tuple, mN_list, anyT, anyF, Nat.zero_add, Nat.reduceAdd, Nat.reduceLeDiff, true_and, setEn h6p (Nat.le_trans hMl (by decide)), hbM]
          let a2 : Nat → Addr := fun i => if i = b then r else a' i
          have e2 : en (fun i => if i = b then D.ref r else D.ref (a' i)) M = en (fun i => .ref (a2 i)) M := en_congr fun i _ => by
            show _ = D.ref (if i = b then r else a' i)
            split <;> rfl
          rw [e2]
          have a2b : a2 b = r := if_pos rfl
          have a2i : ∀ i, i ≠ b → a2 i = a' i := fun i hi => if_neg hi
          have cells : ∀ y, y ≠ p → y ≠ r → y ≠ a' b → y ≠ a c → (S6.upd p (.dct (en (fun i => .ref (a2 i)) M))) y = S4 y := fun y y1 y2 y3 y4 => by
            rw [Sto.upd_ne y1, e6 y y2, h5o y y2 y3 y4]
          have Br := le_none W4.le hr4
          refine hN _ _ ⟨a2, .fdc (en (fun j => rq (W c j)) ks'), _, _, _, _, rfl, ⟨fun y cc hy => ?_, W4.p0, Sto.upd_same, fun i hi => ?_, fun i hi => ?_, fun i hi => ?_, fun x hx y hy e => ?_⟩, ?_, .inr rfl, fun i hi => ?_⟩
          · have y1 : y ≠ p := fun z => by subst z; rw [W4.p0] at hy; cases hy
            have y2 : y ≠ r := fun z => by subst z; rw [Br] at hy; cases hy
            have y3 : y ≠ a' b := fun z => by subst z; rw [W4.a0 b hbp] at hy; cases hy
            have y4 : y ≠ a c := fun z => by subst z; rw [aca0] at hy; cases hy
            rw [cells y y1 y2 y3 y4]
            exact W4.le y cc hy
          · by_cases hib : i = b
            · subst hib
              rw [a2b, Sto.upd_ne rp]
              refine ⟨rw0, h6r, F6.eq fun x => ?_⟩
              have : i ∈ F.take (j + 1) := by rw [take_snoc hb]; simp
              simp only [this, if_true]
              by_cases e : x = c
              · subst e; rw [if_pos rfl, elim_at]
              · rw [if_neg e, elim_def e]
                by_cases hxk : x ∈ ks'
                · rw [if_pos hxk]
                · have : W c x = 0 := Decidable.byContradiction fun z => hxk ((o2 x).mpr z)
                  rw [if_neg hxk, this]; grind
            · rw [a2i i hib]
              obtain ⟨row, g1, g2⟩ := W4.row i hi
              have y2 : a' i ≠ r := fun z => by rw [z, hr4] at g1; cases g1
              have y3 : a' i ≠ a' b := fun z => hib (W4.inj i hi b hbp z)
              refine ⟨row, by rw [cells _ (W4.ap i hi) y2 y3 (hac i hi)]; exact g1, g2.eq fun x => ?_⟩
              rw [take_snoc hb]
              simp [List.mem_append, hib]
          · by_cases hib : i = b
            · subst hib; rw [a2b]; exact Br
            · rw [a2i i hib]; exact W4.a0 i hi
          · by_cases hib : i = b
            · subst hib; rw [a2b]; exact rp
            · rw [a2i i hib]; exact W4.ap i hi
          · by_cases hxb : x = b <;> by_cases hyb : y = b
            · rw [hxb, hyb]
            · rw [hxb, a2b, a2i y hyb] at e
              obtain ⟨row, g1, _⟩ := W4.row y hy
              rw [← e, hr4] at g1; cases g1
            · rw [hyb, a2b, a2i x hxb] at e
              obtain ⟨row, g1, _⟩ := W4.row x hx
              rw [e, hr4] at g1; cases g1
            · rw [a2i x hxb, a2i y hyb] at e
              exact W4.inj x hx y hy e
          · rw [Sto.upd_ne acp, e6 _ rc.symm]; exact h5
          · by_cases hib : i = b
            · subst hib; rw [a2b]; exact rc
            · rw [a2i i hib]; exact hac i hi
    · rintro σ S4 ⟨a', cell, x6, x7, x8, x9, rfl, W4, hown, hcell, hac⟩
      rw [nD_len, List.take_length] at W4
      simp only [wSs, wS, wT, wE, wEs, wO, wC, wI, wG, wGs, startD, List.map_cons, List.map_nil, List.length_cons, List.length_nil, List.replicate, List.cons_append, List.nil_append, List.append_nil, List.set_cons_zero, List.set_cons_succ, List.getElem?_cons_zero, List.getElem?_cons_succ, itT, wipeD, opAddI, opSubI, opMulI, opDivI, opModI, opPowI, opAddT, cmEq, cmNe, cmLt, cmLe, cmGt, cmGe, cmIn, eqI, eqS, inS2, truB, ixT0, ixT1, ixT2, ixT3, ixT4, ixT6, slcT, lenT, absI, intI, tupleT, listT, listRl, decide_true, decide_false, if_true, if_false, Bool.false_eq_true, reduceIte, decide_eq_true_eq, Bool.not_true, Bool.not_false, line, mI_int, mI_bool, mI_str, mI_tuple, mI_list, mB_int, mB_bool, mB_str, mB_tuple, mB_list, mS_int, mS_bool, mS_str, mS_tuple, mS_list, mT_int, mT_bool, mT_str, mT_tuple, mT_list, mN_int, mN_bool, mN_str, mN_tuple, mN_list, anyT, anyF, Nat.zero_add, Nat.reduceAdd, Nat.reduceLeDiff, true_and]
      have W5 : Ways Bq S4 p a' M pre (elim W c) := W4.eq fun i hi x => by
        by_cases hiF : i ∈ F
        · simp only [hiF, if_true]
        · simp only [hiF, if_false]
          have hz : W i c = 0 := Decidable.byContradiction fun z => hiF (by
            rw [← hF]
            exact List.mem_filter.mpr ⟨hi, by simpa using z⟩)
          by_cases e : x = c
          · subst e; rw [elim_at, hz]
          · rw [elim_def e, cm_ne hz]; grind
      exact ⟨S4, Sto.le_refl, hQ q a' S4 Bq0 (by rw [hBq]; exact W5)⟩
end K49
namespace K49
open PySem PySem.Spec PyProof.Rows L2 Mi
variable {k : Nat} {S : Sto} {Q : KD} {X : KX} {pp : Addr} {T : Tr} {s : Nat}
def WO (T : Tr) (o : List Nat) (k : Nat) : Mx := (o.drop k).foldr (fun a W => elim W a) (PM T)
theorem WO_all {o : List Nat} : WO T o o.length = PM T := by unfold WO; rw [List.drop_length]; rfl
theorem WO_step {o : List Nat} {i c : Nat} (h : o[i]? = some c) : WO T o i = elim (WO T o (i + 1)) c := by
  unfold WO
  obtain ⟨hi, e⟩ := List.getElem?_eq_some_iff.mp h
  rw [List.drop_eq_getElem_cons hi, e]; rfl
theorem nodup_at {o : List Nat} {i c : Nat} (hn : o.Nodup) (h : o[i]? = some c) : c ∉ o.take i := fun z => by
  have e := List.take_append_drop i o
  rw [← e, List.nodup_append] at hn
  obtain ⟨h1, e1⟩ := List.getElem?_eq_some_iff.mp h
  exact hn.2.2 c z c (by rw [List.drop_eq_getElem_cons h1, e1]; simp) rfl
theorem wkO {o : List Nat} {u : Nat → Rat} (h : Wk (PM T) o u 1) (hn : o.Nodup) : ∀ d, d ≤ o.length → Wk (WO T o (o.length - d)) (o.take (o.length - d)) u (2 ^ d)
  | 0, _ => by
    rw [Nat.sub_zero, WO_all, List.take_length]
    exact h
  | d + 1, hd => by
    have ih := wkO h hn d (by omega)
    have hi : o.length - (d + 1) < o.length := by omega
    have hc : o[o.length - (d + 1)]? = some o[o.length - (d + 1)] := List.getElem?_eq_getElem hi
    have e : o.length - d = o.length - (d + 1) + 1 := by omega
    rw [e, take_snoc hc] at ih
    rw [WO_step hc]
    have := ih.elim (nodup_at hn hc)
    rwa [Nat.pow_succ, Nat.mul_comm]
theorem wkI {o : List Nat} {u : Nat → Rat} (h : Wk (PM T) o u 1) (hn : o.Nodup) (h5 : o.length ≤ 5) {i : Nat} (hi : i ≤ o.length) (h1 : 1 ≤ i) : ∃ e, e ≤ 16 ∧ Wk (WO T o i) (o.take i) u e := by
  have := wkO h hn (o.length - i) (by omega)
  rw [show o.length - (o.length - i) = i by omega] at this
  refine ⟨_, ?_, this⟩
  have : 2 ^ (o.length - i) ≤ 2 ^ 4 := Nat.pow_le_pow_right (by decide) (by omega)
  omega
theorem cutTo {l : List D} {i : Nat} : Mi.cutD l none (some (i : Int)) = l.take i := by
  unfold Mi.cutD
  rw [HT.sIx_none, HT.sIx_nat, List.drop_zero, Nat.sub_zero]
  by_cases h : i ≤ l.length
  · rw [Nat.min_eq_left h]
  · rw [Nat.min_eq_right (by omega), List.take_length, List.take_of_length_le (by omega)]
theorem cutFrom {l : List D} : Mi.cutD l (some 1) none = l.drop 1 := by
  unfold Mi.cutD
  have : HT.sIx l.length 0 (some 1) = min 1 l.length := HT.sIx_nat _ _ 1
  rw [HT.sIx_none, this]
  cases l with
  | nil => rfl
  | cons a l => simp
theorem nD_take {l : List Nat} {i : Nat} : (nD l).take i = nD (l.take i) := by simp [nD]
theorem nD_drop {l : List Nat} {i : Nat} : (nD l).drop i = nD (l.drop i) := by simp [nD]
theorem nD_get {l : List Nat} {i c : Nat} (h : l[i]? = some c) : (nD l)[i]? = some (.int (c : Int)) := by
  unfold nD; rw [List.getElem?_map, h]; rfl
theorem Wk.zq {W : Mx} {A : List Nat} {u : Nat → Rat} {e : Nat} (h : Wk W A u e) (he : e ≤ 16) {i : Nat} (hi : i ∈ A) (x : Nat) : Zq 300 (W i x) := by
  obtain ⟨E, h0, hE, hd⟩ := h.dn
  obtain ⟨z, hz⟩ := hd i hi x
  have le1 : W i x ≤ ((2 ^ 0 : Nat) : Rat) := by
    by_cases hx : x ∈ A
    · have := sm_ge (f := fun x => W i x) (fun x _ => h.nn i x) hx
      have := h.rs i hi
      have e : ((2 ^ 0 : Nat) : Rat) = 1 := rfl
      rw [e]; grind
    · have : W i x = 0 := Decidable.byContradiction fun z => hx (h.sp i hi x z)
      rw [this]; decide +kernel
  exact (zq_of h0 hE (h.nn i x) le1 hz).mono (by omega)
theorem Wk.zq2 {W : Mx} {pre : List Nat} {a : Nat} {u : Nat → Rat} {e : Nat} (h : Wk W (pre ++ [a]) u e) (he : e ≤ 16) {i : Nat} (hi : i ∈ pre) : Zq 300 (cm W a i) := by
  obtain ⟨F, h0, hF, hd⟩ := h.cm_dn
  obtain ⟨⟨z, hz⟩, hl⟩ := hd i (by simp [hi])
  exact (zq_of h0 hF (h.cm_nn i) hl hz).mono (by omega)
theorem Vs.mono {W : Mx} {A : List Nat} {v : Nat → Rat} {e f : Nat} (h : Vs W A s v e) (hef : e ≤ f) : Vs W A s v f :=
  ⟨h.eq, h.nn, let ⟨E, h0, hE, hd⟩ := h.dn; ⟨E, h0, Nat.le_trans hE (Nat.pow_le_pow_right (by decide) hef), hd⟩, fun j hj => Rat.le_trans (h.le j hj) (ratle (Nat.pow_le_pow_right (by decide) hef))⟩
theorem Vs.zq {W : Mx} {A : List Nat} {v : Nat → Rat} {e : Nat} (h : Vs W A s v e) {j : Nat} (hj : j ∈ A) : Zq (2 * e + 1) (v j) := by
  obtain ⟨E, h0, hE, hd⟩ := h.dn
  obtain ⟨z, hz⟩ := hd j hj
  exact (zq_of h0 hE (h.nn j hj) (h.le j hj) hz).mono (by omega)
theorem part_zq {W : Mx} {pre l : List Nat} {a : Nat} {u v : Nat → Rat} {e f : Nat} (h : Wk W (pre ++ [a]) u e) (hv : Vs (K49.elim W a) pre s v f) (hl : l.length ≤ 8) (hs : ∀ b ∈ l, b ∈ pre) : Zq (2 * (f + e) + 4) (sm (fun b => v b * cm W a b) l) := by
  obtain ⟨F, f0, fF, hF⟩ := h.cm_dn
  obtain ⟨E, h0, hE, hd⟩ := hv.dn
  have e1 : (((E * F : Nat)) : Rat) = (E : Rat) * (F : Rat) := Rat.natCast_mul ..
  obtain ⟨z, hz⟩ : ∃ z : Int, sm (fun b => v b * cm W a b) l * ((E * F : Nat) : Rat) = (z : Rat) := by
    rw [e1]
    refine sm_dn fun b hb => ?_
    obtain ⟨z1, q1⟩ := hd b (hs b hb)
    obtain ⟨z2, q2⟩ := (hF b (by simp [hs b hb])).1
    refine ⟨z1 * z2, ?_⟩
    rw [Rat.intCast_mul, ← q1, ← q2]
    grind
  have nn : 0 ≤ sm (fun b => v b * cm W a b) l := sm_nonneg fun b hb => mul_nn (hv.nn b (hs b hb)) (h.cm_nn b)
  have h1 : sm (fun b => v b * cm W a b) l ≤ sm (fun _ => ((2 ^ f : Nat) : Rat) * ((2 ^ e : Nat) : Rat)) l := sm_le fun b hb => by
    have g1 := hv.le b (hs b hb)
    have g2 := (hF b (by simp [hs b hb])).2
    have g3 := hv.nn b (hs b hb)
    have g4 := h.cm_nn b
    have g5 : v b * cm W a b ≤ ((2 ^ f : Nat) : Rat) * cm W a b := Rat.mul_le_mul_of_nonneg_right g1 g4
    have g6 : ((2 ^ f : Nat) : Rat) * cm W a b ≤ ((2 ^ f : Nat) : Rat) * ((2 ^ e : Nat) : Rat) := Rat.mul_le_mul_of_nonneg_left g2 (by grind)
    exact Rat.le_trans g5 g6
  rw [sm_const, ← Rat.natCast_mul, ← Rat.natCast_mul, ← Nat.pow_add] at h1
  have h2 : l.length * 2 ^ (f + e) ≤ 2 ^ (f + e + 3) := by
    have e2 : 2 ^ (f + e + 3) = 8 * 2 ^ (f + e) := by rw [Nat.pow_add]; omega
    rw [e2]
    exact Nat.mul_le_mul_right _ hl
  have hE2 : E * F ≤ 2 ^ (f + e) := by
    have : E * F ≤ 2 ^ f * 2 ^ e := Nat.mul_le_mul hE fF
    rwa [← Nat.pow_add] at this
  exact (zq_of (Nat.mul_pos h0 f0) hE2 nn (Rat.le_trans h1 (ratle h2)) hz).mono (by omega)
theorem rpos {q : Rat} (h : 0 < q) : 0 < q.num := by
  have h2 : 0 ≤ q.num := Rat.num_nonneg.mpr (Rat.le_of_lt h)
  have h3 : q.num ≠ 0 := fun z => by rw [Rat.num_eq_zero.mp z] at h; exact absurd h (by decide)
  omega
def ordr (s : Nat) (M : List Nat) : List Nat := s :: M.filter fun x => decide (x ≠ s)
theorem ordr_mem {M : List Nat} (hs : s ∈ M) {x : Nat} : x ∈ ordr s M ↔ x ∈ M := by
  unfold ordr
  rw [List.mem_cons, List.mem_filter]
  by_cases e : x = s
  · subst e; simp [hs]
  · simp [e]
theorem ordr_nodup {M : List Nat} (h : M.Nodup) : (ordr s M).Nodup := by
  unfold ordr
  rw [List.nodup_cons]
  exact ⟨by simp, h.sublist List.filter_sublist⟩
def outS (s : Nat) (d : D) : Option D := if d = .int (s : Int) then none else some d
theorem outS_nD {s : Nat} : ∀ {M : List Nat}, (nD M).filterMap (outS s) = nD (M.filter fun x => decide (x ≠ s))
  | [] => rfl
  | a :: l => by
    show List.filterMap (outS s) (.int (a : Int) :: nD l) = _
    rw [List.filterMap_cons, List.filter_cons]
    have ih := outS_nD (s := s) (M := l)
    by_cases h : a = s
    · have : outS s (.int (a : Int)) = none := if_pos (by rw [h])
      rw [this]
      simp only [ne_eq, h, not_true, decide_false, Bool.false_eq_true, if_false]
      exact ih
    · have h1 : ¬ (D.int (a : Int) = D.int (s : Int)) := fun z => h (intE.mp z)
      have : outS s (.int (a : Int)) = some (.int (a : Int)) := if_neg h1
      rw [this]
      simp only [ne_eq, h, not_false_eq_true, decide_true, if_true]
      rw [outS_nD]; rfl
end K49
namespace K49
open PySem PySem.Spec PyProof.Rows L2 Mi
variable {k : Nat} {S : Sto} {Q : KD} {X : KX} {pp : Addr} {T : Tr} {s : Nat}
structure Com (T : Tr) (S B : Sto) (o : List Nat) (po pc : Addr) (qc : Nat → Addr) (j : Nat) : Prop where
  le : S.le B
  pc0 : S pc = none
  ord : B po = some (.lst (nD o))
  dict : B pc = some (.dct (en (fun i => .ref (qc i)) (o.drop j).reverse))
  row : ∀ i c, j ≤ i → o[i]? = some c → B (qc c) = some (.fdc (en (cmD (WO T o (i + 1)) c) (cmF (WO T o (i + 1)) c (o.take i))))
theorem visits_ok (ok : TrOk T) (hs : s < T.length) {M0 E : List Nat} (h0 : ∀ x, x ∈ M0 ↔ Rc T s x) (hE : EndOk T M0 E) (all : ∀ x ∈ M0, x ∈ E) (hk : 3 < k)
    (hQ : ∀ (q : Addr) (o : List Nat) (v : Nat → Rat), S q = none → o.Nodup → (∀ x, x ∈ o ↔ Rc T s x) → Vs (PM T) o s v 100 → Q (.ref q) (S.upd q (.dct (en (fun j => rq (v j)) o)))) : Γ k "visits" [tD T, .int (s : Int)] S Q X := by
  cases k with
  | zero => omega
  | succ k =>
  refine gam (np := 2) (nn := 12) (b := b_visits) rfl rfl ?_
  have l5 := ok.l5
  simp only [b_visits, wSs, wS, wT, wE, wEs, wO, wC, wI, wG, wGs, startD, List.map_cons, List.map_nil, List.length_cons, List.length_nil, List.replicate, List.cons_append, List.nil_append, List.append_nil, List.set_cons_zero, List.set_cons_succ, List.getElem?_cons_zero, List.getElem?_cons_succ, itT, wipeD, opAddI, opSubI, opMulI, opDivI, opModI, opPowI, opAddT, cmEq, cmNe, cmLt, cmLe, cmGt, cmGe, cmIn, eqI, eqS, inS2, truB, ixT0, ixT1, ixT2, ixT3, ixT4, ixT6, slcT, lenT, absI, intI, tupleT, listT, listRl, decide_true, decide_false, if_true, if_false, Bool.false_eq_true, reduceIte, decide_eq_true_eq, Bool.not_true, Bool.not_false, line, mI_int, mI_bool, mI_str, mI_tuple, mI_list, mB_int, mB_bool, mB_str, mB_tuple, mB_list, mS_int, mS_bool, mS_str, mS_tuple, mS_list, mT_int, mT_bool, mT_str, mT_tuple, mT_list, mN_int, mN_bool, mN_str, mN_tuple, mN_list, anyT, anyF, Nat.zero_add, Nat.reduceAdd, Nat.reduceLeDiff, true_and]
  refine met_ok ok hs (by omega) fun pm M hpm hM1 hM2 => ?_
  have hMd := asc_nodup hM1
  have lt : ∀ x ∈ M, x < T.length := fun x hx => ((hM2 x).mp hx).lt ok hs
  have lM := nodup_le hMd lt
  intro p1 hp1
  have S1 := Sto.le_new (c := .lst (nD M)) hpm
  have pm1 : pm ≠ p1 := fun z => by subst z; rw [Sto.upd_same] at hp1; cases hp1
  have hMa : ((S.upd pm (.lst (nD M))).upd p1 (.lst [.int (s : Int)])) pm = some (.lst (nD M)) := by rw [Sto.upd_ne pm1, Sto.upd_same]
  have h1a : ((S.upd pm (.lst (nD M))).upd p1 (.lst [.int (s : Int)])) p1 = some (.lst (nD [s])) := Sto.upd_same
  have le1 : S.le ((S.upd pm (.lst (nD M))).upd p1 (.lst [.int (s : Int)])) := Sto.le_new' S1 hp1
  generalize (S.upd pm (.lst (nD M))).upd p1 (.lst [.int (s : Int)]) = S2 at *
  rw [itL hMa]
  refine ⟨by rw [nD_len]; omega, ?_⟩
  refine cmpL_pure (outS s) hMa (fun d hd P hP => ?_) ?_
  · obtain ⟨a, ha, rfl⟩ := List.mem_map.mp hd
    simp only [wSs, wS, wT, wE, wEs, wO, wC, wI, wG, wGs, startD, List.map_cons, List.map_nil, List.length_cons, List.length_nil, List.replicate, List.cons_append, List.nil_append, List.append_nil, List.set_cons_zero, List.set_cons_succ, List.getElem?_cons_zero, List.getElem?_cons_succ, itT, wipeD, opAddI, opSubI, opMulI, opDivI, opModI, opPowI, opAddT, cmEq, cmNe, cmLt, cmLe, cmGt, cmGe, cmIn, eqI, eqS, inS2, truB, ixT0, ixT1, ixT2, ixT3, ixT4, ixT6, slcT, lenT, absI, intI, tupleT, listT, listRl, decide_true, decide_false, if_true, if_false, Bool.false_eq_true, reduceIte, decide_eq_true_eq, Bool.not_true, Bool.not_false, line, mI_int, mI_bool, mI_str, mI_tuple, mI_list, mB_int, mB_bool, mB_str, mB_tuple, mB_list, mS_int, mS_bool, mS_str, mS_tuple, mS_list, mT_int, mT_bool, mT_str, mT_tuple, mT_list, mN_int, mN_bool, mN_str, mN_tuple, mN_list, anyT, anyF, Nat.zero_add, Nat.reduceAdd, Nat.reduceLeDiff, true_and, e_visits_1]
    by_cases h : a = s
    · have : outS s (.int (a : Int)) = none := if_pos (by rw [h])
      rw [this] at hP
      have e : ((a : Int) = (s : Int)) := by omega
      simp only [e, opAddI, opSubI, opMulI, opDivI, opModI, opPowI, opAddT, cmEq, cmNe, cmLt, cmLe, cmGt, cmGe, cmIn, eqI, eqS, inS2, truB, ixT0, ixT1, ixT2, ixT3, ixT4, ixT6, slcT, lenT, absI, intI, tupleT, listT, listRl, decide_true, decide_false, if_true, if_false, Bool.false_eq_true, reduceIte, decide_eq_true_eq, Bool.not_true, Bool.not_false, line, mI_int, mI_bool, mI_str, mI_tuple, mI_list, mB_int, mB_bool, mB_str, mB_tuple, mB_list, mS_int, mS_bool, mS_str, mS_tuple, mS_list, mT_int, mT_bool, mT_str, mT_tuple, mT_list, mN_int, mN_bool, mN_str, mN_tuple, mN_list, anyT, anyF, Nat.zero_add, Nat.reduceAdd, Nat.reduceLeDiff, true_and, not_true]
      exact hP
    · have h1 : ¬ (D.int (a : Int) = D.int (s : Int)) := fun z => h (intE.mp z)
      have : outS s (.int (a : Int)) = some (.int (a : Int)) := if_neg h1
      rw [this] at hP
      have e : ¬ ((a : Int) = (s : Int)) := by omega
      simp only [e, opAddI, opSubI, opMulI, opDivI, opModI, opPowI, opAddT, cmEq, cmNe, cmLt, cmLe, cmGt, cmGe, cmIn, eqI, eqS, inS2, truB, ixT0, ixT1, ixT2, ixT3, ixT4, ixT6, slcT, lenT, absI, intI, tupleT, listT, listRl, decide_true, decide_false, if_true, if_false, Bool.false_eq_true, reduceIte, decide_eq_true_eq, Bool.not_true, Bool.not_false, line, mI_int, mI_bool, mI_str, mI_tuple, mI_list, mB_int, mB_bool, mB_str, mB_tuple, mB_list, mS_int, mS_bool, mS_str, mS_tuple, mS_list, mT_int, mT_bool, mT_str, mT_tuple, mT_list, mN_int, mN_bool, mN_str, mN_tuple, mN_list, anyT, anyF, Nat.zero_add, Nat.reduceAdd, Nat.reduceLeDiff, true_and, not_false_eq_true]
      exact hP
  rw [outS_nD]
  intro p2 hp2
  have p12 : p1 ≠ p2 := fun z => by subst z; rw [h1a] at hp2; cases hp2
  have hMb : (S2.upd p2 (.lst (nD (M.filter fun x => decide (x ≠ s))))) pm = some (.lst (nD M)) := by
    have : pm ≠ p2 := fun z => by subst z; rw [hMa] at hp2; cases hp2
    rw [Sto.upd_ne this]; exact hMa
  rw [opAddL (show (S2.upd p2 (.lst (nD (M.filter fun x => decide (x ≠ s))))) p1 = some (.lst (nD [s])) by rw [Sto.upd_ne p12]; exact h1a) Sto.upd_same, nD_append]
  have eo : [s] ++ M.filter (fun x => decide (x ≠ s)) = ordr s M := rfl
  rw [eo]
  have sM : s ∈ M := (hM2 s).mpr .self
  have om : ∀ x, x ∈ ordr s M ↔ Rc T s x := fun x => (ordr_mem sM).trans (hM2 x)
  have ond : (ordr s M).Nodup := ordr_nodup hMd
  have olt : ∀ x ∈ ordr s M, x < T.length := fun x hx => ((om x).mp hx).lt ok hs
  have olen := nodup_le ond olt
  have o1 : 1 ≤ (ordr s M).length := by unfold ordr; simp
  have o0 : (ordr s M)[0]? = some s := rfl
  refine ⟨by
    rw [nD_len, nD_len, line]
    have := List.length_filter_le (fun x => decide (x ≠ s)) M
    simp only [List.length_cons, List.length_nil]
    omega, fun po hpo => ?_⟩
  have le2 : S.le (S2.upd p2 (.lst (nD (M.filter fun x => decide (x ≠ s))))) := Sto.le_new' le1 hp2
  have hMc : ((S2.upd p2 (.lst (nD (M.filter fun x => decide (x ≠ s))))).upd po (.lst (nD (ordr s M)))) pm = some (.lst (nD M)) := by
    have : pm ≠ po := fun z => by subst z; rw [hMb] at hpo; cases hpo
    rw [Sto.upd_ne this]; exact hMb
  have hPo : ((S2.upd p2 (.lst (nD (M.filter fun x => decide (x ≠ s))))).upd po (.lst (nD (ordr s M)))) po = some (.lst (nD (ordr s M))) := Sto.upd_same
  have le3 : S.le ((S2.upd p2 (.lst (nD (M.filter fun x => decide (x ≠ s))))).upd po (.lst (nD (ordr s M)))) := Sto.le_new' le2 hpo
  generalize (S2.upd p2 (.lst (nD (M.filter fun x => decide (x ≠ s))))).upd po (.lst (nD (ordr s M))) = S3 at *
  clear hMa hMb h1a hp1 hp2 hpo
  refine ways_ok ok hMc hMd lt (by omega) fun p a S4 Wy => ?_
  have wk0 : Wk (PM T) (ordr s M) (uE E) 1 := wk_of hE ok (fun x hx => ((h0 x).mp hx).lt ok hs) (fun x hx j hj => (h0 j).mpr (((h0 x).mp hx).next hj)) all ond fun x => (om x).trans (h0 x).symm
  generalize ho : ordr s M = o at *
  have oM : ∀ x, x ∈ o ↔ x ∈ M := fun x => (om x).trans (hM2 x).symm
  intro pc hpc
  have Wy1 := (Wy.new (c := .dct []) hpc)
  have pco : po ≠ pc := fun z => by subst z; rw [Wy.le _ _ hPo] at hpc; cases hpc
  have hlen : bltR .len [.ref po] (S4.upd pc (.dct [])) = fun Q' => Q' (.int (o.length : Int)) (S4.upd pc (.dct [])) := by
    funext Q'
    rw [lenL (show (S4.upd pc (.dct [])) po = some (.lst (nD o)) by rw [Sto.upd_ne pco]; exact Wy.le _ _ hPo), nD_len]
  simp only [hlen, opAddI, opSubI, opMulI, opDivI, opModI, opPowI, opAddT, cmEq, cmNe, cmLt, cmLe, cmGt, cmGe, cmIn, eqI, eqS, inS2, truB, ixT0, ixT1, ixT2, ixT3, ixT4, ixT6, slcT, lenT, absI, intI, tupleT, listT, listRl, decide_true, decide_false, if_true, if_false, Bool.false_eq_true, reduceIte, decide_eq_true_eq, Bool.not_true, Bool.not_false, line, mI_int, mI_bool, mI_str, mI_tuple, mI_list, mB_int, mB_bool, mB_str, mB_tuple, mB_list, mS_int, mS_bool, mS_str, mS_tuple, mS_list, mT_int, mT_bool, mT_str, mT_tuple, mT_list, mN_int, mN_bool, mN_str, mN_tuple, mN_list, anyT, anyF, Nat.zero_add, Nat.reduceAdd, Nat.reduceLeDiff, true_and]
  refine ⟨by unfold inB; omega, by unfold inB; omega, ?_⟩
  have en1 : ((o.length : Int) - 1 - 0).toNat = o.length - 1 := by omega
  rw [en1]
  have WyO : Ways (S3.upd pc (.dct [])) (S4.upd pc (.dct [])) p a M (o.take o.length) (WO T o o.length) := by
    rw [WO_all, List.take_length]
    exact ⟨Wy1.le, Wy1.p0, Wy1.dict, fun i hi => Wy1.row i ((oM i).mp hi), fun i hi => Wy1.a0 i ((oM i).mp hi), fun i hi => Wy1.ap i ((oM i).mp hi), fun i hi j hj => Wy1.inj i ((oM i).mp hi) j ((oM j).mp hj)⟩
  have S3pc := le_none Wy.le hpc
  refine forL_inv (rngDn ((o.length : Int) - 1) (o.length - 1)) (fun i σ S' => ∃ B qc a x6 x7 x8 x9 x10 x11, σ = [some (tD T), some (.int (s : Int)), some (.ref pm), some (.ref po), some (.ref p), some (.ref pc), x6, x7, x8, x9, x10, x11] ∧ i ≤ o.length - 1 ∧ Ways B S' p a M (o.take (o.length - i)) (WO T o (o.length - i)) ∧ Com T S B o po pc qc (o.length - i)) (fun _ _ _ _ => trivial) ?_ ?_
    ⟨_, fun _ => 0, a, _, _, _, _, _, _, rfl, by omega, WyO, ⟨Sto.le_new' le3 S3pc, le_none le3 S3pc, by rw [Sto.upd_ne pco]; exact hPo, by rw [Sto.upd_same, Nat.sub_zero, List.drop_length]; rfl, fun i c h1 h2 => by
      have := (List.getElem?_eq_some_iff.mp h2).1
      omega⟩⟩
  · rintro i d σ S5 NX hd ⟨B, qc, a, x6, x7, x8, x9, x10, x11, rfl, hi, W5, C⟩ hN
    have hi2 : i < o.length - 1 := by
      have := (List.getElem?_eq_some_iff.mp hd).1
      simpa [rngDn] using this
    obtain ⟨j, hj⟩ : ∃ j, o.length - i = j + 1 := ⟨o.length - i - 1, by omega⟩
    have ed : d = .int (j : Int) := by
      unfold rngDn at hd
      rw [List.getElem?_map, List.getElem?_range hi2] at hd
      have hd : D.int ((o.length : Int) - 1 + (i : Int) * (-1)) = d := by simpa using hd
      rw [← hd]
      congr 1
      omega
    subst ed
    rw [hj] at W5 C
    have hjl : j < o.length := by omega
    have hc : o[j]? = some o[j] := List.getElem?_eq_getElem hjl
    generalize o[j] = c at hc
    rw [take_snoc hc] at W5
    have hcn := nodup_at ond hc
    obtain ⟨e, he, wk⟩ := wkI wk0 ond (by omega) (show j + 1 ≤ o.length by omega) (by omega)
    rw [take_snoc hc] at wk
    have hPo5 : S5 po = some (.lst (nD o)) := W5.le _ _ C.ord
    simp only [s_visits_2, wSs, wS, wT, wE, wEs, wO, wC, wI, wG, wGs, startD, List.map_cons, List.map_nil, List.length_cons, List.length_nil, List.replicate, List.cons_append, List.nil_append, List.append_nil, List.set_cons_zero, List.set_cons_succ, List.getElem?_cons_zero, List.getElem?_cons_succ, itT, wipeD, opAddI, opSubI, opMulI, opDivI, opModI, opPowI, opAddT, cmEq, cmNe, cmLt, cmLe, cmGt, cmGe, cmIn, eqI, eqS, inS2, truB, ixT0, ixT1, ixT2, ixT3, ixT4, ixT6, slcT, lenT, absI, intI, tupleT, listT, listRl, decide_true, decide_false, if_true, if_false, Bool.false_eq_true, reduceIte, decide_eq_true_eq, Bool.not_true, Bool.not_false, line, mI_int, mI_bool, mI_str, mI_tuple, mI_list, mB_int, mB_bool, mB_str, mB_tuple, mB_list, mS_int, mS_bool, mS_str, mS_tuple, mS_list, mT_int, mT_bool, mT_str, mT_tuple, mT_list, mN_int, mN_bool, mN_str, mN_tuple, mN_list, anyT, anyF, Nat.zero_add, Nat.reduceAdd, Nat.reduceLeDiff, true_and, slcL hPo5, cutTo, nD_take]
    intro pl hpl
    have Bpl := le_none W5.le hpl
    have plo : po ≠ pl := fun z => by subst z; rw [hPo5] at hpl; cases hpl
    have W6 := W5.new (c := .lst (nD (o.take j))) hpl
    have hPo6 : (S5.upd pl (.lst (nD (o.take j)))) po = some (.lst (nD o)) := by rw [Sto.upd_ne plo]; exact hPo5
    rw [ixL hPo6 (atIk j rfl (nD_get hc))]
    have hnd : (o.take j ++ [c]).Nodup := by rw [← take_snoc hc]; exact ond.sublist (List.take_sublist ..)
    have sub : ∀ x ∈ o.take j ++ [c], x ∈ M := fun x hx => (oM x).mp (by
      rw [← take_snoc hc] at hx
      exact List.mem_of_mem_take hx)
    refine left_ok (B := B.upd pl (.lst (nD (o.take j)))) W6 Sto.upd_same wk hnd sub (fun x hx => by have := lt x hx; omega) (by omega) (fun x hx y => wk.zq he hx y) (fun x hx => wk.zq2 he hx) (by omega) fun q a' S7 hq W7 => ?_
    have pclq : pc ≠ pl := fun z => by subst z; rw [C.dict] at Bpl; cases Bpl
    have pcq : pc ≠ q := fun z => by
      subst z
      rw [Sto.upd_ne pclq, C.dict] at hq; cases hq
    have poq : po ≠ q := fun z => by
      subst z
      rw [Sto.upd_ne plo, C.ord] at hq; cases hq
    have plq : pl ≠ q := fun z => by subst z; rw [Sto.upd_same] at hq; cases hq
    have Bq : B q = none := by rw [Sto.upd_ne plq.symm] at hq; exact hq
    have hPo7 : S7 po = some (.lst (nD o)) := W7.le _ _ (by rw [Sto.upd_ne poq, Sto.upd_ne plo]; exact C.ord)
    have hPc7 : S7 pc = some (.dct (en (fun i => .ref (qc i)) (o.drop (j + 1)).reverse)) := W7.le _ _ (by rw [Sto.upd_ne pcq, Sto.upd_ne pclq]; exact C.dict)
    simp only [opAddI, opSubI, opMulI, opDivI, opModI, opPowI, opAddT, cmEq, cmNe, cmLt, cmLe, cmGt, cmGe, cmIn, eqI, eqS, inS2, truB, ixT0, ixT1, ixT2, ixT3, ixT4, ixT6, slcT, lenT, absI, intI, tupleT, listT, listRl, decide_true, decide_false, if_true, if_false, Bool.false_eq_true, reduceIte, decide_eq_true_eq, Bool.not_true, Bool.not_false, line, mI_int, mI_bool, mI_str, mI_tuple, mI_list, mB_int, mB_bool, mB_str, mB_tuple, mB_list, mS_int, mS_bool, mS_str, mS_tuple, mS_list, mT_int, mT_bool, mT_str, mT_tuple, mT_list, mN_int, mN_bool, mN_str, mN_tuple, mN_list, anyT, anyF, Nat.zero_add, Nat.reduceAdd, Nat.reduceLeDiff, true_and, ixL hPo7 (atIk j rfl (nD_get hc))]
    have hcd : c ∉ (o.drop (j + 1)).reverse := fun z => by
      rw [List.mem_reverse] at z
      have e := List.take_append_drop (j + 1) o
      rw [← e, List.nodup_append] at ond
      exact ond.2.2 c (by rw [take_snoc hc]; simp) c z rfl
    have ldr : (o.drop (j + 1)).reverse.length ≤ 100 := by rw [List.length_reverse, List.length_drop]; omega
    rw [setEn hPc7 ldr, if_neg hcd]
    let qc' : Nat → Addr := fun i => if i = c then q else qc i
    have e1 : en (fun i => if i = c then D.ref q else D.ref (qc i)) ((o.drop (j + 1)).reverse ++ [c]) = en (fun i => .ref (qc' i)) (o.drop j).reverse := by
      have : (o.drop j).reverse = (o.drop (j + 1)).reverse ++ [c] := by
        obtain ⟨h1, e1⟩ := List.getElem?_eq_some_iff.mp hc
        rw [List.drop_eq_getElem_cons h1, e1, List.reverse_cons]
      rw [this]
      refine en_congr fun x _ => ?_
      show _ = D.ref (if x = c then q else qc x)
      split <;> rfl
    rw [e1]
    have W8 := W7.set (x := pc) (c := .dct (en (fun i => .ref (qc' i)) (o.drop j).reverse)) (by rw [Sto.upd_ne pcq, Sto.upd_ne pclq]; exact C.dict)
    have hji : o.length - (i + 1) = j := by omega
    obtain ⟨Bn, hBn⟩ : ∃ Bn, Bn = ((B.upd pl (.lst (nD (o.take j)))).upd q (.fdc (en (cmD (WO T o (j + 1)) c) (cmF (WO T o (j + 1)) c (o.take j))))).upd pc (.dct (en (fun i => .ref (qc' i)) (o.drop j).reverse)) := ⟨_, rfl⟩
    rw [← hBn, ← WO_step hc] at W8
    refine hN _ _ ⟨Bn, qc', a', _, _, _, _, _, _, rfl, by omega, by rw [hji]; exact W8, ?_⟩
    rw [hBn, hji]
    refine ⟨?_, C.pc0, ?_, ?_, ?_⟩
    · have c1 : S.le ((B.upd pl (.lst (nD (o.take j)))).upd q (.fdc (en (cmD (WO T o (j + 1)) c) (cmF (WO T o (j + 1)) c (o.take j))))) := Sto.le_new' (Sto.le_new' C.le Bpl) hq
      intro y cc hy
      by_cases hyc : y = pc
      · subst hyc
        rw [C.pc0] at hy; cases hy
      · rw [Sto.upd_ne hyc]; exact c1 y cc hy
    · rw [Sto.upd_ne pco, Sto.upd_ne poq, Sto.upd_ne plo]; exact C.ord
    · rw [Sto.upd_same]
    · intro i' c' h1 h2
      by_cases hij : i' = j
      · subst hij
        rw [hc] at h2
        cases h2
        have : qc' c = q := if_pos rfl
        rw [this, Sto.upd_ne pcq.symm, Sto.upd_same]
      · have hc' : c' ≠ c := fun z => by
          subst z
          refine nodup_at ond h2 (List.mem_iff_getElem?.mpr ⟨j, ?_⟩)
          rw [List.getElem?_take_of_lt (by omega)]
          exact hc
        have hrow := C.row i' c' (by omega) h2
        have : qc' c' = qc c' := if_neg hc'
        rw [this]
        have y1 : qc c' ≠ pc := fun z => by rw [z, C.dict] at hrow; cases hrow
        have y2 : qc c' ≠ q := fun z => by rw [z, Bq] at hrow; cases hrow
        have y3 : qc c' ≠ pl := fun z => by rw [z, Bpl] at hrow; cases hrow
        rw [Sto.upd_ne y1, Sto.upd_ne y2, Sto.upd_ne y3]; exact hrow
  · rintro σ S5 ⟨B, qc, a, x6, x7, x8, x9, x10, x11, rfl, hi, W5, C⟩
    have hl : (rngDn ((o.length : Int) - 1) (o.length - 1)).length = o.length - 1 := by simp [rngDn]
    rw [hl, show o.length - (o.length - 1) = 1 by omega] at W5 C
    have t1 : o.take 1 = [s] := by rw [take_snoc o0]; rfl
    rw [t1] at W5
    obtain ⟨row, hrow, Fr⟩ := W5.row s (by simp)
    obtain ⟨e1, he1, wk1⟩ := wkI wk0 ond (by omega) o1 (Nat.le_refl 1)
    rw [t1] at wk1
    have piv : 0 < 1 - WO T o 1 s s := by have := Wk.piv (pre := []) wk1; grind
    have zp : Zq 302 (1 - WO T o 1 s s) := by
      have h1 := zq1.add (wk1.zq he1 (i := s) (by simp) s).neg
      rw [Rat.sub_eq_add_neg]
      exact h1
    simp only [wSs, wS, wT, wE, wEs, wO, wC, wI, wG, wGs, startD, List.map_cons, List.map_nil, List.length_cons, List.length_nil, List.replicate, List.cons_append, List.nil_append, List.append_nil, List.set_cons_zero, List.set_cons_succ, List.getElem?_cons_zero, List.getElem?_cons_succ, itT, wipeD, opAddI, opSubI, opMulI, opDivI, opModI, opPowI, opAddT, cmEq, cmNe, cmLt, cmLe, cmGt, cmGe, cmIn, eqI, eqS, inS2, truB, ixT0, ixT1, ixT2, ixT3, ixT4, ixT6, slcT, lenT, absI, intI, tupleT, listT, listRl, decide_true, decide_false, if_true, if_false, Bool.false_eq_true, reduceIte, decide_eq_true_eq, Bool.not_true, Bool.not_false, line, mI_int, mI_bool, mI_str, mI_tuple, mI_list, mB_int, mB_bool, mB_str, mB_tuple, mB_list, mS_int, mS_bool, mS_str, mS_tuple, mS_list, mT_int, mT_bool, mT_str, mT_tuple, mT_list, mN_int, mN_bool, mN_str, mN_tuple, mN_list, anyT, anyF, Nat.zero_add, Nat.reduceAdd, Nat.reduceLeDiff, true_and, ixEn W5.dict sM, gO, gZ, mtyGd hrow, getFd hrow Fr]
    refine minus_rq (by omega) (zq1.mono (by decide)) ((wk1.zq he1 (i := s) (by simp) s).mono (by decide)) ?_
    refine over_rq (by omega) (zq1.mono (by decide)) (zp.mono (by decide)) (rpos piv) ?_
    have V0 := Vs.first wk1
    generalize hv0 : (fun _ : Nat => 1 / (1 - WO T o 1 s s)) = v0 at V0
    have ev : (1 / (1 - WO T o 1 s s)) = v0 s := by rw [← hv0]
    rw [ev]
    refine ⟨rfl, fun p7 hp7 => ?_⟩
    have e7 : dmerge [] (List.zip [D.int (s : Int)] [rq (v0 s)]) = en (fun j => rq (v0 j)) (o.take 1) := by rw [t1]; rfl
    rw [e7]
    have B7 := le_none W5.le hp7
    have Sp7 := le_none C.le B7
    have hle6 : B.le (S5.upd p7 (.dct (en (fun j => rq (v0 j)) (o.take 1)))) := Sto.le_new' W5.le hp7
    have h67 : (S5.upd p7 (.dct (en (fun j => rq (v0 j)) (o.take 1)))) p7 = some (.dct (en (fun j => rq (v0 j)) (o.take 1))) := Sto.upd_same
    generalize S5.upd p7 (.dct (en (fun j => rq (v0 j)) (o.take 1))) = S6 at hle6 h67 ⊢
    have hPo6 : S6 po = some (.lst (nD o)) := hle6 _ _ C.ord
    rw [slcL hPo6, cutFrom, nD_drop]
    intro p8 hp8
    have p78 : p7 ≠ p8 := fun z => by subst z; rw [h67] at hp8; cases hp8
    rw [itL Sto.upd_same]
    have dl : (o.drop 1).length = o.length - 1 := List.length_drop
    rw [← t1] at V0
    refine forL_inv (nD (o.drop 1)) (fun i σ S' => ∃ v f x6 x8 x9 x10 x11, σ = [some (tD T), some (.int (s : Int)), some (.ref pm), some (.ref po), some (.ref p), some (.ref pc), x6, some (.ref p7), x8, x9, x10, x11] ∧ B.le S' ∧ S' p7 = some (.dct (en (fun j => rq (v j)) (o.take (i + 1)))) ∧ S' p8 = some (.lst (nD (o.drop 1))) ∧ Vs (WO T o (i + 1)) (o.take (i + 1)) s v f ∧ f ≤ 16 + 19 * i) (fun _ _ _ ⟨_, _, _, _, _, _, _, _, _, _, h, _⟩ => h) ?_ ?_
      ⟨v0, e1, _, _, _, _, _, rfl, Sto.le_new' hle6 hp8, by rw [Sto.upd_ne p78]; exact h67, Sto.upd_same, V0, by omega⟩
    · rintro i d σ S7 NX hd ⟨v, f, x6, x8, x9, x10, x11, rfl, hle7, h77, h78, V, hf⟩ hN
      unfold nD at hd
      rw [List.getElem?_map, Option.map_eq_some_iff] at hd
      obtain ⟨c, hc, rfl⟩ := hd
      have hil : i < o.length - 1 := by rw [← dl]; exact (List.getElem?_eq_some_iff.mp hc).1
      have hcd := List.mem_of_getElem? hc
      rw [List.getElem?_drop, Nat.add_comm] at hc
      obtain ⟨e, he, wk⟩ := wkI wk0 ond (by omega) (show i + 2 ≤ o.length by omega) (by omega)
      rw [take_snoc hc] at wk
      have hcn := nodup_at ond hc
      have V' := V
      rw [WO_step hc] at V'
      have hrow := hle7 _ _ (C.row (i + 1) c (by omega) hc)
      have hF : cmF (WO T o (i + 2)) c (o.take (i + 1)) = (o.take (i + 1)).filter fun b => decide (WO T o (i + 2) b c ≠ 0) := rfl
      have hrow : S7 (qc c) = some (.fdc (en (cmD (WO T o (i + 2)) c) (cmF (WO T o (i + 2)) c (o.take (i + 1))))) := hrow
      have tl5 : (o.take (i + 1)).length ≤ 5 := by rw [List.length_take]; omega
      simp only [s_visits_4, wSs, wS, wT, wE, wEs, wO, wC, wI, wG, wGs, startD, List.map_cons, List.map_nil, List.length_cons, List.length_nil, List.replicate, List.cons_append, List.nil_append, List.append_nil, List.set_cons_zero, List.set_cons_succ, List.getElem?_cons_zero, List.getElem?_cons_succ, itT, wipeD, opAddI, opSubI, opMulI, opDivI, opModI, opPowI, opAddT, cmEq, cmNe, cmLt, cmLe, cmGt, cmGe, cmIn, eqI, eqS, inS2, truB, ixT0, ixT1, ixT2, ixT3, ixT4, ixT6, slcT, lenT, absI, intI, tupleT, listT, listRl, decide_true, decide_false, if_true, if_false, Bool.false_eq_true, reduceIte, decide_eq_true_eq, Bool.not_true, Bool.not_false, line, mI_int, mI_bool, mI_str, mI_tuple, mI_list, mB_int, mB_bool, mB_str, mB_tuple, mB_list, mS_int, mS_bool, mS_str, mS_tuple, mS_list, mT_int, mT_bool, mT_str, mT_tuple, mT_list, mN_int, mN_bool, mN_str, mN_tuple, mN_list, anyT, anyF, Nat.zero_add, Nat.reduceAdd, Nat.reduceLeDiff, true_and, gZ, ixEn (hle7 _ _ C.dict) (List.mem_reverse.mpr hcd)]
      rw [itmFd hrow en_keyW, en_items]
      generalize hW : WO T o (i + 2) = W at *
      generalize hFF : cmF W c (o.take (i + 1)) = F at *
      have Fs : ∀ b ∈ F, b ∈ o.take (i + 1) := fun b hb => by
        rw [hF] at hb
        exact (List.mem_filter.mp hb).1
      have Fl : F.length ≤ 8 := by
        rw [hF]
        have := List.length_filter_le (fun b => decide (W b c ≠ 0)) (o.take (i + 1))
        omega
      refine forL_inv (F.map fun (b : Nat) => D.tup [.int (b : Int), cmD W c b]) (fun m σ S' => ∃ x10 x11, σ = [some (tD T), some (.int (s : Int)), some (.ref pm), some (.ref po), some (.ref p), some (.ref pc), x6, some (.ref p7), some (.int (c : Int)), some (rq (sm (fun b => v b * cm W c b) (F.take m))), x10, x11] ∧ S' = S7) (fun _ _ _ ⟨_, _, _, h⟩ => by rw [h]; exact hrow) ?_ ?_ ⟨_, _, rfl, rfl⟩
      · rintro m d σ S8 NX8 hd8 ⟨x10, x11, rfl, rfl⟩ hN8
        rw [List.getElem?_map, Option.map_eq_some_iff] at hd8
        obtain ⟨b, hb, rfl⟩ := hd8
        have hbF := List.mem_of_getElem? hb
        have hbo := Fs b hbF
        simp only [s_visits_3, wSs, wS, wT, wE, wEs, wO, wC, wI, wG, wGs, startD, List.map_cons, List.map_nil, List.length_cons, List.length_nil, List.replicate, List.cons_append, List.nil_append, List.append_nil, List.set_cons_zero, List.set_cons_succ, List.getElem?_cons_zero, List.getElem?_cons_succ, itT, wipeD, opAddI, opSubI, opMulI, opDivI, opModI, opPowI, opAddT, cmEq, cmNe, cmLt, cmLe, cmGt, cmGe, cmIn, eqI, eqS, inS2, truB, ixT0, ixT1, ixT2, ixT3, ixT4, ixT6, slcT, lenT, absI, intI, tupleT, listT, listRl, decide_true, decide_false, if_true, if_false, Bool.false_eq_true, reduceIte, decide_eq_true_eq, Bool.not_true, Bool.not_false, line, mI_int, mI_bool, mI_str, mI_tuple, mI_list, mB_int, mB_bool, mB_str, mB_tuple, mB_list, mS_int, mS_bool, mS_str, mS_tuple, mS_list, mT_int, mT_bool, mT_str, mT_tuple, mT_list, mN_int, mN_bool, mN_str, mN_tuple, mN_list, anyT, anyF, Nat.zero_add, Nat.reduceAdd, Nat.reduceLeDiff, true_and, ixEn h77 hbo]
        show Γ k "times" [rq (v b), rq (cm W c b)] _ _ _
        have zv := V.zq hbo
        have zc := wk.zq2 he hbo
        have zt := part_zq wk V' (l := F.take m) (by rw [List.length_take]; omega) fun b hb => Fs b (List.mem_of_mem_take hb)
        refine times_rq (by omega) (zv.mono (by omega)) (zc.mono (by decide)) ?_
        refine plus_rq (by omega) (zt.mono (by omega)) ((zv.mul zc).mono (by omega)) ?_
        have e9 : sm (fun b => v b * cm W c b) (F.take m) + v b * cm W c b = sm (fun b => v b * cm W c b) (F.take (m + 1)) := by
          rw [take_snoc hb, sm_append, sm, sm]; grind
        rw [e9]
        exact hN8 _ _ ⟨_, _, rfl, rfl⟩
      · rintro σ S8 ⟨x10, x11, rfl, rfl⟩
        rw [List.length_map, List.take_length]
        have tl100 : (o.take (i + 1)).length ≤ 100 := by omega
        simp only [wSs, wS, wT, wE, wEs, wO, wC, wI, wG, wGs, startD, List.map_cons, List.map_nil, List.length_cons, List.length_nil, List.replicate, List.cons_append, List.nil_append, List.append_nil, List.set_cons_zero, List.set_cons_succ, List.getElem?_cons_zero, List.getElem?_cons_succ, itT, wipeD, opAddI, opSubI, opMulI, opDivI, opModI, opPowI, opAddT, cmEq, cmNe, cmLt, cmLe, cmGt, cmGe, cmIn, eqI, eqS, inS2, truB, ixT0, ixT1, ixT2, ixT3, ixT4, ixT6, slcT, lenT, absI, intI, tupleT, listT, listRl, decide_true, decide_false, if_true, if_false, Bool.false_eq_true, reduceIte, decide_eq_true_eq, Bool.not_true, Bool.not_false, line, mI_int, mI_bool, mI_str, mI_tuple, mI_list, mB_int, mB_bool, mB_str, mB_tuple, mB_list, mS_int, mS_bool, mS_str, mS_tuple, mS_list, mT_int, mT_bool, mT_str, mT_tuple, mT_list, mN_int, mN_bool, mN_str, mN_tuple, mN_list, anyT, anyF, Nat.zero_add, Nat.reduceAdd, Nat.reduceLeDiff, true_and]
        rw [setEn h77 tl100, if_neg hcn]
        have eF : sm (fun b => v b * cm W c b) F = sm (fun b => v b * cm W c b) (o.take (i + 1)) := by
          rw [hF]
          refine sm_filter _ fun b hb hz => ?_
          have : W b c = 0 := by simpa using hz
          rw [cm_ne this]; grind
        have V2 := Vs.step wk hcn (show s ∈ o.take (i + 1) from List.mem_iff_getElem?.mpr ⟨0, by rw [List.getElem?_take_of_lt (by omega)]; exact o0⟩) (by omega) V'
        have e10 : en (fun j => if j = c then rq (sm (fun b => v b * cm W c b) F) else rq (v j)) (o.take (i + 1) ++ [c]) = en (fun j => rq ((fun j => if j = c then sm (fun b => v b * cm W c b) (o.take (i + 1)) else v j) j)) (o.take (i + 1 + 1)) := by
          rw [take_snoc hc, eF]
          refine en_congr fun j _ => ?_
          by_cases h : j = c
          · simp [h]
          · simp [h]
        rw [e10]
        have np : p8 ≠ p7 := p78.symm
        refine hN _ _ ⟨_, f + e + 3, _, _, _, _, _, rfl, Sto.le_upd B7 hle7, Sto.upd_same, by rw [Sto.upd_ne np]; exact h78, ?_, by omega⟩
        rw [take_snoc hc]
        exact V2
    · rintro σ S7 ⟨v, f, x6, x8, x9, x10, x11, rfl, hle7, h77, h78, V, hf⟩
      rw [nD_len, dl, show o.length - 1 + 1 = o.length by omega, List.take_length] at h77 V
      rw [WO_all] at V
      rw [nD_len, dl] at hf
      simp only [wSs, wS, wT, wE, wEs, wO, wC, wI, wG, wGs, startD, List.map_cons, List.map_nil, List.length_cons, List.length_nil, List.replicate, List.cons_append, List.nil_append, List.append_nil, List.set_cons_zero, List.set_cons_succ, List.getElem?_cons_zero, List.getElem?_cons_succ, itT, wipeD, opAddI, opSubI, opMulI, opDivI, opModI, opPowI, opAddT, cmEq, cmNe, cmLt, cmLe, cmGt, cmGe, cmIn, eqI, eqS, inS2, truB, ixT0, ixT1, ixT2, ixT3, ixT4, ixT6, slcT, lenT, absI, intI, tupleT, listT, listRl, decide_true, decide_false, if_true, if_false, Bool.false_eq_true, reduceIte, decide_eq_true_eq, Bool.not_true, Bool.not_false, line, mI_int, mI_bool, mI_str, mI_tuple, mI_list, mB_int, mB_bool, mB_str, mB_tuple, mB_list, mS_int, mS_bool, mS_str, mS_tuple, mS_list, mT_int, mT_bool, mT_str, mT_tuple, mT_list, mN_int, mN_bool, mN_str, mN_tuple, mN_list, anyT, anyF, Nat.zero_add, Nat.reduceAdd, Nat.reduceLeDiff, true_and]
      refine ⟨S.upd p7 (.dct (en (fun j => rq (v j)) o)), fun y cc hy => ?_, hQ p7 o v Sp7 ond om (V.mono (by omega))⟩
      by_cases hyp : y = p7
      · subst hyp; rw [Sto.upd_same] at hy; cases hy; exact h77
      · rw [Sto.upd_ne hyp] at hy
        exact hle7 _ _ (C.le _ _ hy)
end K49
namespace K49
open PySem PySem.Spec PyProof.Rows L2 Mi
variable {k : Nat} {S : Sto} {Q : KD} {X : KX} {pp : Addr} {T : Tr} {s : Nat}
structure Vo (T : Tr) (s : Nat) (o : List Nat) (v : Nat → Rat) : Prop where
  nd : o.Nodup
  mem : ∀ x, x ∈ o ↔ Rc T s x
  vs : Vs (PM T) o s v 100
theorem Vo.pos {o : List Nat} {v : Nat → Rat} (h : Vo T s o v) {x : Nat} (hx : x ∈ o) : 0 < v x := by
  obtain ⟨k, r⟩ := (h.mem x).mp hx
  clear hx
  induction r with
  | base =>
    have e := h.vs.eq s ((h.mem s).mpr .self)
    rw [if_pos rfl] at e
    have : 0 ≤ sm (fun i => v i * PM T i s) o := sm_nonneg fun i hi => mul_nn (h.vs.nn i hi) (PM_nn i s)
    grind
  | @step k i j r q ih =>
    have hi : i ∈ o := (h.mem i).mpr ⟨k, r⟩
    have hj : j ∈ o := (h.mem j).mpr ⟨k + 1, .step r q⟩
    have e := h.vs.eq j hj
    have g := sm_ge (f := fun i => v i * PM T i j) (fun i hi => mul_nn (h.vs.nn i hi) (PM_nn i j)) hi
    have p := Rat.mul_pos ih (PM_pos q)
    have : (0 : Rat) ≤ (if j = s then 1 else 0) := by split <;> decide
    grind
theorem Vo.zq {o : List Nat} {v c : Nat → Rat} (h : Vo T s o v) {l : List Nat} (hl : l.length ≤ 8) (hs : ∀ i ∈ l, i ∈ o) (c0 : ∀ i, 0 ≤ c i) (c1 : ∀ i, c i ≤ 1) (c2 : ∀ i, ∃ z : Int, c i * 2 = (z : Rat)) : Zq 300 (sm (fun i => v i * c i) l) := by
  obtain ⟨E, e0, hE, hd⟩ := h.vs.dn
  have two : ((2 : Nat) : Rat) = 2 := rfl
  have e1 : (((E * 2 : Nat)) : Rat) = (E : Rat) * 2 := by rw [Rat.natCast_mul, two]
  obtain ⟨z, hz⟩ : ∃ z : Int, sm (fun i => v i * c i) l * ((E * 2 : Nat) : Rat) = (z : Rat) := by
    rw [e1]
    refine sm_dn fun i hi => ?_
    obtain ⟨z1, q1⟩ := hd i (hs i hi)
    obtain ⟨z2, q2⟩ := c2 i
    refine ⟨z1 * z2, ?_⟩
    rw [Rat.intCast_mul, ← q1, ← q2]
    grind
  have nn : 0 ≤ sm (fun i => v i * c i) l := sm_nonneg fun i hi => mul_nn (h.vs.nn i (hs i hi)) (c0 i)
  have h1 : sm (fun i => v i * c i) l ≤ sm (fun _ => ((2 ^ 100 : Nat) : Rat)) l := sm_le fun i hi => by
    have g1 := h.vs.le i (hs i hi)
    have g2 := h.vs.nn i (hs i hi)
    have : v i * c i ≤ v i * 1 := Rat.mul_le_mul_of_nonneg_left (c1 i) g2
    grind
  rw [sm_const, ← Rat.natCast_mul] at h1
  have h2 : l.length * 2 ^ 100 ≤ 2 ^ 103 := by
    have : l.length * 2 ^ 100 ≤ 8 * 2 ^ 100 := Nat.mul_le_mul_right _ hl
    have e : (2 : Nat) ^ 103 = 8 * 2 ^ 100 := by decide
    omega
  have hE2 : E * 2 ≤ 2 ^ 101 := by
    have e : (2 : Nat) ^ 101 = 2 ^ 100 * 2 := by decide
    omega
  exact (zq_of (by omega) hE2 nn (Rat.le_trans h1 (ratle h2)) hz).mono (by decide)
theorem ht2 {n : Nat} : ∀ {l : List Sd}, ∃ z : Int, ssum (ht n) l * 2 = (z : Rat)
  | [] => ⟨0, by rw [ssum, Rat.zero_mul]; rfl⟩
  | d :: l => by
    obtain ⟨z, hz⟩ := ht2 (n := n) (l := l)
    refine ⟨(if d = .tell n then 1 else 0) + z, ?_⟩
    rw [ssum, Rat.intCast_add, ← hz]
    unfold ht
    split
    · have : ((1 : Int) : Rat) = 1 := rfl
      rw [this]; grind
    · have : ((0 : Int) : Rat) = 0 := rfl
      rw [this]; grind
theorem ht1 {n : Nat} : ∀ {l : List Sd}, ssum (ht n) l ≤ (l.length : Rat) * (1 / 2)
  | [] => by rw [ssum]; decide +kernel
  | d :: l => by
    have := ht1 (n := n) (l := l)
    have h1 : ht n d ≤ 1 / 2 := by unfold ht; split <;> decide +kernel
    rw [ssum, List.length_cons, Rat.natCast_add]
    have : ((1 : Nat) : Rat) = 1 := rfl
    rw [this]
    grind
theorem sides_len {i : Nat} : (sides T i).length ≤ 2 := by unfold sides; split <;> simp
theorem ht1' {n : Nat} {l : List Sd} (h : l.length ≤ 2) : ssum (ht n) l ≤ 1 := by
  have h1 := ht1 (n := n) (l := l)
  have h2 := ratle h
  have e : ((2 : Nat) : Rat) = 2 := rfl
  rw [e] at h2
  grind
def LW (T : Tr) (o : List Nat) (v : Nat → Rat) (n : Nat) : Rat := sm (fun i => v i * TM T i n) o
def lawL (f : Nat → Rat) (ms : List Nat) : List D := ms.map fun (n : Nat) => D.tup [.int (n : Int), rq (f n)]
theorem sortFd {p : Addr} {kvs : List (D × D)} {f : Nat → Rat} (h : S p = some (.dct kvs)) (F : Fd f kvs) : ∃ ms : List Nat, ms.Pairwise (· < ·) ∧ (∀ n, n ∈ ms ↔ f n ≠ 0) ∧ ∀ Q : KD, bltR .sorted [.ref p] S Q = ∀ q, S q = none → Q (.ref q) (S.upd q (.lst (nD ms))) := by
  obtain ⟨ks, h1, h2, h3, rfl⟩ := F
  obtain ⟨ms, m1, m2, m3⟩ := srt_nat h1
  refine ⟨ms, m1, fun n => (m2 n).trans (h2 n), fun Q => ?_⟩
  have := nodup_le h1 h3
  have l64 : (nI ks).length < 64 := by unfold nI; rw [List.length_map]; omega
  simp only [bltR, h, bllR, en_keys, nD_ints, l64, true_and, m3]
theorem law_from_ok (ok : TrOk T) (hs : s < T.length) {M0 E : List Nat} (h0 : ∀ x, x ∈ M0 ↔ Rc T s x) (hE : EndOk T M0 E) (all : ∀ x ∈ M0, x ∈ E) (hk : 4 < k)
    (hQ : ∀ (o : List Nat) (v : Nat → Rat) (ms : List Nat), Vo T s o v → ms.Pairwise (· < ·) → (∀ n, n ∈ ms ↔ LW T o v n ≠ 0) → Q (.tup (lawL (LW T o v) ms)) S) : Γ k "law_from" [tD T, .int (s : Int)] S Q X := by
  cases k with
  | zero => omega
  | succ k =>
  refine gam (np := 2) (nn := 7) (b := b_law_from) rfl rfl ?_
  have l5 := ok.l5
  simp only [b_law_from, wSs, wS, wT, wE, wEs, wO, wC, wI, wG, wGs, startD, List.map_cons, List.map_nil, List.length_cons, List.length_nil, List.replicate, List.cons_append, List.nil_append, List.append_nil, List.set_cons_zero, List.set_cons_succ, List.getElem?_cons_zero, List.getElem?_cons_succ, itT, wipeD, opAddI, opSubI, opMulI, opDivI, opModI, opPowI, opAddT, cmEq, cmNe, cmLt, cmLe, cmGt, cmGe, cmIn, eqI, eqS, inS2, truB, ixT0, ixT1, ixT2, ixT3, ixT4, ixT6, slcT, lenT, absI, intI, tupleT, listT, listRl, decide_true, decide_false, if_true, if_false, Bool.false_eq_true, reduceIte, decide_eq_true_eq, Bool.not_true, Bool.not_false, line, mI_int, mI_bool, mI_str, mI_tuple, mI_list, mB_int, mB_bool, mB_str, mB_tuple, mB_list, mS_int, mS_bool, mS_str, mS_tuple, mS_list, mT_int, mT_bool, mT_str, mT_tuple, mT_list, mN_int, mN_bool, mN_str, mN_tuple, mN_list, anyT, anyF, Nat.zero_add, Nat.reduceAdd, Nat.reduceLeDiff, true_and]
  intro p hp
  refine visits_ok ok hs h0 hE all (by omega) fun q o v hq ond om V => ?_
  have V : Vo T s o v := ⟨ond, om, V⟩
  have olt : ∀ x ∈ o, x < T.length := fun x hx => ((om x).mp hx).lt ok hs
  have olen := nodup_le ond olt
  have pq : p ≠ q := fun z => by subst z; rw [Sto.upd_same] at hq; cases hq
  rw [itmDc Sto.upd_same en_keyW, en_items, Sto.upd_upd]
  have ap : ∀ {a : Nat} {n m : Nat} {d : Sd}, (sides T a)[m]? = some d → ssum (ht n) ((sides T a).take (m + 1)) = ssum (ht n) ((sides T a).take m) + ht n d := fun h => by
    rw [take_snoc h, ssum_append, ssum, ssum]; grind
  refine forL_inv (o.map fun (j : Nat) => D.tup [.int (j : Int), rq (v j)]) (fun i σ S' => ∃ kvs x3 x4 x5 x6, σ = [some (tD T), some (.int (s : Int)), some (.ref p), x3, x4, x5, x6] ∧ S.le S' ∧ S' p = some (.dct kvs) ∧ S' q = some (.fdc (en (fun j => rq (v j)) o)) ∧ Fd (fun n => sm (fun i => v i * TM T i n) (o.take i)) kvs) (fun _ _ _ ⟨_, _, _, _, _, _, _, _, h, _⟩ => h) ?_ ?_
    ⟨[], _, _, _, _, rfl, Sto.le_new' (Sto.le_new hp) hq, by rw [Sto.upd_ne pq, Sto.upd_same], Sto.upd_same, Fd.nil⟩
  · rintro i d σ S1 NX hd ⟨kvs, x3, x4, x5, x6, rfl, hle, h1, h2, F⟩ hN
    rw [List.getElem?_map, Option.map_eq_some_iff] at hd
    obtain ⟨a, ha, rfl⟩ := hd
    have hao := List.mem_of_getElem? ha
    have hal := olt a hao
    have vp := V.pos hao
    simp only [s_law_from_2, wSs, wS, wT, wE, wEs, wO, wC, wI, wG, wGs, startD, List.map_cons, List.map_nil, List.length_cons, List.length_nil, List.replicate, List.cons_append, List.nil_append, List.append_nil, List.set_cons_zero, List.set_cons_succ, List.getElem?_cons_zero, List.getElem?_cons_succ, itT, wipeD, opAddI, opSubI, opMulI, opDivI, opModI, opPowI, opAddT, cmEq, cmNe, cmLt, cmLe, cmGt, cmGe, cmIn, eqI, eqS, inS2, truB, ixT0, ixT1, ixT2, ixT3, ixT4, ixT6, slcT, lenT, absI, intI, tupleT, listT, listRl, decide_true, decide_false, if_true, if_false, Bool.false_eq_true, reduceIte, decide_eq_true_eq, Bool.not_true, Bool.not_false, line, mI_int, mI_bool, mI_str, mI_tuple, mI_list, mB_int, mB_bool, mB_str, mB_tuple, mB_list, mS_int, mS_bool, mS_str, mS_tuple, mS_list, mT_int, mT_bool, mT_str, mT_tuple, mT_list, mN_int, mN_bool, mN_str, mN_tuple, mN_list, anyT, anyF, Nat.zero_add, Nat.reduceAdd, Nat.reduceLeDiff, true_and, ix_tree hal]
    refine forL_inv ((sides T a).map sD) (fun m σ S' => ∃ kvs x5 x6, σ = [some (tD T), some (.int (s : Int)), some (.ref p), some (.int (a : Int)), some (rq (v a)), x5, x6] ∧ S.le S' ∧ S' p = some (.dct kvs) ∧ S' q = some (.fdc (en (fun j => rq (v j)) o)) ∧ Fd (fun n => sm (fun i => v i * TM T i n) (o.take i) + v a * ssum (ht n) ((sides T a).take m)) kvs) (fun _ _ _ _ => trivial) ?_ ?_
      ⟨kvs, _, _, rfl, hle, h1, h2, F.eq fun n => by rw [List.take_zero, ssum]; grind⟩
    · rintro m d σ S2 NX2 hd2 ⟨kvs, x5, x6, rfl, hle2, h12, h22, F2⟩ hN2
      rw [List.getElem?_map, Option.map_eq_some_iff] at hd2
      obtain ⟨d, hd2, rfl⟩ := hd2
      cases d with
      | node t =>
        have e3 : decide (("node" : Str) = ("tell" : Str)) = false := by decide
        simp only [sD, s_law_from_1, wSs, wS, wT, wE, wEs, wO, wC, wI, wG, wGs, startD, List.map_cons, List.map_nil, List.length_cons, List.length_nil, List.replicate, List.cons_append, List.nil_append, List.append_nil, List.set_cons_zero, List.set_cons_succ, List.getElem?_cons_zero, List.getElem?_cons_succ, itT, wipeD, opAddI, opSubI, opMulI, opDivI, opModI, opPowI, opAddT, cmEq, cmNe, cmLt, cmLe, cmGt, cmGe, cmIn, eqI, eqS, inS2, truB, ixT0, ixT1, ixT2, ixT3, ixT4, ixT6, slcT, lenT, absI, intI, tupleT, listT, listRl, decide_true, decide_false, if_true, if_false, Bool.false_eq_true, reduceIte, decide_eq_true_eq, Bool.not_true, Bool.not_false, line, mI_int, mI_bool, mI_str, mI_tuple, mI_list, mB_int, mB_bool, mB_str, mB_tuple, mB_list, mS_int, mS_bool, mS_str, mS_tuple, mS_list, mT_int, mT_bool, mT_str, mT_tuple, mT_list, mN_int, mN_bool, mN_str, mN_tuple, mN_list, anyT, anyF, Nat.zero_add, Nat.reduceAdd, Nat.reduceLeDiff, true_and, e3]
        refine hN2 _ _ ⟨kvs, _, _, rfl, hle2, h12, h22, F2.eq fun n => ?_⟩
        rw [ap hd2]
        have : ht n (.node t) = 0 := if_neg (by simp)
        rw [this]; grind
      | tell t =>
        have t4 := ok.tl _ t (List.mem_of_getElem? hd2)
        have z1 : Zq 300 (sm (fun i => v i * TM T i t) (o.take i)) := V.zq (by rw [List.length_take]; omega) (fun x hx => List.mem_of_mem_take hx) (fun i => TM_nn i t) (fun i => ht1' sides_len) fun i => ht2
        have tk2 : ((sides T a).take m).length ≤ 2 := by
          have : (sides T a).length ≤ 2 := sides_len
          rw [List.length_take]; omega
        have z2 : Zq 300 (v a * ssum (ht t) ((sides T a).take m)) := by
          have := V.zq (c := fun _ => ssum (ht t) ((sides T a).take m)) (l := [a]) (by simp) (fun x hx => by rw [List.mem_singleton.mp hx]; exact hao) (fun _ => ssum_nonneg fun _ _ => ht_nn) (fun _ => ht1' tk2) fun _ => ht2
          simp only [sm] at this
          rwa [show v a * ssum (ht t) ((sides T a).take m) + 0 = v a * ssum (ht t) ((sides T a).take m) by grind] at this
        have zv : Zq 201 (v a) := V.vs.zq hao
        simp only [sD, s_law_from_1, wSs, wS, wT, wE, wEs, wO, wC, wI, wG, wGs, startD, List.map_cons, List.map_nil, List.length_cons, List.length_nil, List.replicate, List.cons_append, List.nil_append, List.append_nil, List.set_cons_zero, List.set_cons_succ, List.getElem?_cons_zero, List.getElem?_cons_succ, itT, wipeD, opAddI, opSubI, opMulI, opDivI, opModI, opPowI, opAddT, cmEq, cmNe, cmLt, cmLe, cmGt, cmGe, cmIn, eqI, eqS, inS2, truB, ixT0, ixT1, ixT2, ixT3, ixT4, ixT6, slcT, lenT, absI, intI, tupleT, listT, listRl, decide_true, decide_false, if_true, if_false, Bool.false_eq_true, reduceIte, decide_eq_true_eq, Bool.not_true, Bool.not_false, line, mI_int, mI_bool, mI_str, mI_tuple, mI_list, mB_int, mB_bool, mB_str, mB_tuple, mB_list, mS_int, mS_bool, mS_str, mS_tuple, mS_list, mT_int, mT_bool, mT_str, mT_tuple, mT_list, mN_int, mN_bool, mN_str, mN_tuple, mN_list, anyT, anyF, Nat.zero_add, Nat.reduceAdd, Nat.reduceLeDiff, true_and, mtyGd h12, gZ, gH, getFd h12 F2]
        refine times_rq (by omega) (zv.mono (by decide)) (zqh.mono (by decide)) ?_
        refine plus_rq (by omega) ((z1.add z2).mono (by decide)) ((zv.mul zqh).mono (by decide)) ?_
        rw [setFd h12 F2]
        have nn1 : 0 ≤ sm (fun i => v i * TM T i t) (o.take i) := sm_nonneg fun x hx => mul_nn (V.vs.nn x (List.mem_of_mem_take hx)) (TM_nn x t)
        have nn2 : 0 ≤ v a * ssum (ht t) ((sides T a).take m) := mul_nn (Rat.le_of_lt vp) (ssum_nonneg fun _ _ => ht_nn)
        have nz : sm (fun i => v i * TM T i t) (o.take i) + v a * ssum (ht t) ((sides T a).take m) + v a * (1 / 2) ≠ 0 := by grind
        refine hN2 _ _ ⟨_, _, _, rfl, Sto.le_upd hp hle2, Sto.upd_same, by rw [Sto.upd_ne pq.symm]; exact h22, (F2.put nz (by omega)).eq fun n => ?_⟩
        show (if n = t then _ else _) = _
        rw [ap hd2]
        unfold ht
        by_cases e : n = t
        · subst e; rw [if_pos rfl, if_pos rfl]; grind
        · have : ¬ (Sd.tell t = Sd.tell n) := fun z => e (by cases z; rfl)
          rw [if_neg e, if_neg this]; grind
    · rintro σ S2 ⟨kvs, x5, x6, rfl, hle2, h12, h22, F2⟩
      rw [List.length_map, List.take_length] at F2
      refine hN _ _ ⟨kvs, _, _, _, _, rfl, hle2, h12, h22, F2.eq fun n => ?_⟩
      rw [take_snoc ha, sm_append, sm, sm]
      show _ + v a * TM T a n = _
      grind
  · rintro σ S1 ⟨kvs, x3, x4, x5, x6, rfl, hle, h1, h2, F⟩
    rw [List.length_map, List.take_length] at F
    have F : Fd (LW T o v) kvs := F
    simp only [wSs, wS, wT, wE, wEs, wO, wC, wI, wG, wGs, startD, List.map_cons, List.map_nil, List.length_cons, List.length_nil, List.replicate, List.cons_append, List.nil_append, List.append_nil, List.set_cons_zero, List.set_cons_succ, List.getElem?_cons_zero, List.getElem?_cons_succ, itT, wipeD, opAddI, opSubI, opMulI, opDivI, opModI, opPowI, opAddT, cmEq, cmNe, cmLt, cmLe, cmGt, cmGe, cmIn, eqI, eqS, inS2, truB, ixT0, ixT1, ixT2, ixT3, ixT4, ixT6, slcT, lenT, absI, intI, tupleT, listT, listRl, decide_true, decide_false, if_true, if_false, Bool.false_eq_true, reduceIte, decide_eq_true_eq, Bool.not_true, Bool.not_false, line, mI_int, mI_bool, mI_str, mI_tuple, mI_list, mB_int, mB_bool, mB_str, mB_tuple, mB_list, mS_int, mS_bool, mS_str, mS_tuple, mS_list, mT_int, mT_bool, mT_str, mT_tuple, mT_list, mN_int, mN_bool, mN_str, mN_tuple, mN_list, anyT, anyF, Nat.zero_add, Nat.reduceAdd, Nat.reduceLeDiff, true_and]
    obtain ⟨ms, m1, m2, m3⟩ := sortFd h1 F
    rw [m3]
    intro r hr
    have pr : p ≠ r := fun z => by subst z; rw [h1] at hr; cases hr
    have h1' : (S1.upd r (.lst (nD ms))) p = some (.dct kvs) := by rw [Sto.upd_ne pr]; exact h1
    rw [itL Sto.upd_same]
    have msl : ms.length ≤ 8 := nodup_le (asc_nodup m1) fun n hn => by
      obtain ⟨ks, g1, g2, g3, _⟩ := F
      exact g3 n ((g2 n).mpr ((m2 n).mp hn))
    refine ⟨by rw [nD_len]; omega, ?_⟩
    have eg : ∀ l : List Nat, (nD l).filterMap (fun d => match d with | .int i => some (D.tup [.int i, rq (LW T o v i.toNat)]) | _ => none) = lawL (LW T o v) l := by
      intro l
      induction l with
      | nil => rfl
      | cons a l ih =>
        show List.filterMap _ (.int (a : Int) :: nD l) = _
        rw [List.filterMap_cons]
        simp only [Int.toNat_natCast]
        rw [ih]; rfl
    refine cmpL_pure (fun d => match d with | .int i => some (D.tup [.int i, rq (LW T o v i.toNat)]) | _ => none) Sto.upd_same (fun d hd P hP => ?_) ?_
    · obtain ⟨n, hn, rfl⟩ := List.mem_map.mp hd
      simp only [wSs, wS, wT, wE, wEs, wO, wC, wI, wG, wGs, startD, List.map_cons, List.map_nil, List.length_cons, List.length_nil, List.replicate, List.cons_append, List.nil_append, List.append_nil, List.set_cons_zero, List.set_cons_succ, List.getElem?_cons_zero, List.getElem?_cons_succ, itT, wipeD, opAddI, opSubI, opMulI, opDivI, opModI, opPowI, opAddT, cmEq, cmNe, cmLt, cmLe, cmGt, cmGe, cmIn, eqI, eqS, inS2, truB, ixT0, ixT1, ixT2, ixT3, ixT4, ixT6, slcT, lenT, absI, intI, tupleT, listT, listRl, decide_true, decide_false, if_true, if_false, Bool.false_eq_true, reduceIte, decide_eq_true_eq, Bool.not_true, Bool.not_false, line, mI_int, mI_bool, mI_str, mI_tuple, mI_list, mB_int, mB_bool, mB_str, mB_tuple, mB_list, mS_int, mS_bool, mS_str, mS_tuple, mS_list, mT_int, mT_bool, mT_str, mT_tuple, mT_list, mN_int, mN_bool, mN_str, mN_tuple, mN_list, anyT, anyF, Nat.zero_add, Nat.reduceAdd, Nat.reduceLeDiff, true_and, e_law_from_3, Int.toNat_natCast] at hP ⊢
      rw [ixFd h1' F ((m2 n).mp hn)]
      exact hP
    · rw [eg]
      simp only [bllR]
      exact ⟨S, Sto.le_new' hle hr, hQ o v ms V m1 m2⟩
theorem mean_from_ok (ok : TrOk T) (hs : s < T.length) {M0 E : List Nat} (h0 : ∀ x, x ∈ M0 ↔ Rc T s x) (hE : EndOk T M0 E) (all : ∀ x ∈ M0, x ∈ E) (hk : 4 < k)
    (hQ : ∀ (o : List Nat) (v : Nat → Rat), Vo T s o v → Q (rq (sm v o)) S) : Γ k "mean_from" [tD T, .int (s : Int)] S Q X := by
  cases k with
  | zero => omega
  | succ k =>
  refine gam (np := 2) (nn := 5) (b := b_mean_from) rfl rfl ?_
  have l5 := ok.l5
  simp only [b_mean_from, wSs, wS, wT, wE, wEs, wO, wC, wI, wG, wGs, startD, List.map_cons, List.map_nil, List.length_cons, List.length_nil, List.replicate, List.cons_append, List.nil_append, List.append_nil, List.set_cons_zero, List.set_cons_succ, List.getElem?_cons_zero, List.getElem?_cons_succ, itT, wipeD, opAddI, opSubI, opMulI, opDivI, opModI, opPowI, opAddT, cmEq, cmNe, cmLt, cmLe, cmGt, cmGe, cmIn, eqI, eqS, inS2, truB, ixT0, ixT1, ixT2, ixT3, ixT4, ixT6, slcT, lenT, absI, intI, tupleT, listT, listRl, decide_true, decide_false, if_true, if_false, Bool.false_eq_true, reduceIte, decide_eq_true_eq, Bool.not_true, Bool.not_false, line, mI_int, mI_bool, mI_str, mI_tuple, mI_list, mB_int, mB_bool, mB_str, mB_tuple, mB_list, mS_int, mS_bool, mS_str, mS_tuple, mS_list, mT_int, mT_bool, mT_str, mT_tuple, mT_list, mN_int, mN_bool, mN_str, mN_tuple, mN_list, anyT, anyF, Nat.zero_add, Nat.reduceAdd, Nat.reduceLeDiff, true_and, gZ]
  refine visits_ok ok hs h0 hE all (by omega) fun q o v hq ond om V => ?_
  have V : Vo T s o v := ⟨ond, om, V⟩
  have olen := nodup_le ond fun x hx => ((om x).mp hx).lt ok hs
  rw [itmDc Sto.upd_same en_keyW, en_items, Sto.upd_upd]
  refine forL_inv (o.map fun (j : Nat) => D.tup [.int (j : Int), rq (v j)]) (fun i σ S' => ∃ x3 x4, σ = [some (tD T), some (.int (s : Int)), some (rq (sm v (o.take i))), x3, x4] ∧ S.le S' ∧ S' q = some (.fdc (en (fun j => rq (v j)) o))) (fun _ _ _ ⟨_, _, _, _, h⟩ => h) ?_ ?_
    ⟨_, _, rfl, Sto.le_new hq, Sto.upd_same⟩
  · rintro i d σ S1 NX hd ⟨x3, x4, rfl, hle, h2⟩ hN
    rw [List.getElem?_map, Option.map_eq_some_iff] at hd
    obtain ⟨a, ha, rfl⟩ := hd
    have hao := List.mem_of_getElem? ha
    have z1 : Zq 300 (sm v (o.take i)) := by
      have := V.zq (c := fun _ => 1) (l := o.take i) (by rw [List.length_take]; omega) (fun x hx => List.mem_of_mem_take hx) (fun _ => by decide) (fun _ => Rat.le_refl) fun _ => ⟨2, by decide +kernel⟩
      have e : sm (fun i => v i * 1) (o.take i) = sm v (o.take i) := sm_congr fun x _ => by grind
      rwa [e] at this
    have zv : Zq 201 (v a) := V.vs.zq hao
    simp only [s_mean_from_1, wSs, wS, wT, wE, wEs, wO, wC, wI, wG, wGs, startD, List.map_cons, List.map_nil, List.length_cons, List.length_nil, List.replicate, List.cons_append, List.nil_append, List.append_nil, List.set_cons_zero, List.set_cons_succ, List.getElem?_cons_zero, List.getElem?_cons_succ, itT, wipeD, opAddI, opSubI, opMulI, opDivI, opModI, opPowI, opAddT, cmEq, cmNe, cmLt, cmLe, cmGt, cmGe, cmIn, eqI, eqS, inS2, truB, ixT0, ixT1, ixT2, ixT3, ixT4, ixT6, slcT, lenT, absI, intI, tupleT, listT, listRl, decide_true, decide_false, if_true, if_false, Bool.false_eq_true, reduceIte, decide_eq_true_eq, Bool.not_true, Bool.not_false, line, mI_int, mI_bool, mI_str, mI_tuple, mI_list, mB_int, mB_bool, mB_str, mB_tuple, mB_list, mS_int, mS_bool, mS_str, mS_tuple, mS_list, mT_int, mT_bool, mT_str, mT_tuple, mT_list, mN_int, mN_bool, mN_str, mN_tuple, mN_list, anyT, anyF, Nat.zero_add, Nat.reduceAdd, Nat.reduceLeDiff, true_and]
    refine plus_rq (by omega) (z1.mono (by decide)) (zv.mono (by decide)) ?_
    have e : sm v (o.take i) + v a = sm v (o.take (i + 1)) := by rw [take_snoc ha, sm_append, sm, sm]; grind
    rw [e]
    exact hN _ _ ⟨_, _, rfl, hle, h2⟩
  · rintro σ S1 ⟨x3, x4, rfl, hle, h2⟩
    rw [List.length_map, List.take_length]
    simp only [wSs, wS, wT, wE, wEs, wO, wC, wI, wG, wGs, startD, List.map_cons, List.map_nil, List.length_cons, List.length_nil, List.replicate, List.cons_append, List.nil_append, List.append_nil, List.set_cons_zero, List.set_cons_succ, List.getElem?_cons_zero, List.getElem?_cons_succ, itT, wipeD, opAddI, opSubI, opMulI, opDivI, opModI, opPowI, opAddT, cmEq, cmNe, cmLt, cmLe, cmGt, cmGe, cmIn, eqI, eqS, inS2, truB, ixT0, ixT1, ixT2, ixT3, ixT4, ixT6, slcT, lenT, absI, intI, tupleT, listT, listRl, decide_true, decide_false, if_true, if_false, Bool.false_eq_true, reduceIte, decide_eq_true_eq, Bool.not_true, Bool.not_false, line, mI_int, mI_bool, mI_str, mI_tuple, mI_list, mB_int, mB_bool, mB_str, mB_tuple, mB_list, mS_int, mS_bool, mS_str, mS_tuple, mS_list, mT_int, mT_bool, mT_str, mT_tuple, mT_list, mN_int, mN_bool, mN_str, mN_tuple, mN_list, anyT, anyF, Nat.zero_add, Nat.reduceAdd, Nat.reduceLeDiff, true_and]
    exact ⟨S, hle, hQ o v V⟩
theorem neTup {l : List Nat} {QB : Bool → Prop} : cmR .ne (.tup (nD l)) (.tup []) S QB = QB (!l.isEmpty) := by
  have e : (D.eqv (.tup (nD l)) (.tup []) : Bool) = l.isEmpty := by
    rw [D.eqv]
    cases l <;> simp [nD, D.eqvs]
  have e2 : min (D.dep (.tup (nD l))) (D.dep (.tup [])) ≤ 60 := by
    have : D.dep (.tup []) = 1 := by rw [D.dep, D.deps]
    omega
  have e3 : D.pure (.tup (nD l)) = true := by rw [D.pure]; exact nD_pure
  have e4 : D.pure (.tup []) = true := by rw [D.pure]; rfl
  simp only [cmR, eqR, plainR, e3, e4, if_true, e, e2, true_and]
  simp
theorem stuck_cases {M E : List Nat} (hM1 : M.Pairwise (· < ·)) (hM2 : ∀ x, x ∈ M ↔ Rc T s x) (hE : EndOk T M E) : (((M.filter fun a => decide (a ∉ E)).take 1 = [] ∧ ∀ x ∈ M, x ∈ E) ∨ ∃ a, (M.filter fun a => decide (a ∉ E)).take 1 = [a] ∧ Rc T s a ∧ ¬ Tl T a ∧ ∀ b, Rc T s b → b < a → Tl T b) := by
  have cl : ∀ x ∈ M, ∀ j ∈ succs T x, j ∈ M := fun x hx j hj => (hM2 j).mpr (((hM2 x).mp hx).next hj)
  cases h : M.filter fun a => decide (a ∉ E) with
  | nil =>
    refine .inl ⟨rfl, fun x hx => ?_⟩
    have := List.filter_eq_nil_iff.mp h x hx
    simpa using this
  | cons a l =>
    refine .inr ⟨a, rfl, ?_⟩
    have ha : a ∈ M.filter fun a => decide (a ∉ E) := by rw [h]; simp
    obtain ⟨haM, haE⟩ := List.mem_filter.mp ha
    have haE : a ∉ E := by simpa using haE
    refine ⟨(hM2 a).mp haM, fun z => haE ((hE.iff cl haM).mpr z), fun b hb hlt => ?_⟩
    have hbM := (hM2 b).mpr hb
    refine (hE.iff cl hbM).mp (Decidable.byContradiction fun hbE => ?_)
    have hbF : b ∈ a :: l := by
      rw [← h]
      exact List.mem_filter.mpr ⟨hbM, by simpa using hbE⟩
    have srt := hM1.sublist (List.filter_sublist (p := fun a => decide (a ∉ E)))
    rw [h, List.pairwise_cons] at srt
    rcases List.mem_cons.mp hbF with z | z
    · omega
    · have := srt.1 b z
      omega
theorem stuck_all {M E : List Nat} (hM2 : ∀ x, x ∈ M ↔ Rc T s x) (hE : EndOk T M E) (all : ∀ x ∈ M, x ∈ E) : ∀ b, Rc T s b → Tl T b := fun b hb => by
  have cl : ∀ x ∈ M, ∀ j ∈ succs T x, j ∈ M := fun x hx j hj => (hM2 j).mpr (((hM2 x).mp hx).next hj)
  exact (hE.iff cl ((hM2 b).mpr hb)).mp (all b ((hM2 b).mpr hb))
theorem tree_law_ok (ok : TrOk T) (hk : 5 < k) (hQ1 : ∀ a : Nat, Rc T 0 a → ¬ Tl T a → (∀ b, Rc T 0 b → b < a → Tl T b) → Q (.tup [.str "stays", .int (a : Int)]) S)
    (hQ2 : (∀ b, Rc T 0 b → Tl T b) → ∀ (o : List Nat) (v : Nat → Rat) (ms : List Nat), Vo T 0 o v → ms.Pairwise (· < ·) → (∀ n, n ∈ ms ↔ LW T o v n ≠ 0) → Q (.tup [.str "law", .tup (lawL (LW T o v) ms)]) S) : Γ k "tree_law" [tD T] S Q X := by
  cases k with
  | zero => omega
  | succ k =>
  refine gam (np := 1) (nn := 2) (b := b_tree_law) rfl rfl ?_
  simp only [b_tree_law, wSs, wS, wT, wE, wEs, wO, wC, wI, wG, wGs, startD, List.map_cons, List.map_nil, List.length_cons, List.length_nil, List.replicate, List.cons_append, List.nil_append, List.append_nil, List.set_cons_zero, List.set_cons_succ, List.getElem?_cons_zero, List.getElem?_cons_succ, itT, wipeD]
  refine stuck_ok (s := 0) ok ok.l0 (by omega) fun M E hM1 hM2 hE => ?_
  rw [nD_take]
  rcases stuck_cases hM1 hM2 hE with ⟨e, all⟩ | ⟨a, e, h1, h2, h3⟩
  · rw [e]
    rw [neTup]
    simp only [opAddI, opSubI, opMulI, opDivI, opModI, opPowI, opAddT, cmEq, cmNe, cmLt, cmLe, cmGt, cmGe, cmIn, eqI, eqS, inS2, truB, ixT0, ixT1, ixT2, ixT3, ixT4, ixT6, slcT, lenT, absI, intI, tupleT, listT, listRl, decide_true, decide_false, if_true, if_false, Bool.false_eq_true, reduceIte, decide_eq_true_eq, Bool.not_true, Bool.not_false, line, mI_int, mI_bool, mI_str, mI_tuple, mI_list, mB_int, mB_bool, mB_str, mB_tuple, mB_list, mS_int, mS_bool, mS_str, mS_tuple, mS_list, mT_int, mT_bool, mT_str, mT_tuple, mT_list, mN_int, mN_bool, mN_str, mN_tuple, mN_list, anyT, anyF, Nat.zero_add, Nat.reduceAdd, Nat.reduceLeDiff, true_and, List.isEmpty_nil]
    refine law_from_ok (s := 0) ok ok.l0 hM2 hE all (by omega) fun o v ms V m1 m2 => ?_
    exact ⟨S, Sto.le_refl, hQ2 (stuck_all hM2 hE all) o v ms V m1 m2⟩
  · rw [e]
    rw [neTup]
    simp only [opAddI, opSubI, opMulI, opDivI, opModI, opPowI, opAddT, cmEq, cmNe, cmLt, cmLe, cmGt, cmGe, cmIn, eqI, eqS, inS2, truB, ixT0, ixT1, ixT2, ixT3, ixT4, ixT6, slcT, lenT, absI, intI, tupleT, listT, listRl, decide_true, decide_false, if_true, if_false, Bool.false_eq_true, reduceIte, decide_eq_true_eq, Bool.not_true, Bool.not_false, line, mI_int, mI_bool, mI_str, mI_tuple, mI_list, mB_int, mB_bool, mB_str, mB_tuple, mB_list, mS_int, mS_bool, mS_str, mS_tuple, mS_list, mT_int, mT_bool, mT_str, mT_tuple, mT_list, mN_int, mN_bool, mN_str, mN_tuple, mN_list, anyT, anyF, Nat.zero_add, Nat.reduceAdd, Nat.reduceLeDiff, true_and, List.isEmpty_cons]
    show ixR (.tup [.int (a : Int)]) (.int 0) S _
    rw [ixT0]
    exact ⟨S, Sto.le_refl, hQ1 a h1 h2 h3⟩
theorem tree_mean_ok (ok : TrOk T) (hk : 5 < k) (hT : ∀ b, Rc T 0 b → Tl T b) (hQ : ∀ (o : List Nat) (v : Nat → Rat), Vo T 0 o v → Q (rq (sm v o)) S) : Γ k "tree_mean" [tD T] S Q X := by
  cases k with
  | zero => omega
  | succ k =>
  refine gam (np := 1) (nn := 1) (b := b_tree_mean) rfl rfl ?_
  simp only [b_tree_mean, wSs, wS, wT, wE, wEs, wO, wC, wI, wG, wGs, startD, List.map_cons, List.map_nil, List.length_cons, List.length_nil, List.replicate, List.cons_append, List.nil_append, List.append_nil, List.set_cons_zero, List.set_cons_succ, List.getElem?_cons_zero, List.getElem?_cons_succ, itT, wipeD]
  refine stuck_ok (s := 0) ok ok.l0 (by omega) fun M E hM1 hM2 hE => ?_
  rw [nD_take]
  rcases stuck_cases hM1 hM2 hE with ⟨e, all⟩ | ⟨a, e, h1, h2, h3⟩
  · rw [e]
    rw [neTup]
    simp only [opAddI, opSubI, opMulI, opDivI, opModI, opPowI, opAddT, cmEq, cmNe, cmLt, cmLe, cmGt, cmGe, cmIn, eqI, eqS, inS2, truB, ixT0, ixT1, ixT2, ixT3, ixT4, ixT6, slcT, lenT, absI, intI, tupleT, listT, listRl, decide_true, decide_false, if_true, if_false, Bool.false_eq_true, reduceIte, decide_eq_true_eq, Bool.not_true, Bool.not_false, line, mI_int, mI_bool, mI_str, mI_tuple, mI_list, mB_int, mB_bool, mB_str, mB_tuple, mB_list, mS_int, mS_bool, mS_str, mS_tuple, mS_list, mT_int, mT_bool, mT_str, mT_tuple, mT_list, mN_int, mN_bool, mN_str, mN_tuple, mN_list, anyT, anyF, Nat.zero_add, Nat.reduceAdd, Nat.reduceLeDiff, true_and, List.isEmpty_nil]
    refine mean_from_ok (s := 0) ok ok.l0 hM2 hE all (by omega) fun o v V => ?_
    exact ⟨S, Sto.le_refl, hQ o v V⟩
  · exact absurd (hT a h1) h2
theorem tree_mean_no (ok : TrOk T) (hk : 5 < k) {a : Nat} (h1 : Rc T 0 a) (h2 : ¬ Tl T a) (hX : X ⟨"NotFit", [("word", .str "stays")]⟩ S) : Γ k "tree_mean" [tD T] S Q X := by
  cases k with
  | zero => omega
  | succ k =>
  refine gam (np := 1) (nn := 1) (b := b_tree_mean) rfl rfl ?_
  simp only [b_tree_mean, wSs, wS, wT, wE, wEs, wO, wC, wI, wG, wGs, startD, List.map_cons, List.map_nil, List.length_cons, List.length_nil, List.replicate, List.cons_append, List.nil_append, List.append_nil, List.set_cons_zero, List.set_cons_succ, List.getElem?_cons_zero, List.getElem?_cons_succ, itT, wipeD]
  refine stuck_ok (s := 0) ok ok.l0 (by omega) fun M E hM1 hM2 hE => ?_
  rw [nD_take]
  rcases stuck_cases hM1 hM2 hE with ⟨e, all⟩ | ⟨b, e, g1, g2, g3⟩
  · exact absurd (stuck_all hM2 hE all a h1) h2
  · rw [e]
    rw [neTup]
    simp only [opAddI, opSubI, opMulI, opDivI, opModI, opPowI, opAddT, cmEq, cmNe, cmLt, cmLe, cmGt, cmGe, cmIn, eqI, eqS, inS2, truB, ixT0, ixT1, ixT2, ixT3, ixT4, ixT6, slcT, lenT, absI, intI, tupleT, listT, listRl, decide_true, decide_false, if_true, if_false, Bool.false_eq_true, reduceIte, decide_eq_true_eq, Bool.not_true, Bool.not_false, line, mI_int, mI_bool, mI_str, mI_tuple, mI_list, mB_int, mB_bool, mB_str, mB_tuple, mB_list, mS_int, mS_bool, mS_str, mS_tuple, mS_list, mT_int, mT_bool, mT_str, mT_tuple, mT_list, mN_int, mN_bool, mN_str, mN_tuple, mN_list, anyT, anyF, Nat.zero_add, Nat.reduceAdd, Nat.reduceLeDiff, true_and, List.isEmpty_cons]
    exact ⟨by decide, S, Sto.le_refl, hX⟩
end K49
namespace K49
open PySem PySem.Spec PyProof.Rows L2 Mi
variable {T : Tr} {s : Nat} {o : List Nat}
def mu (T : Tr) (s : Nat) (o : List Nat) : Nat → Nat → Rat
  | 0, j => if j = s then 1 else 0
  | k + 1, j => sm (fun i => mu T s o k i * PM T i j) o
def tld (T : Tr) (s : Nat) (o : List Nat) : Nat → Nat → Rat
  | 0, _ => 0
  | k + 1, n => tld T s o k n + sm (fun i => mu T s o k i * TM T i n) o
def usd (T : Tr) (s : Nat) (o : List Nat) : Nat → Rat
  | 0 => 0
  | k + 1 => usd T s o k + sm (mu T s o k) o
structure Ot (T : Tr) (s : Nat) (o : List Nat) : Prop where
  ok : TrOk T
  s0 : s < T.length
  nd : o.Nodup
  mem : ∀ x, x ∈ o ↔ Rc T s x
theorem Ot.lt (h : Ot T s o) {x : Nat} (hx : x ∈ o) : x < T.length := ((h.mem x).mp hx).lt h.ok h.s0
theorem Ot.so (h : Ot T s o) : s ∈ o := (h.mem s).mpr .self
theorem Ot.cl (h : Ot T s o) {i : Nat} (hi : i ∈ o) : ∀ j ∈ succs T i, j ∈ o := fun j hj => (h.mem j).mpr (((h.mem i).mp hi).next hj)
theorem Ot.len (h : Ot T s o) : o.length ≤ 5 := Nat.le_trans (nodup_le h.nd fun x hx => h.lt hx) h.ok.l5
theorem mu_nn : ∀ (k j : Nat), 0 ≤ mu T s o k j
  | 0, j => by rw [mu]; split <;> decide
  | k + 1, j => by
    rw [mu]
    exact sm_nonneg fun i _ => mul_nn (mu_nn k i) (PM_nn i j)
theorem mu_sup (h : Ot T s o) : ∀ (k j : Nat), mu T s o k j ≠ 0 → j ∈ o
  | 0, j, hj => by
    rw [mu] at hj
    by_cases e : j = s
    · rw [e]; exact h.so
    · rw [if_neg e] at hj; exact absurd rfl hj
  | k + 1, j, hj => by
    refine Decidable.byContradiction fun hn => hj ?_
    rw [mu]
    have : sm (fun i => mu T s o k i * PM T i j) o = sm (fun _ => 0) o := sm_congr fun i hi => by
      have : PM T i j = 0 := Decidable.byContradiction fun z => hn (h.cl hi j (PM_ne z))
      rw [this]; grind
    rw [this, sm_zero]
theorem PM_row (h : Ot T s o) {i : Nat} (hi : i ∈ o) : sm (fun x => PM T i x) o ≤ 1 := by
  obtain ⟨a, b, hs⟩ := sides_two (h.lt hi)
  have e1 : sm (fun x => PM T i x) o = sm (fun x => PM T i x * (fun _ => 1) x) o := sm_congr fun x _ => by grind
  have v1 : ∀ d, vl (fun _ => 1) d ≤ 1 / 2 := fun d => by
    cases d with
    | tell n => show (0 : Rat) ≤ _; decide +kernel
    | node j => show (1 / 2 * 1 : Rat) ≤ _; decide +kernel
  rw [e1, sm_PM h.nd (h.cl hi), hs]
  simp only [ssum]
  have := v1 a
  have := v1 b
  grind
theorem mu_mass (h : Ot T s o) : ∀ k, sm (mu T s o k) o ≤ 1
  | 0 => by
    have e : sm (mu T s o 0) o = sm (fun x => (if x = s then 1 else 0) * (fun _ => 1) x) o := sm_congr fun x _ => by rw [mu]; grind
    rw [e, sm_one h.nd h.so]
    exact Rat.le_refl
  | k + 1 => by
    have e : sm (mu T s o (k + 1)) o = sm (fun i => mu T s o k i * sm (fun j => PM T i j) o) o := by
      have : sm (mu T s o (k + 1)) o = sm (fun j => sm (fun i => mu T s o k i * PM T i j) o) o := sm_congr fun j _ => by rw [mu]
      rw [this, ← sm_swap]
      exact sm_congr fun i _ => sm_mul
    have g : sm (fun i => mu T s o k i * sm (fun j => PM T i j) o) o ≤ sm (mu T s o k) o := sm_le fun i hi => by
      have := Rat.mul_le_mul_of_nonneg_left (PM_row h hi) (mu_nn (T := T) (s := s) (o := o) k i)
      grind
    rw [e]
    exact Rat.le_trans g (mu_mass h k)
theorem mu_le (h : Ot T s o) (k : Nat) {j : Nat} (hj : j ∈ o) : mu T s o k j ≤ 1 :=
  Rat.le_trans (sm_ge (f := mu T s o k) (fun x _ => mu_nn k x) hj) (mu_mass h k)
theorem hn2 {j : Nat} : ∀ {l : List Sd}, ∃ z : Int, ssum (hn j) l * 2 = (z : Rat)
  | [] => ⟨0, by rw [ssum, Rat.zero_mul]; rfl⟩
  | d :: l => by
    obtain ⟨z, hz⟩ := hn2 (j := j) (l := l)
    refine ⟨(if d = .node j then 1 else 0) + z, ?_⟩
    rw [ssum, Rat.intCast_add, ← hz]
    unfold hn
    split
    · have : ((1 : Int) : Rat) = 1 := rfl
      rw [this]; grind
    · have : ((0 : Int) : Rat) = 0 := rfl
      rw [this]; grind
theorem hn1 {j : Nat} : ∀ {l : List Sd}, ssum (hn j) l ≤ (l.length : Rat) * (1 / 2)
  | [] => by rw [ssum]; decide +kernel
  | d :: l => by
    have := hn1 (j := j) (l := l)
    have h1 : hn j d ≤ 1 / 2 := by unfold hn; split <;> decide +kernel
    rw [ssum, List.length_cons, Rat.natCast_add]
    have : ((1 : Nat) : Rat) = 1 := rfl
    rw [this]
    grind
theorem hn1' {j : Nat} {l : List Sd} (h : l.length ≤ 2) : ssum (hn j) l ≤ 1 := by
  have h1 := hn1 (j := j) (l := l)
  have h2 := ratle h
  have e : ((2 : Nat) : Rat) = 2 := rfl
  rw [e] at h2
  grind
theorem pw_nat (k : Nat) : ((2 ^ (k + 1) : Nat) : Rat) = ((2 ^ k : Nat) : Rat) * 2 := by
  rw [Nat.pow_succ, Rat.natCast_mul]; rfl
theorem mu_dn : ∀ (k j : Nat), ∃ z : Int, mu T s o k j * ((2 ^ k : Nat) : Rat) = (z : Rat)
  | 0, j => by
    rw [mu]
    split
    · exact ⟨1, by decide +kernel⟩
    · exact ⟨0, by decide +kernel⟩
  | k + 1, j => by
    rw [mu]
    refine sm_dn fun i _ => ?_
    obtain ⟨z1, q1⟩ := mu_dn k i
    obtain ⟨z2, q2⟩ := hn2 (j := j) (l := sides T i)
    refine ⟨z1 * z2, ?_⟩
    rw [Rat.intCast_mul, ← q1, ← q2, pw_nat]
    show mu T s o k i * ssum (hn j) (sides T i) * _ = _
    grind
theorem mu_zq (h : Ot T s o) {k : Nat} (hk : k ≤ 20) {c : Nat → Rat} {l : List Nat} (hl : l.length ≤ 8) (hs : ∀ i ∈ l, i ∈ o) (c0 : ∀ i, 0 ≤ c i) (c1 : ∀ i, c i ≤ 1) (c2 : ∀ i, ∃ z : Int, c i * 2 = (z : Rat)) :
    0 ≤ sm (fun i => mu T s o k i * c i) l ∧ sm (fun i => mu T s o k i * c i) l ≤ 8 ∧ (∃ z : Int, sm (fun i => mu T s o k i * c i) l * ((2 ^ (k + 1) : Nat) : Rat) = (z : Rat)) ∧ Zq 100 (sm (fun i => mu T s o k i * c i) l) := by
  have hz : ∃ z : Int, sm (fun i => mu T s o k i * c i) l * ((2 ^ (k + 1) : Nat) : Rat) = (z : Rat) := by
    rw [pw_nat]
    refine sm_dn fun i hi => ?_
    obtain ⟨z1, q1⟩ := mu_dn (T := T) (s := s) (o := o) k i
    obtain ⟨z2, q2⟩ := c2 i
    refine ⟨z1 * z2, ?_⟩
    rw [Rat.intCast_mul, ← q1, ← q2]
    grind
  have nn : 0 ≤ sm (fun i => mu T s o k i * c i) l := sm_nonneg fun i hi => mul_nn (mu_nn k i) (c0 i)
  have h1 : sm (fun i => mu T s o k i * c i) l ≤ sm (fun _ => ((1 : Nat) : Rat)) l := sm_le fun i hi => by
    have g1 := mu_le h k (hs i hi)
    have g2 := mu_nn (T := T) (s := s) (o := o) k i
    have : mu T s o k i * c i ≤ mu T s o k i * 1 := Rat.mul_le_mul_of_nonneg_left (c1 i) g2
    have e : ((1 : Nat) : Rat) = 1 := rfl
    rw [e]
    grind
  rw [sm_const, ← Rat.natCast_mul, Nat.mul_one] at h1
  have h8 : sm (fun i => mu T s o k i * c i) l ≤ ((2 ^ 3 : Nat) : Rat) := Rat.le_trans h1 (ratle hl)
  have e8 : ((2 ^ 3 : Nat) : Rat) = 8 := rfl
  obtain ⟨z, hz'⟩ := hz
  refine ⟨nn, by rw [← e8]; exact h8, ⟨z, hz'⟩, ?_⟩
  exact (zq_of (Nat.pow_pos (by decide)) (Nat.le_refl _) nn h8 hz').mono (by omega)
theorem TM1 (i n : Nat) : TM T i n ≤ 1 := ht1' sides_len
theorem TM2 (i n : Nat) : ∃ z : Int, TM T i n * 2 = (z : Rat) := ht2
theorem PM1 (i n : Nat) : PM T i n ≤ 1 := hn1' sides_len
theorem PM2 (i n : Nat) : ∃ z : Int, PM T i n * 2 = (z : Rat) := hn2
structure Hv (k : Nat) (q : Rat) : Prop where
  nn : 0 ≤ q
  le : q ≤ ((8 * k : Nat) : Rat)
  dn : ∃ z : Int, q * ((2 ^ (k + 1) : Nat) : Rat) = (z : Rat)
theorem Hv.step {k : Nat} {q r : Rat} (h : Hv k q) (r0 : 0 ≤ r) (r8 : r ≤ 8) (rd : ∃ z : Int, r * ((2 ^ (k + 1) : Nat) : Rat) = (z : Rat)) : Hv (k + 1) (q + r) := by
  obtain ⟨z1, q1⟩ := h.dn
  obtain ⟨z2, q2⟩ := rd
  refine ⟨by have := h.nn; grind, ?_, ⟨(z1 + z2) * 2, ?_⟩⟩
  · have e : ((8 * (k + 1) : Nat) : Rat) = ((8 * k : Nat) : Rat) + 8 := by
      rw [Nat.mul_add, Rat.natCast_add]; rfl
    have := h.le
    rw [e]; grind
  · rw [pw_nat, Rat.intCast_mul, Rat.intCast_add, ← q1, ← q2]
    have : ((2 : Int) : Rat) = 2 := rfl
    rw [this]; grind
theorem Hv.zq {k : Nat} {q : Rat} (h : Hv k q) (hk : k ≤ 20) : Zq 100 q := by
  obtain ⟨z, hz⟩ := h.dn
  have e8 : (2 : Nat) ^ 8 = 256 := by decide
  have : q ≤ ((2 ^ 8 : Nat) : Rat) := Rat.le_trans h.le (ratle (by omega))
  exact (zq_of (Nat.pow_pos (by decide)) (Nat.le_refl _) h.nn this hz).mono (by omega)
theorem Hv.zero : Hv 0 0 := ⟨Rat.le_refl, by decide +kernel, ⟨0, by decide +kernel⟩⟩
theorem tld_hv (h : Ot T s o) (n : Nat) : ∀ k, k ≤ 20 → Hv k (tld T s o k n)
  | 0, _ => Hv.zero
  | k + 1, hk => by
    have ih := tld_hv h n k (by omega)
    have hl := h.len
    obtain ⟨a, b, c, _⟩ := mu_zq h (k := k) (by omega) (c := fun i => TM T i n) (l := o) (by omega) (fun _ h => h) (fun i => TM_nn i n) (fun i => TM1 i n) (fun i => TM2 i n)
    rw [tld]
    exact ih.step a b c
theorem usd_hv (h : Ot T s o) : ∀ k, k ≤ 20 → Hv k (usd T s o k)
  | 0, _ => Hv.zero
  | k + 1, hk => by
    have ih := usd_hv h k (by omega)
    have hl := h.len
    obtain ⟨a, b, c, _⟩ := mu_zq h (k := k) (by omega) (c := fun _ => 1) (l := o) (by omega) (fun _ h => h) (fun _ => by decide) (fun _ => Rat.le_refl) (fun _ => ⟨2, by decide +kernel⟩)
    have e : sm (fun i => mu T s o k i * 1) o = sm (mu T s o k) o := sm_congr fun x _ => by grind
    rw [e] at a b c
    rw [usd]
    exact ih.step a b c
theorem mu_pos (h : Ot T s o) {k x : Nat} (r : Rk T s k x) : 0 < mu T s o k x := by
  induction r with
  | base => rw [mu, if_pos rfl]; decide
  | @step k i j r q ih =>
    have hi : i ∈ o := (h.mem i).mpr ⟨k, r⟩
    have g := sm_ge (f := fun i => mu T s o k i * PM T i j) (fun i _ => mul_nn (mu_nn k i) (PM_nn i j)) hi
    have p := Rat.mul_pos ih (PM_pos q)
    rw [mu]
    grind
theorem tld_ge {k m n i : Nat} (hk : k < m) (hi : i ∈ o) : mu T s o k i * TM T i n ≤ tld T s o m n := by
  have nn : ∀ m, 0 ≤ tld T s o m n := fun m => by
    induction m with
    | zero => exact Rat.le_refl
    | succ m ih =>
      have : 0 ≤ sm (fun i => mu T s o m i * TM T i n) o := sm_nonneg fun i _ => mul_nn (mu_nn m i) (TM_nn i n)
      rw [tld]; grind
  induction m with
  | zero => omega
  | succ m ih =>
    have h1 : 0 ≤ sm (fun i => mu T s o m i * TM T i n) o := sm_nonneg fun i _ => mul_nn (mu_nn m i) (TM_nn i n)
    rw [tld]
    by_cases e : k = m
    · subst e
      have g := sm_ge (f := fun i => mu T s o k i * TM T i n) (fun i _ => mul_nn (mu_nn k i) (TM_nn i n)) hi
      have := nn k
      grind
    · have := ih (by omega)
      grind
end K49
namespace K49
open PySem PySem.Spec PyProof.Rows L2 Mi
variable {T : Tr} {s : Nat} {o : List Nat} {v : Nat → Rat}
def wv (T : Tr) (s : Nat) (o : List Nat) (v : Nat → Rat) : Nat → Nat → Rat
  | 0, j => v j
  | k + 1, j => wv T s o v k j - mu T s o k j
theorem Vo.ot (h : Vo T s o v) (ok : TrOk T) (s0 : s < T.length) : Ot T s o := ⟨ok, s0, h.nd, h.mem⟩
theorem wv_eq (h : Vo T s o v) (ok : TrOk T) (s0 : s < T.length) : ∀ k j, j ∈ o → wv T s o v k j = mu T s o k j + sm (fun i => wv T s o v k i * PM T i j) o
  | 0, j, hj => by
    rw [wv, mu]
    exact h.vs.eq j hj
  | k + 1, j, hj => by
    have ih := wv_eq h ok s0 k j hj
    have e : sm (fun i => wv T s o v (k + 1) i * PM T i j) o = sm (fun i => wv T s o v k i * PM T i j) o - sm (fun i => mu T s o k i * PM T i j) o := by
      rw [← sm_sub]
      exact sm_congr fun i _ => by rw [wv]; grind
    rw [e, wv, mu]
    grind
theorem wv_nn (h : Vo T s o v) (ok : TrOk T) (s0 : s < T.length) : ∀ k j, j ∈ o → 0 ≤ wv T s o v k j
  | 0, j, hj => h.vs.nn j hj
  | k + 1, j, hj => by
    have e := wv_eq h ok s0 k j hj
    have : 0 ≤ sm (fun i => wv T s o v k i * PM T i j) o := sm_nonneg fun i hi => mul_nn (wv_nn h ok s0 k i hi) (PM_nn i j)
    rw [wv]
    grind
theorem LW_eq (n : Nat) : ∀ k, LW T o v n = tld T s o k n + sm (fun i => wv T s o v k i * TM T i n) o
  | 0 => by
    rw [tld]
    have : sm (fun i => wv T s o v 0 i * TM T i n) o = LW T o v n := sm_congr fun i _ => by rw [wv]
    rw [this]; grind
  | k + 1 => by
    have ih := LW_eq n k
    have e : sm (fun i => wv T s o v (k + 1) i * TM T i n) o = sm (fun i => wv T s o v k i * TM T i n) o - sm (fun i => mu T s o k i * TM T i n) o := by
      rw [← sm_sub]
      exact sm_congr fun i _ => by rw [wv]; grind
    rw [e, tld]
    grind
theorem usd_eq : ∀ k, sm v o = usd T s o k + sm (wv T s o v k) o
  | 0 => by
    rw [usd]
    have : sm (wv T s o v 0) o = sm v o := sm_congr fun i _ => by rw [wv]
    rw [this]; grind
  | k + 1 => by
    have ih := usd_eq k
    have e : sm (wv T s o v (k + 1)) o = sm (wv T s o v k) o - sm (mu T s o k) o := by
      rw [← sm_sub]
      exact sm_congr fun i _ => by rw [wv]
    rw [e, usd]
    grind
theorem usd_le (h : Vo T s o v) (ok : TrOk T) (s0 : s < T.length) (k : Nat) : usd T s o k ≤ sm v o := by
  have e := usd_eq (T := T) (s := s) (o := o) (v := v) k
  have : 0 ≤ sm (wv T s o v k) o := sm_nonneg fun j hj => wv_nn h ok s0 k j hj
  grind
def num4 : List Nat := [0, 1, 2, 3]
theorem one_side {A : List Nat} (hd : A.Nodup) {d : Sd} (h1 : ∀ j, d = .node j → j ∈ A) (h2 : ∀ n, d = .tell n → n < 4) : sm (fun n => ht n d) num4 + sm (fun x => hn x d * 1) A = 1 / 2 := by
  cases d with
  | tell n =>
    have e1 : sm (fun x => hn x (.tell n) * 1) A = sm (fun _ => 0) A := sm_congr fun x _ => by
      unfold hn
      rw [if_neg (by simp)]; grind
    have e2 : sm (fun m => ht m (.tell n)) num4 = sm (fun m => (if m = n then 1 else 0) * (fun _ => 1 / 2) m) num4 := sm_congr fun m _ => by
      unfold ht
      by_cases e : m = n
      · subst e; rw [if_pos rfl, if_pos rfl]; grind
      · rw [if_neg (by simp; exact fun z => e z.symm), if_neg e]; grind
    have h4 : n ∈ num4 := by
      have := h2 n rfl
      unfold num4
      simp
      omega
    rw [e1, sm_zero, e2, sm_one (by unfold num4; decide) h4]
    grind
  | node j =>
    have e1 := sm_hn (g := fun _ => 1) hd h1
    have e2 : sm (fun m => ht m (.node j)) num4 = sm (fun _ => 0) num4 := sm_congr fun m _ => by
      unfold ht
      rw [if_neg (by simp)]
    rw [e1, e2, sm_zero]
    show 0 + 1 / 2 * (1 : Rat) = 1 / 2
    grind
theorem row_one (h : Ot T s o) {i : Nat} (hi : i ∈ o) : (1 : Rat) = sm (fun n => TM T i n) num4 + sm (fun x => PM T i x * 1) o := by
  obtain ⟨a, b, hs⟩ := sides_two (h.lt hi)
  have ha := one_side h.nd (d := a) (fun j e => h.cl hi j (mem_nodes.mpr (by rw [hs, e]; simp))) fun n e => h.ok.tl i n (by rw [hs, e]; simp)
  have hb := one_side h.nd (d := b) (fun j e => h.cl hi j (mem_nodes.mpr (by rw [hs, e]; simp))) fun n e => h.ok.tl i n (by rw [hs, e]; simp)
  have e1 : sm (fun n => TM T i n) num4 = sm (fun n => ht n a) num4 + sm (fun n => ht n b) num4 := by
    rw [← sm_add]
    exact sm_congr fun n _ => by
      show ssum (ht n) (sides T i) = _
      rw [hs]; simp only [ssum]; grind
  have e2 : sm (fun x => PM T i x * 1) o = sm (fun x => hn x a * 1) o + sm (fun x => hn x b * 1) o := by
    rw [← sm_add]
    exact sm_congr fun n _ => by
      show ssum (hn n) (sides T i) * 1 = _
      rw [hs]; simp only [ssum]; grind
  rw [e1, e2]
  grind
theorem tot {w μ : Nat → Rat} (h : Ot T s o) (hw : ∀ j ∈ o, w j = μ j + sm (fun i => w i * PM T i j) o) : sm (fun n => sm (fun i => w i * TM T i n) o) num4 = sm μ o := by
  have d := dual (W := PM T) (A := o) (v := w) (μ := μ) (g := fun _ => 1) (r := fun i => sm (fun n => TM T i n) num4) hw fun i hi => row_one h hi
  have e1 : sm (fun n => sm (fun i => w i * TM T i n) o) num4 = sm (fun i => w i * sm (fun n => TM T i n) num4) o := by
    rw [sm_swap]
    exact sm_congr fun i _ => sm_mul
  have e2 : sm (fun j => μ j * 1) o = sm μ o := sm_congr fun j _ => by grind
  rw [e1, d, e2]
theorem LW_tot (h : Vo T s o v) (ok : TrOk T) (s0 : s < T.length) : sm (LW T o v) num4 = 1 := by
  have O := h.ot ok s0
  have := tot O (w := v) (μ := fun j => if j = s then 1 else 0) h.vs.eq
  have e : sm (fun j => if j = s then (1 : Rat) else 0) o = sm (fun x => (if x = s then 1 else 0) * (fun _ => 1) x) o := sm_congr fun x _ => by grind
  rw [e, sm_one O.nd O.so] at this
  exact this
theorem LW_up (h : Vo T s o v) (ok : TrOk T) (s0 : s < T.length) (k n : Nat) (h4 : n < 4) : tld T s o k n ≤ LW T o v n ∧ LW T o v n ≤ tld T s o k n + sm (mu T s o k) o := by
  have O := h.ot ok s0
  have e := LW_eq (T := T) (s := s) (o := o) (v := v) n k
  have nn : ∀ n, 0 ≤ sm (fun i => wv T s o v k i * TM T i n) o := fun n => sm_nonneg fun i hi => mul_nn (wv_nn h ok s0 k i hi) (TM_nn i n)
  have t := tot O (wv_eq h ok s0 k)
  have g := sm_ge (f := fun n => sm (fun i => wv T s o v k i * TM T i n) o) (l := num4) (fun n _ => nn n) (show n ∈ num4 by unfold num4; simp; omega)
  have := nn n
  rw [t] at g
  exact ⟨by grind, by grind⟩
theorem LW_lt4 (h : Ot T s o) {n : Nat} (hn : LW T o v n ≠ 0) : n < 4 := by
  refine Decidable.byContradiction fun hlt => hn ?_
  have : sm (fun i => v i * TM T i n) o = sm (fun _ => 0) o := sm_congr fun i hi => by
    have : TM T i n = 0 := Decidable.byContradiction fun z => hlt (h.ok.tl i n (TM_ne z))
    rw [this]; grind
  show sm (fun i => v i * TM T i n) o = 0
  rw [this, sm_zero]
theorem sm_ne {f : Nat → Rat} : ∀ {l : List Nat}, sm f l ≠ 0 → ∃ x ∈ l, f x ≠ 0
  | [], h => absurd rfl h
  | a :: l, h => by
    by_cases e : f a = 0
    · rw [sm, e] at h
      obtain ⟨x, hx, hn⟩ := sm_ne (f := f) (l := l) (fun z => h (by rw [z]; grind))
      exact ⟨x, List.mem_cons_of_mem _ hx, hn⟩
    · exact ⟨a, List.mem_cons_self .., e⟩
theorem LW_tld (h : Vo T s o v) (ok : TrOk T) (s0 : s < T.length) (n : Nat) : LW T o v n ≠ 0 ↔ tld T s o 12 n ≠ 0 := by
  have O := h.ot ok s0
  have t0 : 0 ≤ tld T s o 12 n := (tld_hv O n 12 (by decide)).nn
  constructor
  · intro hn
    obtain ⟨i, hi, hne⟩ := sm_ne hn
    have hT : TM T i n ≠ 0 := fun z => hne (by rw [z]; grind)
    obtain ⟨k, hk, r⟩ := near ok s0 ((h.mem i).mp hi)
    have := ok.l5
    have g := tld_ge (T := T) (s := s) (o := o) (k := k) (m := 12) (n := n) (by omega) hi
    have p := Rat.mul_pos (mu_pos O r) (TM_pos (TM_ne hT))
    grind
  · intro hn
    have h4 : n < 4 := Decidable.byContradiction fun hlt => hn (by
      have z : ∀ k, tld T s o k n = 0 := fun k => by
        induction k with
        | zero => rfl
        | succ k ih =>
          have : sm (fun i => mu T s o k i * TM T i n) o = sm (fun _ => 0) o := sm_congr fun i hi => by
            have : TM T i n = 0 := Decidable.byContradiction fun z => hlt (ok.tl i n (TM_ne z))
            rw [this]; grind
          rw [tld, ih, this, sm_zero]; grind
      exact z 12)
    have := (LW_up h ok s0 12 n h4).1
    grind
end K49
namespace K49
open PySem PySem.Spec PyProof.Rows L2 Mi
variable {k : Nat} {S : Sto} {Q : KD} {X : KX} {pp : Addr} {T : Tr} {s : Nat} {o : List Nat}
theorem sm_erase {f : Nat → Rat} {a : Nat} : ∀ {l : List Nat}, a ∈ l → sm f l = f a + sm f (l.erase a)
  | b :: l, h => by
    by_cases e : b = a
    · subst e; rw [List.erase_cons_head, sm]
    · have hl : a ∈ l := by
        rcases List.mem_cons.mp h with z | z
        · exact absurd z.symm e
        · exact z
      rw [List.erase_cons_tail (by simpa using e), sm, sm, sm_erase hl]
      grind
theorem sm_ks {f : Nat → Rat} : ∀ {ks l : List Nat}, ks.Nodup → l.Nodup → (∀ x ∈ ks, x ∈ l) → (∀ x ∈ l, x ∉ ks → f x = 0) → sm f ks = sm f l
  | [], l, _, _, _, h => by
    have : sm f l = sm (fun _ => 0) l := sm_congr fun x hx => h x hx (by simp)
    rw [this, sm_zero]; rfl
  | a :: ks, l, h1, h2, h3, h4 => by
    rw [List.nodup_cons] at h1
    rw [sm, sm_erase (h3 a (by simp)), sm_ks h1.2 (h2.erase a) (fun x hx => (h2.mem_erase_iff).mpr ⟨fun z => h1.1 (z ▸ hx), h3 x (by simp [hx])⟩) fun x hx hn => ?_]
    have := (h2.mem_erase_iff).mp hx
    exact h4 x this.2 (by simp [this.1, hn])
theorem note_ok {p : Addr} {f : Nat → Rat} {kvs : List (D × D)} {j : Nat} {x : Rat} (h : S p = some (.dct kvs)) (F : Fd f kvs) (zf : Zq 1500 (f j)) (zx : Zq 1500 x) (hk : 3 < k)
    (hQ : Q .non (S.upd p (.dct (dput kvs (.int (j : Int)) (rq (f j + x)))))) : Γ k "_law_note" [.ref p, .int (j : Int), rq x] S Q X := by
  cases k with
  | zero => omega
  | succ k =>
  refine gam (np := 3) (nn := 3) (b := b__law_note) rfl rfl ?_
  have e0 : D.tup [.int 0, .int 1] = rq 0 := rq0.symm
  simp only [b__law_note, wSs, wS, wT, wE, wEs, wO, wC, wI, wG, wGs, startD, List.map_cons, List.map_nil, List.length_cons, List.length_nil, List.replicate, List.cons_append, List.nil_append, List.append_nil, List.set_cons_zero, List.set_cons_succ, List.getElem?_cons_zero, List.getElem?_cons_succ, itT, wipeD, opAddI, opSubI, opMulI, opDivI, opModI, opPowI, opAddT, cmEq, cmNe, cmLt, cmLe, cmGt, cmGe, cmIn, eqI, eqS, inS2, truB, ixT0, ixT1, ixT2, ixT3, ixT4, ixT6, slcT, lenT, absI, intI, tupleT, listT, listRl, decide_true, decide_false, if_true, if_false, Bool.false_eq_true, reduceIte, decide_eq_true_eq, Bool.not_true, Bool.not_false, line, mI_int, mI_bool, mI_str, mI_tuple, mI_list, mB_int, mB_bool, mB_str, mB_tuple, mB_list, mS_int, mS_bool, mS_str, mS_tuple, mS_list, mT_int, mT_bool, mT_str, mT_tuple, mT_list, mN_int, mN_bool, mN_str, mN_tuple, mN_list, anyT, anyF, Nat.zero_add, Nat.reduceAdd, Nat.reduceLeDiff, true_and, mtyGd h, e0, getFd h F]
  refine lplus_rq (by omega) zf zx ?_
  simp only [setFd h F]
  exact ⟨_, Sto.le_refl, hQ⟩
theorem share_ok (O : Ot T s o) (hk : 4 < k) (hQ : ∀ (p : Addr) (kvs : List (D × D)), S p = none → Fd (tld T s o 12) kvs → Q (.tup [.ref p, rq (sm (mu T s o 12) o), rq (usd T s o 12)]) (S.upd p (.dct kvs))) : Γ k "_law_share" [tD T, .int (s : Int), .int 12] S Q X := by
  cases k with
  | zero => omega
  | succ k =>
  refine gam (np := 3) (nn := 12) (b := b__law_share) rfl rfl ?_
  have l5 := O.ok.l5
  have olen := O.len
  have t1 : D.tup [.int 1, .int 1] = rq 1 := rq1.symm
  have t0 : D.tup [.int 0, .int 1] = rq 0 := rq0.symm
  have th : D.tup [.int 1, .int 2] = rq (1 / 2) := rqh.symm
  simp only [b__law_share, wSs, wS, wT, wE, wEs, wO, wC, wI, wG, wGs, startD, List.map_cons, List.map_nil, List.length_cons, List.length_nil, List.replicate, List.cons_append, List.nil_append, List.append_nil, List.set_cons_zero, List.set_cons_succ, List.getElem?_cons_zero, List.getElem?_cons_succ, itT, wipeD, opAddI, opSubI, opMulI, opDivI, opModI, opPowI, opAddT, cmEq, cmNe, cmLt, cmLe, cmGt, cmGe, cmIn, eqI, eqS, inS2, truB, ixT0, ixT1, ixT2, ixT3, ixT4, ixT6, slcT, lenT, absI, intI, tupleT, listT, listRl, decide_true, decide_false, if_true, if_false, Bool.false_eq_true, reduceIte, decide_eq_true_eq, Bool.not_true, Bool.not_false, line, mI_int, mI_bool, mI_str, mI_tuple, mI_list, mB_int, mB_bool, mB_str, mB_tuple, mB_list, mS_int, mS_bool, mS_str, mS_tuple, mS_list, mT_int, mT_bool, mT_str, mT_tuple, mT_list, mN_int, mN_bool, mN_str, mN_tuple, mN_list, anyT, anyF, Nat.zero_add, Nat.reduceAdd, Nat.reduceLeDiff, true_and, t1, t0]
  refine ⟨rfl, fun p0 hp0 p4 hp4 => ?_⟩
  have p04 : p0 ≠ p4 := fun z => by subst z; rw [Sto.upd_same] at hp4; cases hp4
  have S4n := le_none (Sto.le_new hp0) hp4
  refine ⟨⟨by decide, by decide⟩, ?_⟩
  have e0 : dmerge [] (List.zip [D.int (s : Int)] [rq 1]) = en (fun j => rq (mu T s o 0 j)) [s] := by
    show [(D.int (s : Int), rq 1)] = [(D.int (s : Int), rq (mu T s o 0 s))]
    rw [mu, if_pos rfl]
  rw [e0] at hp4 ⊢
  have F0 : Fd (mu T s o 0) (en (fun j => rq (mu T s o 0 j)) [s]) := ⟨[s], by simp, fun j => by
    rw [mu, List.mem_singleton]
    by_cases e : j = s
    · rw [if_pos e]; simp [e]
    · rw [if_neg e]; simp [e], fun j hj => by rw [List.mem_singleton.mp hj]; have := O.s0; omega, rfl⟩
  refine forL_inv (rngD 0 (12 : Int).toNat) (fun i σ S' => ∃ p3 kvs3 kvs4 x6 x7 x8 x9 x10 x11, σ = [some (tD T), some (.int (s : Int)), some (.int 12), some (.ref p3), some (.ref p4), some (rq (usd T s o i)), x6, x7, x8, x9, x10, x11] ∧ S.le S' ∧ S p3 = none ∧ p3 ≠ p4 ∧ S' p3 = some (.dct kvs3) ∧ Fd (mu T s o i) kvs3 ∧ S' p4 = some (.dct kvs4) ∧ Fd (tld T s o i) kvs4) (fun _ _ _ _ => trivial) ?_ ?_
    ⟨p0, _, [], _, _, _, _, _, _, rfl, Sto.le_new' (Sto.le_new hp0) hp4, hp0, p04, by rw [Sto.upd_ne p04, Sto.upd_same], F0, Sto.upd_same, Fd.nil⟩
  · rintro i d σ S1 NX hd ⟨p3, kvs3, kvs4, x6, x7, x8, x9, x10, x11, rfl, hle, s3, p34, h3, F3, h4, F4⟩ hN
    have hi : i < 12 := by
      have := (List.getElem?_eq_some_iff.mp hd).1
      simpa [rngD] using this
    obtain ⟨ks, k1, k2, k3, rfl⟩ := id F3
    have kso : ∀ x ∈ ks, x ∈ o := fun x hx => mu_sup O i x ((k2 x).mp hx)
    have ksl : ks.length ≤ 8 := nodup_le k1 k3
    simp only [s__law_share_3, wSs, wS, wT, wE, wEs, wO, wC, wI, wG, wGs, startD, List.map_cons, List.map_nil, List.length_cons, List.length_nil, List.replicate, List.cons_append, List.nil_append, List.append_nil, List.set_cons_zero, List.set_cons_succ, List.getElem?_cons_zero, List.getElem?_cons_succ, itT, wipeD, opAddI, opSubI, opMulI, opDivI, opModI, opPowI, opAddT, cmEq, cmNe, cmLt, cmLe, cmGt, cmGe, cmIn, eqI, eqS, inS2, truB, ixT0, ixT1, ixT2, ixT3, ixT4, ixT6, slcT, lenT, absI, intI, tupleT, listT, listRl, decide_true, decide_false, if_true, if_false, Bool.false_eq_true, reduceIte, decide_eq_true_eq, Bool.not_true, Bool.not_false, line, mI_int, mI_bool, mI_str, mI_tuple, mI_list, mB_int, mB_bool, mB_str, mB_tuple, mB_list, mS_int, mS_bool, mS_str, mS_tuple, mS_list, mT_int, mT_bool, mT_str, mT_tuple, mT_list, mN_int, mN_bool, mN_str, mN_tuple, mN_list, anyT, anyF, Nat.zero_add, Nat.reduceAdd, Nat.reduceLeDiff, true_and]
    intro p9 hp9
    have p93 : p9 ≠ p3 := fun z => by subst z; rw [h3] at hp9; cases hp9
    have p94 : p9 ≠ p4 := fun z => by subst z; rw [h4] at hp9; cases hp9
    have s9 := le_none hle hp9
    rw [itDc (show (S1.upd p9 (.dct [])) p3 = some (.dct (en (fun j => rq (mu T s o i j)) ks)) by rw [Sto.upd_ne p93.symm]; exact h3) en_keyW, en_keys]
    have c0 : ∀ (c : Nat → Nat → Rat) (n : Nat) , sm (fun x => mu T s o i x * c x n) ks = sm (fun x => mu T s o i x * c x n) o := fun c n =>
      sm_ks k1 O.nd kso fun x _ hn => by
        have : mu T s o i x = 0 := Decidable.byContradiction fun z => hn ((k2 x).mpr z)
        rw [this]; grind
    have tz := fun n => (tld_hv O n i (by omega)).zq (by omega)
    have uz := (usd_hv O i (by omega)).zq (by omega)
    refine forL_inv (nD ks) (fun m σ S' => ∃ k4 k9 x8 x10 x11, σ = [some (tD T), some (.int (s : Int)), some (.int 12), some (.ref p3), some (.ref p4), some (rq (usd T s o i + sm (mu T s o i) (ks.take m))), some d, x7, x8, some (.ref p9), x10, x11] ∧ S.le S' ∧ S' p3 = some (.fdc (en (fun j => rq (mu T s o i j)) ks)) ∧ S' p4 = some (.dct k4) ∧ Fd (fun n => tld T s o i n + sm (fun x => mu T s o i x * TM T x n) (ks.take m)) k4 ∧ S' p9 = some (.dct k9) ∧ Fd (fun j => sm (fun x => mu T s o i x * PM T x j) (ks.take m)) k9) (fun _ _ _ ⟨_, _, _, _, _, _, _, h, _⟩ => h) ?_ ?_
      ⟨kvs4, [], _, _, _, by
        rw [List.take_zero, sm]
        have : usd T s o i + 0 = usd T s o i := by grind
        rw [this], Sto.le_upd s3 (Sto.le_new' hle hp9), Sto.upd_same, by rw [Sto.upd_ne p34.symm, Sto.upd_ne p94.symm]; exact h4, F4.eq fun n => by rw [List.take_zero, sm]; grind, by rw [Sto.upd_ne p93, Sto.upd_same], Fd.nil⟩
    · rintro m d2 σ S2 NX2 hd2 ⟨k4, k9, x8, x10, x11, rfl, hle2, h32, h42, F42, h92, F92⟩ hN2
      unfold nD at hd2
      rw [List.getElem?_map, Option.map_eq_some_iff] at hd2
      obtain ⟨a, ha, rfl⟩ := hd2
      have hak := List.mem_of_getElem? ha
      have hao := kso a hak
      have hal := O.lt hao
      have mp : 0 < mu T s o i a := by
        have := mu_nn (T := T) (s := s) (o := o) i a
        have := (k2 a).mp hak
        grind
      have tk8 : (ks.take m).length ≤ 8 := by rw [List.length_take]; omega
      have tko : ∀ x ∈ ks.take m, x ∈ o := fun x hx => kso x (List.mem_of_mem_take hx)
      have one : ∀ (c : Nat → Rat) (l : List Nat), sm (fun x => mu T s o i x * 1) l = sm (mu T s o i) l := fun c l => sm_congr fun x _ => by grind
      have zu : Zq 100 (sm (mu T s o i) (ks.take m)) := by
        have := (mu_zq O (k := i) (by omega) (c := fun _ => 1) tk8 tko (fun _ => by decide) (fun _ => Rat.le_refl) (fun _ => ⟨2, by decide +kernel⟩)).2.2.2
        rwa [one (fun _ => 0)] at this
      have zm : Zq 100 (mu T s o i a) := by
        have := (mu_zq O (k := i) (by omega) (c := fun _ => 1) (l := [a]) (by simp) (fun x hx => by rw [List.mem_singleton.mp hx]; exact hao) (fun _ => by decide) (fun _ => Rat.le_refl) (fun _ => ⟨2, by decide +kernel⟩)).2.2.2
        rw [one (fun _ => 0)] at this
        simp only [sm] at this
        rwa [show mu T s o i a + 0 = mu T s o i a by grind] at this
      simp only [s__law_share_2, wSs, wS, wT, wE, wEs, wO, wC, wI, wG, wGs, startD, List.map_cons, List.map_nil, List.length_cons, List.length_nil, List.replicate, List.cons_append, List.nil_append, List.append_nil, List.set_cons_zero, List.set_cons_succ, List.getElem?_cons_zero, List.getElem?_cons_succ, itT, wipeD, opAddI, opSubI, opMulI, opDivI, opModI, opPowI, opAddT, cmEq, cmNe, cmLt, cmLe, cmGt, cmGe, cmIn, eqI, eqS, inS2, truB, ixT0, ixT1, ixT2, ixT3, ixT4, ixT6, slcT, lenT, absI, intI, tupleT, listT, listRl, decide_true, decide_false, if_true, if_false, Bool.false_eq_true, reduceIte, decide_eq_true_eq, Bool.not_true, Bool.not_false, line, mI_int, mI_bool, mI_str, mI_tuple, mI_list, mB_int, mB_bool, mB_str, mB_tuple, mB_list, mS_int, mS_bool, mS_str, mS_tuple, mS_list, mT_int, mT_bool, mT_str, mT_tuple, mT_list, mN_int, mN_bool, mN_str, mN_tuple, mN_list, anyT, anyF, Nat.zero_add, Nat.reduceAdd, Nat.reduceLeDiff, true_and, ixEnF h32 hak]
      refine lplus_rq (by omega) ((uz.add zu).mono (by decide)) (zm.mono (by decide)) ?_
      have eu : usd T s o i + sm (mu T s o i) (ks.take m) + mu T s o i a = usd T s o i + sm (mu T s o i) (ks.take (m + 1)) := by
        rw [take_snoc ha, sm_append, sm, sm]; grind
      rw [eu]
      simp only [wSs, wS, wT, wE, wEs, wO, wC, wI, wG, wGs, startD, List.map_cons, List.map_nil, List.length_cons, List.length_nil, List.replicate, List.cons_append, List.nil_append, List.append_nil, List.set_cons_zero, List.set_cons_succ, List.getElem?_cons_zero, List.getElem?_cons_succ, itT, wipeD, opAddI, opSubI, opMulI, opDivI, opModI, opPowI, opAddT, cmEq, cmNe, cmLt, cmLe, cmGt, cmGe, cmIn, eqI, eqS, inS2, truB, ixT0, ixT1, ixT2, ixT3, ixT4, ixT6, slcT, lenT, absI, intI, tupleT, listT, listRl, decide_true, decide_false, if_true, if_false, Bool.false_eq_true, reduceIte, decide_eq_true_eq, Bool.not_true, Bool.not_false, line, mI_int, mI_bool, mI_str, mI_tuple, mI_list, mB_int, mB_bool, mB_str, mB_tuple, mB_list, mS_int, mS_bool, mS_str, mS_tuple, mS_list, mT_int, mT_bool, mT_str, mT_tuple, mT_list, mN_int, mN_bool, mN_str, mN_tuple, mN_list, anyT, anyF, Nat.zero_add, Nat.reduceAdd, Nat.reduceLeDiff, true_and, ix_tree hal]
      refine forL_inv ((sides T a).map sD) (fun t σ S' => ∃ k4 k9 x10 x11, σ = [some (tD T), some (.int (s : Int)), some (.int 12), some (.ref p3), some (.ref p4), some (rq (usd T s o i + sm (mu T s o i) (ks.take (m + 1)))), some d, x7, some (.int (a : Int)), some (.ref p9), x10, x11] ∧ S.le S' ∧ S' p3 = some (.fdc (en (fun j => rq (mu T s o i j)) ks)) ∧ S' p4 = some (.dct k4) ∧ Fd (fun n => tld T s o i n + sm (fun x => mu T s o i x * TM T x n) (ks.take m) + mu T s o i a * ssum (ht n) ((sides T a).take t)) k4 ∧ S' p9 = some (.dct k9) ∧ Fd (fun j => sm (fun x => mu T s o i x * PM T x j) (ks.take m) + mu T s o i a * ssum (hn j) ((sides T a).take t)) k9) (fun _ _ _ _ => trivial) ?_ ?_
        ⟨k4, k9, _, _, rfl, hle2, h32, h42, F42.eq fun n => by rw [List.take_zero, ssum]; grind, h92, F92.eq fun n => by rw [List.take_zero, ssum]; grind⟩
      · rintro t d3 σ S3 NX3 hd3 ⟨k4, k9, x10, x11, rfl, hle3, h33, h43, F43, h93, F93⟩ hN3
        rw [List.getElem?_map, Option.map_eq_some_iff] at hd3
        obtain ⟨d3, hd3, rfl⟩ := hd3
        have st2 : ((sides T a).take t).length ≤ 2 := by
          have : (sides T a).length ≤ 2 := sides_len
          rw [List.length_take]; omega
        have aph : ∀ n, ssum (ht n) ((sides T a).take (t + 1)) = ssum (ht n) ((sides T a).take t) + ht n d3 := fun n => by rw [take_snoc hd3, ssum_append, ssum, ssum]; grind
        have apn : ∀ n, ssum (hn n) ((sides T a).take (t + 1)) = ssum (hn n) ((sides T a).take t) + hn n d3 := fun n => by rw [take_snoc hd3, ssum_append, ssum, ssum]; grind
        have nsm : ∀ (c : Nat → Rat), (∀ i, 0 ≤ c i) → 0 ≤ sm (fun x => mu T s o i x * c x) (ks.take m) := fun c h => sm_nonneg fun x _ => mul_nn (mu_nn i x) (h x)
        have z1 : ∀ c : Nat → Rat, (∀ i, 0 ≤ c i) → (∀ i, c i ≤ 1) → (∀ i, ∃ z : Int, c i * 2 = (z : Rat)) → Zq 100 (mu T s o i a * c 0) := fun c c0 c1 c2 => by
          have := (mu_zq O (k := i) (by omega) (c := fun _ => c 0) (l := [a]) (by simp) (fun x hx => by rw [List.mem_singleton.mp hx]; exact hao) (fun _ => c0 0) (fun _ => c1 0) (fun _ => c2 0)).2.2.2
          simp only [sm] at this
          rwa [show mu T s o i a * c 0 + 0 = mu T s o i a * c 0 by grind] at this
        cases d3 with
        | tell n =>
          have n4 := O.ok.tl _ n (List.mem_of_getElem? hd3)
          have za := (mu_zq O (k := i) (by omega) (c := fun x => TM T x n) tk8 tko (fun x => TM_nn x n) (fun x => TM1 x n) (fun x => TM2 x n)).2.2.2
          have zb := z1 (fun _ => ssum (ht n) ((sides T a).take t)) (fun _ => ssum_nonneg fun _ _ => ht_nn) (fun _ => ht1' st2) (fun _ => ht2)
          have q1 := (tld_hv O n i (by omega)).nn
          have q2 := nsm (fun x => TM T x n) fun x => TM_nn x n
          have q3 : 0 ≤ mu T s o i a * ssum (ht n) ((sides T a).take t) := mul_nn (mu_nn i a) (ssum_nonneg fun _ _ => ht_nn)
          simp only [sD, s__law_share_1, wSs, wS, wT, wE, wEs, wO, wC, wI, wG, wGs, startD, List.map_cons, List.map_nil, List.length_cons, List.length_nil, List.replicate, List.cons_append, List.nil_append, List.append_nil, List.set_cons_zero, List.set_cons_succ, List.getElem?_cons_zero, List.getElem?_cons_succ, itT, wipeD, opAddI, opSubI, opMulI, opDivI, opModI, opPowI, opAddT, cmEq, cmNe, cmLt, cmLe, cmGt, cmGe, cmIn, eqI, eqS, inS2, truB, ixT0, ixT1, ixT2, ixT3, ixT4, ixT6, slcT, lenT, absI, intI, tupleT, listT, listRl, decide_true, decide_false, if_true, if_false, Bool.false_eq_true, reduceIte, decide_eq_true_eq, Bool.not_true, Bool.not_false, line, mI_int, mI_bool, mI_str, mI_tuple, mI_list, mB_int, mB_bool, mB_str, mB_tuple, mB_list, mS_int, mS_bool, mS_str, mS_tuple, mS_list, mT_int, mT_bool, mT_str, mT_tuple, mT_list, mN_int, mN_bool, mN_str, mN_tuple, mN_list, anyT, anyF, Nat.zero_add, Nat.reduceAdd, Nat.reduceLeDiff, true_and, ixEnF h33 hak, th]
          refine ltimes_rq (by omega) (zm.mono (by decide)) (zqh.mono (by decide)) ?_
          refine note_ok h43 F43 ((((tz n).add za).add zb).mono (by decide)) ((zm.mul zqh).mono (by decide)) (by omega) ?_
          have nz : tld T s o i n + sm (fun x => mu T s o i x * TM T x n) (ks.take m) + mu T s o i a * ssum (ht n) ((sides T a).take t) + mu T s o i a * (1 / 2) ≠ 0 := by grind
          refine hN3 _ _ ⟨_, k9, _, _, rfl, Sto.le_upd S4n hle3, by rw [Sto.upd_ne p34]; exact h33, Sto.upd_same, (F43.put nz (by omega)).eq fun j => ?_, by rw [Sto.upd_ne p94]; exact h93, F93.eq fun j => ?_⟩
          · show (if j = n then _ else _) = _
            rw [aph]
            unfold ht
            by_cases e : j = n
            · subst e; rw [if_pos rfl, if_pos rfl]; grind
            · have : ¬ (Sd.tell n = Sd.tell j) := fun z => e (by cases z; rfl)
              rw [if_neg e, if_neg this]; grind
          · rw [apn]
            have : hn j (.tell n) = 0 := if_neg (by simp)
            rw [this]; grind
        | node n =>
          have n5 := O.ok.nd _ n (List.mem_of_getElem? hd3)
          have za := (mu_zq O (k := i) (by omega) (c := fun x => PM T x n) tk8 tko (fun x => PM_nn x n) (fun x => PM1 x n) (fun x => PM2 x n)).2.2.2
          have zb := z1 (fun _ => ssum (hn n) ((sides T a).take t)) (fun _ => ssum_nonneg fun _ _ => hn_nn) (fun _ => hn1' st2) (fun _ => hn2)
          have q2 := nsm (fun x => PM T x n) fun x => PM_nn x n
          have q3 : 0 ≤ mu T s o i a * ssum (hn n) ((sides T a).take t) := mul_nn (mu_nn i a) (ssum_nonneg fun _ _ => hn_nn)
          have e3 : decide (("node" : Str) = ("tell" : Str)) = false := by decide
          simp only [sD, s__law_share_1, wSs, wS, wT, wE, wEs, wO, wC, wI, wG, wGs, startD, List.map_cons, List.map_nil, List.length_cons, List.length_nil, List.replicate, List.cons_append, List.nil_append, List.append_nil, List.set_cons_zero, List.set_cons_succ, List.getElem?_cons_zero, List.getElem?_cons_succ, itT, wipeD, opAddI, opSubI, opMulI, opDivI, opModI, opPowI, opAddT, cmEq, cmNe, cmLt, cmLe, cmGt, cmGe, cmIn, eqI, eqS, inS2, truB, ixT0, ixT1, ixT2, ixT3, ixT4, ixT6, slcT, lenT, absI, intI, tupleT, listT, listRl, decide_true, decide_false, if_true, if_false, Bool.false_eq_true, reduceIte, decide_eq_true_eq, Bool.not_true, Bool.not_false, line, mI_int, mI_bool, mI_str, mI_tuple, mI_list, mB_int, mB_bool, mB_str, mB_tuple, mB_list, mS_int, mS_bool, mS_str, mS_tuple, mS_list, mT_int, mT_bool, mT_str, mT_tuple, mT_list, mN_int, mN_bool, mN_str, mN_tuple, mN_list, anyT, anyF, Nat.zero_add, Nat.reduceAdd, Nat.reduceLeDiff, true_and, e3, ixEnF h33 hak, th]
          refine ltimes_rq (by omega) (zm.mono (by decide)) (zqh.mono (by decide)) ?_
          refine note_ok h93 F93 ((za.add zb).mono (by decide)) ((zm.mul zqh).mono (by decide)) (by omega) ?_
          have nz : sm (fun x => mu T s o i x * PM T x n) (ks.take m) + mu T s o i a * ssum (hn n) ((sides T a).take t) + mu T s o i a * (1 / 2) ≠ 0 := by grind
          refine hN3 _ _ ⟨k4, _, _, _, rfl, Sto.le_upd s9 hle3, by rw [Sto.upd_ne p93.symm]; exact h33, by rw [Sto.upd_ne p94.symm]; exact h43, F43.eq fun j => ?_, Sto.upd_same, (F93.put nz (by omega)).eq fun j => ?_⟩
          · rw [aph]
            have : ht j (.node n) = 0 := if_neg (by simp)
            rw [this]; grind
          · show (if j = n then _ else _) = _
            rw [apn]
            unfold hn
            by_cases e : j = n
            · subst e; rw [if_pos rfl, if_pos rfl]; grind
            · have : ¬ (Sd.node n = Sd.node j) := fun z => e (by cases z; rfl)
              rw [if_neg e, if_neg this]; grind
      · rintro σ S3 ⟨k4, k9, x10, x11, rfl, hle3, h33, h43, F43, h93, F93⟩
        rw [List.length_map, List.take_length] at F43 F93
        refine hN2 _ _ ⟨k4, k9, _, _, _, rfl, hle3, h33, h43, F43.eq fun n => ?_, h93, F93.eq fun n => ?_⟩
        · rw [take_snoc ha, sm_append, sm, sm]
          show _ + mu T s o i a * TM T a n = _
          grind
        · rw [take_snoc ha, sm_append, sm, sm]
          show _ + mu T s o i a * PM T a n = _
          grind
    · rintro σ S2 ⟨k4, k9, x8, x10, x11, rfl, hle2, h32, h42, F42, h92, F92⟩
      rw [nD_len, List.take_length] at F42 F92 ⊢
      simp only [wSs, wS, wT, wE, wEs, wO, wC, wI, wG, wGs, startD, List.map_cons, List.map_nil, List.length_cons, List.length_nil, List.replicate, List.cons_append, List.nil_append, List.append_nil, List.set_cons_zero, List.set_cons_succ, List.getElem?_cons_zero, List.getElem?_cons_succ, itT, wipeD, opAddI, opSubI, opMulI, opDivI, opModI, opPowI, opAddT, cmEq, cmNe, cmLt, cmLe, cmGt, cmGe, cmIn, eqI, eqS, inS2, truB, ixT0, ixT1, ixT2, ixT3, ixT4, ixT6, slcT, lenT, absI, intI, tupleT, listT, listRl, decide_true, decide_false, if_true, if_false, Bool.false_eq_true, reduceIte, decide_eq_true_eq, Bool.not_true, Bool.not_false, line, mI_int, mI_bool, mI_str, mI_tuple, mI_list, mB_int, mB_bool, mB_str, mB_tuple, mB_list, mS_int, mS_bool, mS_str, mS_tuple, mS_list, mT_int, mT_bool, mT_str, mT_tuple, mT_list, mN_int, mN_bool, mN_str, mN_tuple, mN_list, anyT, anyF, Nat.zero_add, Nat.reduceAdd, Nat.reduceLeDiff, true_and]
      have eu : usd T s o i + sm (mu T s o i) ks = usd T s o (i + 1) := by
        have := c0 (fun _ _ => 1) 0
        have g : ∀ l, sm (fun x => mu T s o i x * 1) l = sm (mu T s o i) l := fun l => sm_congr fun x _ => by grind
        rw [g, g] at this
        rw [this, usd]
      rw [eu]
      exact hN _ _ ⟨p9, k9, k4, _, _, _, _, _, _, rfl, hle2, s9, p94, h92, F92.eq fun j => by rw [c0 (fun x j => PM T x j), mu], h42, F42.eq fun n => by rw [c0 (fun x j => TM T x j), tld]⟩
  · rintro σ S1 ⟨p3, kvs3, kvs4, x6, x7, x8, x9, x10, x11, rfl, hle, s3, p34, h3, F3, h4, F4⟩
    have hl : (rngD 0 (12 : Int).toNat).length = 12 := rfl
    rw [hl] at F3 F4 ⊢
    obtain ⟨ks, k1, k2, k3, rfl⟩ := id F3
    have kso : ∀ x ∈ ks, x ∈ o := fun x hx => mu_sup O 12 x ((k2 x).mp hx)
    have ksl : ks.length ≤ 8 := nodup_le k1 k3
    simp only [wSs, wS, wT, wE, wEs, wO, wC, wI, wG, wGs, startD, List.map_cons, List.map_nil, List.length_cons, List.length_nil, List.replicate, List.cons_append, List.nil_append, List.append_nil, List.set_cons_zero, List.set_cons_succ, List.getElem?_cons_zero, List.getElem?_cons_succ, itT, wipeD, opAddI, opSubI, opMulI, opDivI, opModI, opPowI, opAddT, cmEq, cmNe, cmLt, cmLe, cmGt, cmGe, cmIn, eqI, eqS, inS2, truB, ixT0, ixT1, ixT2, ixT3, ixT4, ixT6, slcT, lenT, absI, intI, tupleT, listT, listRl, decide_true, decide_false, if_true, if_false, Bool.false_eq_true, reduceIte, decide_eq_true_eq, Bool.not_true, Bool.not_false, line, mI_int, mI_bool, mI_str, mI_tuple, mI_list, mB_int, mB_bool, mB_str, mB_tuple, mB_list, mS_int, mS_bool, mS_str, mS_tuple, mS_list, mT_int, mT_bool, mT_str, mT_tuple, mT_list, mN_int, mN_bool, mN_str, mN_tuple, mN_list, anyT, anyF, Nat.zero_add, Nat.reduceAdd, Nat.reduceLeDiff, true_and, t0]
    rw [itDc h3 en_keyW, en_keys]
    refine forL_inv (nD ks) (fun m σ S' => ∃ x8, σ = [some (tD T), some (.int (s : Int)), some (.int 12), some (.ref p3), some (.ref p4), some (rq (usd T s o 12)), x6, some (rq (sm (mu T s o 12) (ks.take m))), x8, x9, x10, x11] ∧ S' = S1.upd p3 (.fdc (en (fun j => rq (mu T s o 12 j)) ks))) (fun _ _ _ ⟨_, _, h⟩ => by rw [h]; exact Sto.upd_same) ?_ ?_ ⟨_, rfl, rfl⟩
    · rintro m d2 σ S2 NX2 hd2 ⟨x8, rfl, rfl⟩ hN2
      unfold nD at hd2
      rw [List.getElem?_map, Option.map_eq_some_iff] at hd2
      obtain ⟨a, ha, rfl⟩ := hd2
      have hak := List.mem_of_getElem? ha
      have hao := kso a hak
      have one : ∀ l : List Nat, sm (fun x => mu T s o 12 x * 1) l = sm (mu T s o 12) l := fun l => sm_congr fun x _ => by grind
      have zu : Zq 100 (sm (mu T s o 12) (ks.take m)) := by
        have := (mu_zq O (k := 12) (by omega) (c := fun _ => 1) (l := ks.take m) (by rw [List.length_take]; omega) (fun x hx => kso x (List.mem_of_mem_take hx)) (fun _ => by decide) (fun _ => Rat.le_refl) (fun _ => ⟨2, by decide +kernel⟩)).2.2.2
        rwa [one] at this
      have zm : Zq 100 (mu T s o 12 a) := by
        have := (mu_zq O (k := 12) (by omega) (c := fun _ => 1) (l := [a]) (by simp) (fun x hx => by rw [List.mem_singleton.mp hx]; exact hao) (fun _ => by decide) (fun _ => Rat.le_refl) (fun _ => ⟨2, by decide +kernel⟩)).2.2.2
        rw [one] at this
        simp only [sm] at this
        rwa [show mu T s o 12 a + 0 = mu T s o 12 a by grind] at this
      have h32 : (S1.upd p3 (.fdc (en (fun j => rq (mu T s o 12 j)) ks))) p3 = some (.fdc (en (fun j => rq (mu T s o 12 j)) ks)) := Sto.upd_same
      simp only [s__law_share_4, wSs, wS, wT, wE, wEs, wO, wC, wI, wG, wGs, startD, List.map_cons, List.map_nil, List.length_cons, List.length_nil, List.replicate, List.cons_append, List.nil_append, List.append_nil, List.set_cons_zero, List.set_cons_succ, List.getElem?_cons_zero, List.getElem?_cons_succ, itT, wipeD, opAddI, opSubI, opMulI, opDivI, opModI, opPowI, opAddT, cmEq, cmNe, cmLt, cmLe, cmGt, cmGe, cmIn, eqI, eqS, inS2, truB, ixT0, ixT1, ixT2, ixT3, ixT4, ixT6, slcT, lenT, absI, intI, tupleT, listT, listRl, decide_true, decide_false, if_true, if_false, Bool.false_eq_true, reduceIte, decide_eq_true_eq, Bool.not_true, Bool.not_false, line, mI_int, mI_bool, mI_str, mI_tuple, mI_list, mB_int, mB_bool, mB_str, mB_tuple, mB_list, mS_int, mS_bool, mS_str, mS_tuple, mS_list, mT_int, mT_bool, mT_str, mT_tuple, mT_list, mN_int, mN_bool, mN_str, mN_tuple, mN_list, anyT, anyF, Nat.zero_add, Nat.reduceAdd, Nat.reduceLeDiff, true_and, ixEnF h32 hak]
      refine lplus_rq (by omega) (zu.mono (by decide)) (zm.mono (by decide)) ?_
      have eu : sm (mu T s o 12) (ks.take m) + mu T s o 12 a = sm (mu T s o 12) (ks.take (m + 1)) := by
        rw [take_snoc ha, sm_append, sm, sm]; grind
      rw [eu]
      exact hN2 _ _ ⟨_, rfl, rfl⟩
    · rintro σ S2 ⟨x8, rfl, rfl⟩
      rw [nD_len, List.take_length]
      have es : sm (mu T s o 12) ks = sm (mu T s o 12) o := sm_ks k1 O.nd kso fun x _ hn => Decidable.byContradiction fun z => hn ((k2 x).mpr z)
      rw [es]
      simp only [wSs, wS, wT, wE, wEs, wO, wC, wI, wG, wGs, startD, List.map_cons, List.map_nil, List.length_cons, List.length_nil, List.replicate, List.cons_append, List.nil_append, List.append_nil, List.set_cons_zero, List.set_cons_succ, List.getElem?_cons_zero, List.getElem?_cons_succ, itT, wipeD, opAddI, opSubI, opMulI, opDivI, opModI, opPowI, opAddT, cmEq, cmNe, cmLt, cmLe, cmGt, cmGe, cmIn, eqI, eqS, inS2, truB, ixT0, ixT1, ixT2, ixT3, ixT4, ixT6, slcT, lenT, absI, intI, tupleT, listT, listRl, decide_true, decide_false, if_true, if_false, Bool.false_eq_true, reduceIte, decide_eq_true_eq, Bool.not_true, Bool.not_false, line, mI_int, mI_bool, mI_str, mI_tuple, mI_list, mB_int, mB_bool, mB_str, mB_tuple, mB_list, mS_int, mS_bool, mS_str, mS_tuple, mS_list, mT_int, mT_bool, mT_str, mT_tuple, mT_list, mN_int, mN_bool, mN_str, mN_tuple, mN_list, anyT, anyF, Nat.zero_add, Nat.reduceAdd, Nat.reduceLeDiff, true_and]
      refine ⟨S.upd p4 (.dct kvs4), fun a c e => ?_, hQ p4 kvs4 S4n F4⟩
      by_cases ha : a = p4
      · subst ha
        rw [Sto.upd_same] at e; cases e
        rw [Sto.upd_ne p34.symm]; exact h4
      · rw [Sto.upd_ne ha] at e
        exact Sto.le_upd s3 hle a c e
end K49
namespace K49
open PySem PySem.Spec PyProof.Rows L2 Mi
variable {k : Nat} {S : Sto} {Q : KD} {X : KX} {pp : Addr} {T : Tr} {s : Nat} {o : List Nat} {v : Nat → Rat} {a b : Rat}
theorem nrm_self : nrm a.num (a.den : Int) = rq a := by
  rw [nrm_mk a.den_nz, Rat.mkRat_self]
theorem rq_ok : ok 2 (rq a) = true := by
  refine ok_mk (by simp) fun d hd => ?_
  simp only [List.mem_cons, List.not_mem_nil, or_false] at hd
  rcases hd with rfl | rfl <;> exact ok_int
theorem nomore_ok (hk : 0 < k) (za : Zq 1500 a) (zb : Zq 1500 b) (h : a ≤ b) (hQ : Q (.bl true) S) : Γ k "_law_no_more" [rq a, rq b] S Q X := by
  cases k with
  | zero => omega
  | succ k =>
  refine gam (np := 2) (nn := 2) (b := b__law_no_more) rfl rfl ?_
  have e : decide (a.num * (b.den : Int) ≤ b.num * (a.den : Int)) = true := decide_eq_true ((Rat.le_iff a b).mp h)
  simp only [b__law_no_more, rq, fr, wSs, wS, wT, wE, wEs, wO, wC, wI, wG, wGs, startD, List.map_cons, List.map_nil, List.length_cons, List.length_nil, List.replicate, List.cons_append, List.nil_append, List.append_nil, List.set_cons_zero, List.set_cons_succ, List.getElem?_cons_zero, List.getElem?_cons_succ, itT, wipeD, opAddI, opSubI, opMulI, opDivI, opModI, opPowI, opAddT, cmEq, cmNe, cmLt, cmLe, cmGt, cmGe, cmIn, eqI, eqS, inS2, truB, ixT0, ixT1, ixT2, ixT3, ixT4, ixT6, slcT, lenT, absI, intI, tupleT, listT, listRl, decide_true, decide_false, if_true, if_false, Bool.false_eq_true, reduceIte, decide_eq_true_eq, Bool.not_true, Bool.not_false, line, mI_int, mI_bool, mI_str, mI_tuple, mI_list, mB_int, mB_bool, mB_str, mB_tuple, mB_list, mS_int, mS_bool, mS_str, mS_tuple, mS_list, mT_int, mT_bool, mT_str, mT_tuple, mT_list, mN_int, mN_bool, mN_str, mN_tuple, mN_list, anyT, anyF, Nat.zero_add, Nat.reduceAdd, Nat.reduceLeDiff, true_and, e]
  exact ⟨za.n.cm zb.d, zb.n.cm za.d, S, Sto.le_refl, hQ⟩
theorem eq_self2 {i j : Int} {QB : Bool → Prop} : eqR (.tup [.int i, .int j]) (.tup [.int i, .int j]) S QB = QB true := by
  have e1 : D.pure (.tup [.int i, .int j]) = true := by simp [D.pure, D.pures]
  have e2 : D.eqv (.tup [.int i, .int j]) (.tup [.int i, .int j]) = true := by simp [D.eqv, D.eqvs]
  have e3 : min (D.dep (.tup [.int i, .int j])) (D.dep (.tup [.int i, .int j])) ≤ 60 := by simp [D.dep, D.deps]
  simp only [eqR, plainR, e1, if_true, e2, e3, true_and]
  rfl
theorem isint_ok {i : Int} (hk : 0 < k) (hQ : Q (.bl true) S) : Γ k "_law_is_int" [.int i] S Q X := is_int_ok hk hQ
theorem sm_num4 {f : Nat → Rat} {ms : List Nat} (hn : ms.Nodup) (h : ∀ n, n ∈ ms ↔ f n ≠ 0) (h4 : ∀ n ∈ ms, n < 4) : sm f ms = sm f num4 :=
  sm_ks hn (by unfold num4; decide) (fun x hx => by have := h4 x hx; unfold num4; simp; omega) fun x _ hx => Decidable.byContradiction fun z => hx ((h x).mpr z)
theorem asBls_rep {c : Bool} : ∀ {L : List D}, asBls (L.filterMap fun _ => some (D.bl c)) = some (List.replicate L.length c)
  | [] => rfl
  | x :: L => by
    rw [List.filterMap_cons]
    simp only [asBls, asBls_rep]; rfl
theorem lawL_keys {f : Nat → Rat} : ∀ {l : List Nat}, (lawL f l).filterMap (fun d => match d with | .tup (x :: _) => some x | _ => none) = nD l
  | [] => rfl
  | a :: l => by
    show List.filterMap _ (D.tup [.int (a : Int), rq (f a)] :: lawL f l) = _
    rw [List.filterMap_cons]
    simp only
    rw [lawL_keys]; rfl
theorem islaw_ok (V : Vo T 0 o v) (ok : TrOk T) {ms : List Nat} (m1 : ms.Pairwise (· < ·)) (m2 : ∀ n, n ∈ ms ↔ LW T o v n ≠ 0) (hk : 8 < k) (hQ : Q (.bl true) S) : Γ k "_law_is_law" [tD T, .tup (lawL (LW T o v) ms)] S Q X := by
  cases k with
  | zero => omega
  | succ k =>
  refine gam (np := 2) (nn := 11) (b := b__law_is_law) rfl rfl ?_
  have O := V.ot ok ok.l0
  have olen := O.len
  have t1 : D.tup [.int 1, .int 1] = rq 1 := rq1.symm
  have t0 : D.tup [.int 0, .int 1] = rq 0 := rq0.symm
  have m4 : ∀ n ∈ ms, n < 4 := fun n hn => LW_lt4 O ((m2 n).mp hn)
  have mnd := asc_nodup m1
  have mlen : ms.length ≤ 4 := nodup_le mnd m4
  have tot : sm (LW T o v) ms = 1 := by rw [sm_num4 mnd m2 m4, LW_tot V ok ok.l0]
  have zL : ∀ n, Zq 300 (LW T o v n) := fun n => V.zq (by omega) (fun _ h => h) (fun i => TM_nn i n) (fun i => TM1 i n) fun i => TM2 i n
  have nnL : ∀ n, 0 ≤ LW T o v n := fun n => sm_nonneg fun i hi => mul_nn (V.vs.nn i hi) (TM_nn i n)
  have zl : Zq 100 (sm (mu T 0 o 12) o) := by
    have := (mu_zq O (k := 12) (by omega) (c := fun _ => 1) (l := o) (by omega) (fun _ h => h) (fun _ => by decide) (fun _ => Rat.le_refl) (fun _ => ⟨2, by decide +kernel⟩)).2.2.2
    have e : sm (fun x => mu T 0 o 12 x * 1) o = sm (mu T 0 o 12) o := sm_congr fun x _ => by grind
    rwa [e] at this
  simp only [b__law_is_law, wSs, wS, wT, wE, wEs, wO, wC, wI, wG, wGs, startD, List.map_cons, List.map_nil, List.length_cons, List.length_nil, List.replicate, List.cons_append, List.nil_append, List.append_nil, List.set_cons_zero, List.set_cons_succ, List.getElem?_cons_zero, List.getElem?_cons_succ, itT, wipeD, opAddI, opSubI, opMulI, opDivI, opModI, opPowI, opAddT, cmEq, cmNe, cmLt, cmLe, cmGt, cmGe, cmIn, eqI, eqS, inS2, truB, ixT0, ixT1, ixT2, ixT3, ixT4, ixT6, slcT, lenT, absI, intI, tupleT, listT, listRl, decide_true, decide_false, if_true, if_false, Bool.false_eq_true, reduceIte, decide_eq_true_eq, Bool.not_true, Bool.not_false, line, mI_int, mI_bool, mI_str, mI_tuple, mI_list, mB_int, mB_bool, mB_str, mB_tuple, mB_list, mS_int, mS_bool, mS_str, mS_tuple, mS_list, mT_int, mT_bool, mT_str, mT_tuple, mT_list, mN_int, mN_bool, mN_str, mN_tuple, mN_list, anyT, anyF, Nat.zero_add, Nat.reduceAdd, Nat.reduceLeDiff, true_and, t1, t0]
  refine share_ok O (by omega) fun p kvs hp F => ?_
  simp only [wSs, wS, wT, wE, wEs, wO, wC, wI, wG, wGs, startD, List.map_cons, List.map_nil, List.length_cons, List.length_nil, List.replicate, List.cons_append, List.nil_append, List.append_nil, List.set_cons_zero, List.set_cons_succ, List.getElem?_cons_zero, List.getElem?_cons_succ, itT, wipeD, opAddI, opSubI, opMulI, opDivI, opModI, opPowI, opAddT, cmEq, cmNe, cmLt, cmLe, cmGt, cmGe, cmIn, eqI, eqS, inS2, truB, ixT0, ixT1, ixT2, ixT3, ixT4, ixT6, slcT, lenT, absI, intI, tupleT, listT, listRl, decide_true, decide_false, if_true, if_false, Bool.false_eq_true, reduceIte, decide_eq_true_eq, Bool.not_true, Bool.not_false, line, mI_int, mI_bool, mI_str, mI_tuple, mI_list, mB_int, mB_bool, mB_str, mB_tuple, mB_list, mS_int, mS_bool, mS_str, mS_tuple, mS_list, mT_int, mT_bool, mT_str, mT_tuple, mT_list, mN_int, mN_bool, mN_str, mN_tuple, mN_list, anyT, anyF, Nat.zero_add, Nat.reduceAdd, Nat.reduceLeDiff, true_and]
  have hp1 : (S.upd p (.dct kvs)) p = some (.dct kvs) := Sto.upd_same
  have hle : S.le (S.upd p (.dct kvs)) := Sto.le_new hp
  generalize S.upd p (.dct kvs) = S1 at *
  have zs : ∀ i, i ≤ 4 → Zq (1 + 301 * i) (sm (LW T o v) (ms.take i)) := fun i => by
    induction i with
    | zero => intro _; rw [List.take_zero, sm]; exact zq0
    | succ i ih =>
      intro hi
      by_cases hl : i < ms.length
      · have e := List.getElem?_eq_getElem hl
        rw [take_snoc e, sm_append, sm, sm]
        have : sm (LW T o v) (ms.take i) + (LW T o v ms[i] + 0) = sm (LW T o v) (ms.take i) + LW T o v ms[i] := by grind
        rw [this]
        exact ((ih (by omega)).add (zL _)).mono (by omega)
      · rw [List.take_of_length_le (by omega)]
        have := ih (by omega)
        rw [List.take_of_length_le (by omega)] at this
        exact this.mono (by omega)
  refine forL_inv (lawL (LW T o v) ms) (fun i σ S' => ∃ x6 x7 x8 x9 x10, σ = [some (tD T), some (.tup (lawL (LW T o v) ms)), some (rq (sm (LW T o v) (ms.take i))), some (.ref p), some (rq (sm (mu T 0 o 12) o)), some (rq (usd T 0 o 12)), x6, x7, x8, x9, x10] ∧ S' = S1) (fun _ _ _ _ => trivial) ?_ ?_ ⟨_, _, _, _, _, rfl, rfl⟩
  · rintro i d σ S2 NX hd ⟨x6, x7, x8, x9, x10, rfl, rfl⟩ hN
    unfold lawL at hd
    rw [List.getElem?_map, Option.map_eq_some_iff] at hd
    obtain ⟨n, hn, rfl⟩ := hd
    have hnm := List.mem_of_getElem? hn
    have hi : i < ms.length := (List.getElem?_eq_some_iff.mp hn).1
    have n4 := m4 n hnm
    have Ln := (m2 n).mp hnm
    have Tn := (LW_tld V ok ok.l0 n).mp Ln
    have up := LW_up V ok ok.l0 12 n n4
    have zt := (tld_hv O n 12 (by decide)).zq (by decide)
    have pos : 0 < LW T o v n := by have := nnL n; grind
    have np := rpos pos
    have e0 : decide ((LW T o v n).num ≤ 0) = false := by simp; omega
    simp only [s__law_is_law_1, wSs, wS, wT, wE, wEs, wO, wC, wI, wG, wGs, startD, List.map_cons, List.map_nil, List.length_cons, List.length_nil, List.replicate, List.cons_append, List.nil_append, List.append_nil, List.set_cons_zero, List.set_cons_succ, List.getElem?_cons_zero, List.getElem?_cons_succ, itT, wipeD, opAddI, opSubI, opMulI, opDivI, opModI, opPowI, opAddT, cmEq, cmNe, cmLt, cmLe, cmGt, cmGe, cmIn, eqI, eqS, inS2, truB, ixT0, ixT1, ixT2, ixT3, ixT4, ixT6, slcT, lenT, absI, intI, tupleT, listT, listRl, decide_true, decide_false, if_true, if_false, Bool.false_eq_true, reduceIte, decide_eq_true_eq, Bool.not_true, Bool.not_false, line, mI_int, mI_bool, mI_str, mI_tuple, mI_list, mB_int, mB_bool, mB_str, mB_tuple, mB_list, mS_int, mS_bool, mS_str, mS_tuple, mS_list, mT_int, mT_bool, mT_str, mT_tuple, mT_list, mN_int, mN_bool, mN_str, mN_tuple, mN_list, anyT, anyF, Nat.zero_add, Nat.reduceAdd, Nat.reduceLeDiff, true_and]
    refine isint_ok (by omega) ?_
    simp only [opAddI, opSubI, opMulI, opDivI, opModI, opPowI, opAddT, cmEq, cmNe, cmLt, cmLe, cmGt, cmGe, cmIn, eqI, eqS, inS2, truB, ixT0, ixT1, ixT2, ixT3, ixT4, ixT6, slcT, lenT, absI, intI, tupleT, listT, listRl, decide_true, decide_false, if_true, if_false, Bool.false_eq_true, reduceIte, decide_eq_true_eq, Bool.not_true, Bool.not_false, line, mI_int, mI_bool, mI_str, mI_tuple, mI_list, mB_int, mB_bool, mB_str, mB_tuple, mB_list, mS_int, mS_bool, mS_str, mS_tuple, mS_list, mT_int, mT_bool, mT_str, mT_tuple, mT_list, mN_int, mN_bool, mN_str, mN_tuple, mN_list, anyT, anyF, Nat.zero_add, Nat.reduceAdd, Nat.reduceLeDiff, true_and, cmR, inDc hp1 F, Tn, ne_eq, not_false_eq_true]
    rw [show rq (LW T o v n) = .tup [.int (LW T o v n).num, .int ((LW T o v n).den : Int)] from rfl]
    simp only [wSs, wS, wT, wE, wEs, wO, wC, wI, wG, wGs, startD, List.map_cons, List.map_nil, List.length_cons, List.length_nil, List.replicate, List.cons_append, List.nil_append, List.append_nil, List.set_cons_zero, List.set_cons_succ, List.getElem?_cons_zero, List.getElem?_cons_succ, itT, wipeD, opAddI, opSubI, opMulI, opDivI, opModI, opPowI, opAddT, cmEq, cmNe, cmLt, cmLe, cmGt, cmGe, cmIn, eqI, eqS, inS2, truB, ixT0, ixT1, ixT2, ixT3, ixT4, ixT6, slcT, lenT, absI, intI, tupleT, listT, listRl, decide_true, decide_false, if_true, if_false, Bool.false_eq_true, reduceIte, decide_eq_true_eq, Bool.not_true, Bool.not_false, line, mI_int, mI_bool, mI_str, mI_tuple, mI_list, mB_int, mB_bool, mB_str, mB_tuple, mB_list, mS_int, mS_bool, mS_str, mS_tuple, mS_list, mT_int, mT_bool, mT_str, mT_tuple, mT_list, mN_int, mN_bool, mN_str, mN_tuple, mN_list, anyT, anyF, Nat.zero_add, Nat.reduceAdd, Nat.reduceLeDiff, true_and]
    refine lfrac (by omega) den_pos' (zL n).d (by decide) ?_
    rw [nrm_self]
    refine same_ok 2 _ (rq (LW T o v n)) _ _ _ (by omega) rq_ok ?_
    simp only [opAddI, opSubI, opMulI, opDivI, opModI, opPowI, opAddT, cmEq, cmNe, cmLt, cmLe, cmGt, cmGe, cmIn, eqI, eqS, inS2, truB, ixT0, ixT1, ixT2, ixT3, ixT4, ixT6, slcT, lenT, absI, intI, tupleT, listT, listRl, decide_true, decide_false, if_true, if_false, Bool.false_eq_true, reduceIte, decide_eq_true_eq, Bool.not_true, Bool.not_false, line, mI_int, mI_bool, mI_str, mI_tuple, mI_list, mB_int, mB_bool, mB_str, mB_tuple, mB_list, mS_int, mS_bool, mS_str, mS_tuple, mS_list, mT_int, mT_bool, mT_str, mT_tuple, mT_list, mN_int, mN_bool, mN_str, mN_tuple, mN_list, anyT, anyF, Nat.zero_add, Nat.reduceAdd, Nat.reduceLeDiff, true_and, e0, mtyGd hp1, t0, getFd hp1 F]
    rw [if_neg (show ¬ (LW T o v n).num ≤ 0 by omega)]
    refine nomore_ok (by omega) (zt.mono (by decide)) ((zL n).mono (by decide)) up.1 ?_
    simp only [opAddI, opSubI, opMulI, opDivI, opModI, opPowI, opAddT, cmEq, cmNe, cmLt, cmLe, cmGt, cmGe, cmIn, eqI, eqS, inS2, truB, ixT0, ixT1, ixT2, ixT3, ixT4, ixT6, slcT, lenT, absI, intI, tupleT, listT, listRl, decide_true, decide_false, if_true, if_false, Bool.false_eq_true, reduceIte, decide_eq_true_eq, Bool.not_true, Bool.not_false, line, mI_int, mI_bool, mI_str, mI_tuple, mI_list, mB_int, mB_bool, mB_str, mB_tuple, mB_list, mS_int, mS_bool, mS_str, mS_tuple, mS_list, mT_int, mT_bool, mT_str, mT_tuple, mT_list, mN_int, mN_bool, mN_str, mN_tuple, mN_list, anyT, anyF, Nat.zero_add, Nat.reduceAdd, Nat.reduceLeDiff, true_and]
    refine lplus_rq (by omega) (zt.mono (by decide)) (zl.mono (by decide)) ?_
    refine nomore_ok (a := LW T o v n) (by omega) ((zL n).mono (by decide)) ((zt.add zl).mono (by decide)) up.2 ?_
    simp only [opAddI, opSubI, opMulI, opDivI, opModI, opPowI, opAddT, cmEq, cmNe, cmLt, cmLe, cmGt, cmGe, cmIn, eqI, eqS, inS2, truB, ixT0, ixT1, ixT2, ixT3, ixT4, ixT6, slcT, lenT, absI, intI, tupleT, listT, listRl, decide_true, decide_false, if_true, if_false, Bool.false_eq_true, reduceIte, decide_eq_true_eq, Bool.not_true, Bool.not_false, line, mI_int, mI_bool, mI_str, mI_tuple, mI_list, mB_int, mB_bool, mB_str, mB_tuple, mB_list, mS_int, mS_bool, mS_str, mS_tuple, mS_list, mT_int, mT_bool, mT_str, mT_tuple, mT_list, mN_int, mN_bool, mN_str, mN_tuple, mN_list, anyT, anyF, Nat.zero_add, Nat.reduceAdd, Nat.reduceLeDiff, true_and]
    have zi : Zq 1500 (sm (LW T o v) (ms.take i)) := (zs i (by omega)).mono (by omega)
    refine lplus_rq (b := LW T o v n) (by omega) zi ((zL n).mono (by decide)) ?_
    have e9 : sm (LW T o v) (ms.take i) + LW T o v n = sm (LW T o v) (ms.take (i + 1)) := by
      rw [take_snoc hn, sm_append, sm, sm]; grind
    rw [e9]
    exact hN _ _ ⟨_, _, _, _, _, rfl, rfl⟩
  · rintro σ S2 ⟨x6, x7, x8, x9, x10, rfl, rfl⟩
    have ll : (lawL (LW T o v) ms).length = ms.length := by simp [lawL]
    rw [ll, List.take_length, tot]
    simp only [wSs, wS, wT, wE, wEs, wO, wC, wI, wG, wGs, startD, List.map_cons, List.map_nil, List.length_cons, List.length_nil, List.replicate, List.cons_append, List.nil_append, List.append_nil, List.set_cons_zero, List.set_cons_succ, List.getElem?_cons_zero, List.getElem?_cons_succ, itT, wipeD, opAddI, opSubI, opMulI, opDivI, opModI, opPowI, opAddT, cmEq, cmNe, cmLt, cmLe, cmGt, cmGe, cmIn, eqI, eqS, inS2, truB, ixT0, ixT1, ixT2, ixT3, ixT4, ixT6, slcT, lenT, absI, intI, tupleT, listT, listRl, decide_true, decide_false, if_true, if_false, Bool.false_eq_true, reduceIte, decide_eq_true_eq, Bool.not_true, Bool.not_false, line, mI_int, mI_bool, mI_str, mI_tuple, mI_list, mB_int, mB_bool, mB_str, mB_tuple, mB_list, mS_int, mS_bool, mS_str, mS_tuple, mS_list, mT_int, mT_bool, mT_str, mT_tuple, mT_list, mN_int, mN_bool, mN_str, mN_tuple, mN_list, anyT, anyF, Nat.zero_add, Nat.reduceAdd, Nat.reduceLeDiff, true_and, ll]
    refine ⟨by unfold inB; omega, by simp [rngD]; omega, ?_⟩
    have lget : ∀ i (h : i < ms.length), (lawL (LW T o v) ms)[i]? = some (.tup [.int (ms[i] : Int), rq (LW T o v ms[i])]) := fun i h => by
      unfold lawL
      rw [List.getElem?_map, List.getElem?_eq_getElem h]; rfl
    refine cmpL_pure (fun _ => some (.bl false)) trivial (fun d hd P hP => ?_) ?_
    · unfold rngD at hd
      obtain ⟨i, hi, rfl⟩ := List.mem_map.mp hd
      have hi : i + 1 < ms.length := by
        have := List.mem_range.mp hi
        omega
      have hlt := List.pairwise_iff_getElem.mp m1 i (i + 1) (by omega) hi (by omega)
      have e : decide ((ms[i + 1] : Int) ≤ (ms[i] : Int)) = false := by simp; omega
      simp only [e__law_is_law_2, wSs, wS, wT, wE, wEs, wO, wC, wI, wG, wGs, startD, List.map_cons, List.map_nil, List.length_cons, List.length_nil, List.replicate, List.cons_append, List.nil_append, List.append_nil, List.set_cons_zero, List.set_cons_succ, List.getElem?_cons_zero, List.getElem?_cons_succ, itT, wipeD, opAddI, opSubI, opMulI, opDivI, opModI, opPowI, opAddT, cmEq, cmNe, cmLt, cmLe, cmGt, cmGe, cmIn, eqI, eqS, inS2, truB, ixT0, ixT1, ixT2, ixT3, ixT4, ixT6, slcT, lenT, absI, intI, tupleT, listT, listRl, decide_true, decide_false, if_true, if_false, Bool.false_eq_true, reduceIte, decide_eq_true_eq, Bool.not_true, Bool.not_false, line, mI_int, mI_bool, mI_str, mI_tuple, mI_list, mB_int, mB_bool, mB_str, mB_tuple, mB_list, mS_int, mS_bool, mS_str, mS_tuple, mS_list, mT_int, mT_bool, mT_str, mT_tuple, mT_list, mN_int, mN_bool, mN_str, mN_tuple, mN_list, anyT, anyF, Nat.zero_add, Nat.reduceAdd, Nat.reduceLeDiff, true_and, Int.zero_add]
      rw [ixT (atIk i rfl (lget i (by omega)))]
      simp only [opAddI, opSubI, opMulI, opDivI, opModI, opPowI, opAddT, cmEq, cmNe, cmLt, cmLe, cmGt, cmGe, cmIn, eqI, eqS, inS2, truB, ixT0, ixT1, ixT2, ixT3, ixT4, ixT6, slcT, lenT, absI, intI, tupleT, listT, listRl, decide_true, decide_false, if_true, if_false, Bool.false_eq_true, reduceIte, decide_eq_true_eq, Bool.not_true, Bool.not_false, line, mI_int, mI_bool, mI_str, mI_tuple, mI_list, mB_int, mB_bool, mB_str, mB_tuple, mB_list, mS_int, mS_bool, mS_str, mS_tuple, mS_list, mT_int, mT_bool, mT_str, mT_tuple, mT_list, mN_int, mN_bool, mN_str, mN_tuple, mN_list, anyT, anyF, Nat.zero_add, Nat.reduceAdd, Nat.reduceLeDiff, true_and]
      rw [ixT (atIk (i + 1) (by omega) (lget (i + 1) hi))]
      simp only [opAddI, opSubI, opMulI, opDivI, opModI, opPowI, opAddT, cmEq, cmNe, cmLt, cmLe, cmGt, cmGe, cmIn, eqI, eqS, inS2, truB, ixT0, ixT1, ixT2, ixT3, ixT4, ixT6, slcT, lenT, absI, intI, tupleT, listT, listRl, decide_true, decide_false, if_true, if_false, Bool.false_eq_true, reduceIte, decide_eq_true_eq, Bool.not_true, Bool.not_false, line, mI_int, mI_bool, mI_str, mI_tuple, mI_list, mB_int, mB_bool, mB_str, mB_tuple, mB_list, mS_int, mS_bool, mS_str, mS_tuple, mS_list, mT_int, mT_bool, mT_str, mT_tuple, mT_list, mN_int, mN_bool, mN_str, mN_tuple, mN_list, anyT, anyF, Nat.zero_add, Nat.reduceAdd, Nat.reduceLeDiff, true_and, e]
      exact hP
    · simp only [bllR, asBls_rep, truB]
      have e2 : ∀ n, (List.replicate n false).any id = false := fun n => by simp
      rw [e2]
      simp only [opAddI, opSubI, opMulI, opDivI, opModI, opPowI, opAddT, cmEq, cmNe, cmLt, cmLe, cmGt, cmGe, cmIn, eqI, eqS, inS2, truB, ixT0, ixT1, ixT2, ixT3, ixT4, ixT6, slcT, lenT, absI, intI, tupleT, listT, listRl, decide_true, decide_false, if_true, if_false, Bool.false_eq_true, reduceIte, decide_eq_true_eq, Bool.not_true, Bool.not_false, line, mI_int, mI_bool, mI_str, mI_tuple, mI_list, mB_int, mB_bool, mB_str, mB_tuple, mB_list, mS_int, mS_bool, mS_str, mS_tuple, mS_list, mT_int, mT_bool, mT_str, mT_tuple, mT_list, mN_int, mN_bool, mN_str, mN_tuple, mN_list, anyT, anyF, Nat.zero_add, Nat.reduceAdd, Nat.reduceLeDiff, true_and]
      rw [show rq 1 = .tup [.int 1, .int 1] from rq1]
      simp only [eq_self2, opAddI, opSubI, opMulI, opDivI, opModI, opPowI, opAddT, cmEq, cmNe, cmLt, cmLe, cmGt, cmGe, cmIn, eqI, eqS, inS2, truB, ixT0, ixT1, ixT2, ixT3, ixT4, ixT6, slcT, lenT, absI, intI, tupleT, listT, listRl, decide_true, decide_false, if_true, if_false, Bool.false_eq_true, reduceIte, decide_eq_true_eq, Bool.not_true, Bool.not_false, line, mI_int, mI_bool, mI_str, mI_tuple, mI_list, mB_int, mB_bool, mB_str, mB_tuple, mB_list, mS_int, mS_bool, mS_str, mS_tuple, mS_list, mT_int, mT_bool, mT_str, mT_tuple, mT_list, mN_int, mN_bool, mN_str, mN_tuple, mN_list, anyT, anyF, Nat.zero_add, Nat.reduceAdd, Nat.reduceLeDiff, true_and]
      obtain ⟨ks, f1, f2, f3, rfl⟩ := id F
      rw [itDc hp1 en_keyW, en_keys]
      have ksl := nodup_le f1 f3
      refine ⟨by rw [nD_len]; omega, ?_⟩
      refine cmpL_inv (nD ks) (fun i acc S' => acc = List.replicate i (.bl true) ∧ S.le S' ∧ S' p = some (.fdc (en (fun j => rq (tld T 0 o 12 j)) ks))) (fun _ _ _ h => h.2.2) ?_ ?_ ⟨rfl, Sto.le_upd hp hle, Sto.upd_same⟩
      · rintro i d acc S3 P hd ⟨rfl, hle3, hp3⟩ hP
        unfold nD at hd
        rw [List.getElem?_map, Option.map_eq_some_iff] at hd
        obtain ⟨n, hn, rfl⟩ := hd
        have hnk := List.mem_of_getElem? hn
        have hnm : n ∈ ms := (m2 n).mpr ((LW_tld V ok ok.l0 n).mpr ((f2 n).mp hnk))
        simp only [e__law_is_law_4, wSs, wS, wT, wE, wEs, wO, wC, wI, wG, wGs, startD, List.map_cons, List.map_nil, List.length_cons, List.length_nil, List.replicate, List.cons_append, List.nil_append, List.append_nil, List.set_cons_zero, List.set_cons_succ, List.getElem?_cons_zero, List.getElem?_cons_succ, itT, wipeD, opAddI, opSubI, opMulI, opDivI, opModI, opPowI, opAddT, cmEq, cmNe, cmLt, cmLe, cmGt, cmGe, cmIn, eqI, eqS, inS2, truB, ixT0, ixT1, ixT2, ixT3, ixT4, ixT6, slcT, lenT, absI, intI, tupleT, listT, listRl, decide_true, decide_false, if_true, if_false, Bool.false_eq_true, reduceIte, decide_eq_true_eq, Bool.not_true, Bool.not_false, line, mI_int, mI_bool, mI_str, mI_tuple, mI_list, mB_int, mB_bool, mB_str, mB_tuple, mB_list, mS_int, mS_bool, mS_str, mS_tuple, mS_list, mT_int, mT_bool, mT_str, mT_tuple, mT_list, mN_int, mN_bool, mN_str, mN_tuple, mN_list, anyT, anyF, Nat.zero_add, Nat.reduceAdd, Nat.reduceLeDiff, true_and, ll]
        refine ⟨by omega, ?_⟩
        refine cmpL_pure (fun d => match d with | .tup (x :: _) => some x | _ => none) trivial (fun d hd P hP => ?_) ?_
        · obtain ⟨m, hm, rfl⟩ := List.mem_map.mp hd
          simp only [e__law_is_law_3, wSs, wS, wT, wE, wEs, wO, wC, wI, wG, wGs, startD, List.map_cons, List.map_nil, List.length_cons, List.length_nil, List.replicate, List.cons_append, List.nil_append, List.append_nil, List.set_cons_zero, List.set_cons_succ, List.getElem?_cons_zero, List.getElem?_cons_succ, itT, wipeD, opAddI, opSubI, opMulI, opDivI, opModI, opPowI, opAddT, cmEq, cmNe, cmLt, cmLe, cmGt, cmGe, cmIn, eqI, eqS, inS2, truB, ixT0, ixT1, ixT2, ixT3, ixT4, ixT6, slcT, lenT, absI, intI, tupleT, listT, listRl, decide_true, decide_false, if_true, if_false, Bool.false_eq_true, reduceIte, decide_eq_true_eq, Bool.not_true, Bool.not_false, line, mI_int, mI_bool, mI_str, mI_tuple, mI_list, mB_int, mB_bool, mB_str, mB_tuple, mB_list, mS_int, mS_bool, mS_str, mS_tuple, mS_list, mT_int, mT_bool, mT_str, mT_tuple, mT_list, mN_int, mN_bool, mN_str, mN_tuple, mN_list, anyT, anyF, Nat.zero_add, Nat.reduceAdd, Nat.reduceLeDiff, true_and] at hP ⊢
          exact hP
        · rw [lawL_keys]
          intro r hr
          have rp : p ≠ r := fun z => by subst z; rw [hr] at hp3; cases hp3
          simp only [cmR, inN Sto.upd_same, hnm, decide_true]
          exact hP _ _ ⟨by rw [List.replicate_succ'], Sto.le_new' hle3 hr, by rw [Sto.upd_ne rp]; exact hp3⟩
      · rintro ds S3 ⟨rfl, hle3, hp3⟩
        have e6 : ∀ n, asBls (List.replicate n (D.bl true)) = some (List.replicate n true) := fun n => by
          induction n with
          | zero => rfl
          | succ n ih => rw [List.replicate_succ]; simp only [asBls, ih]; rfl
        simp only [bllR, e6]
        have e7 : ∀ n, (List.replicate n true).all id = true := fun n => by simp
        rw [e7]
        exact ⟨S, hle3, hQ⟩
end K49
namespace K49
open PySem PySem.Spec PyProof.Rows L2 Mi
variable {k : Nat} {S : Sto} {Q : KD} {X : KX} {pp : Addr} {T : Tr} {s j : Nat}
def od (T : Tr) (j : Nat) : List Nat := ordr j (List.range T.length)
def rn (T : Tr) (j : Nat) : Sd → Sd
  | .tell n => .tell n
  | .node x => .node ((od T j).idxOf x)
def tat (T : Tr) (a : Nat) : Sd × Sd := (T[a]?).getD (.tell 0, .tell 0)
def turn (T : Tr) (j : Nat) : Tr := (od T j).map fun a => (rn T j (tat T a).1, rn T j (tat T a).2)
theorem od_nodup : (od T j).Nodup := ordr_nodup List.nodup_range
theorem od_mem (hj : j < T.length) {x : Nat} : x ∈ od T j ↔ x < T.length := (ordr_mem (List.mem_range.mpr hj)).trans List.mem_range
theorem od_len (hj : j < T.length) : (od T j).length = T.length := by
  have h1 : (od T j).length ≤ T.length := nodup_le od_nodup fun x hx => (od_mem hj).mp hx
  have h2 := (List.nodup_range (n := T.length)).length_le_of_subset (l₂ := od T j) fun x hx => (od_mem hj).mpr (List.mem_range.mp hx)
  rw [List.length_range] at h2
  omega
theorem turn_len (hj : j < T.length) : (turn T j).length = T.length := by unfold turn; rw [List.length_map, od_len hj]
theorem tat_sides {a : Nat} (h : a < T.length) : sides T a = [(tat T a).1, (tat T a).2] := by
  unfold sides tat
  rw [List.getElem?_eq_getElem h]
  rfl
theorem turn_sides {i a : Nat} (hj : j < T.length) (h : (od T j)[i]? = some a) : sides (turn T j) i = (sides T a).map (rn T j) := by
  have ha : a < T.length := (od_mem hj).mp (List.mem_of_getElem? h)
  rw [tat_sides ha]
  unfold sides turn
  rw [List.getElem?_map, h]
  rfl
theorem idx_get {x : Nat} (hj : j < T.length) (hx : x < T.length) : (od T j)[(od T j).idxOf x]? = some x ∧ (od T j).idxOf x < T.length := by
  have h := List.idxOf_lt_length_iff.mpr ((od_mem hj).mpr hx)
  refine ⟨by rw [List.getElem?_eq_getElem h, List.getElem_idxOf], ?_⟩
  rw [← od_len hj]; exact h
theorem turn_ok (ok : TrOk T) (hj : j < T.length) : TrOk (turn T j) where
  l0 := by rw [turn_len hj]; exact ok.l0
  l5 := by rw [turn_len hj]; exact ok.l5
  nd := fun i x hx => by
    rw [turn_len hj]
    by_cases hi : i < (od T j).length
    · have e := List.getElem?_eq_getElem hi
      rw [turn_sides hj e] at hx
      obtain ⟨d, hd, he⟩ := List.mem_map.mp hx
      cases d with
      | tell n => cases he
      | node y =>
        have he : Sd.node ((od T j).idxOf y) = Sd.node x := he
        cases he
        exact (idx_get hj (ok.nd _ y hd)).2
    · have : sides (turn T j) i = [] := by
        unfold sides
        rw [List.getElem?_eq_none (by rw [turn_len hj]; rw [od_len hj] at hi; omega)]
      rw [this] at hx; cases hx
  tl := fun i n hn => by
    by_cases hi : i < (od T j).length
    · have e := List.getElem?_eq_getElem hi
      rw [turn_sides hj e] at hn
      obtain ⟨d, hd, he⟩ := List.mem_map.mp hn
      cases d with
      | tell m =>
        have he : Sd.tell m = Sd.tell n := he
        cases he
        exact ok.tl _ n hd
      | node y => cases he
    · have : sides (turn T j) i = [] := by
        unfold sides
        rw [List.getElem?_eq_none (by rw [turn_len hj]; rw [od_len hj] at hi; omega)]
      rw [this] at hn; cases hn
theorem turn_reach (ok : TrOk T) (hj : j < T.length) {x : Nat} (h : Rc (turn T j) 0 x) : ∃ y, (od T j)[x]? = some y ∧ Rc T j y := by
  obtain ⟨k, r⟩ := h
  induction r with
  | base => exact ⟨j, rfl, .self⟩
  | @step k i x r q ih =>
    obtain ⟨y, hy, g⟩ := ih
    have q := mem_nodes.mp q
    rw [turn_sides hj hy] at q
    obtain ⟨d, hd, he⟩ := List.mem_map.mp q
    cases d with
    | tell n => cases he
    | node z =>
      have he : Sd.node ((od T j).idxOf z) = Sd.node x := he
      cases he
      have hz := ok.nd _ z hd
      exact ⟨z, (idx_get hj hz).1, g.next (mem_nodes.mpr hd)⟩
theorem turn_back (ok : TrOk T) (hj : j < T.length) {y z : Nat} (hy : y < T.length) (h : Rc T y z) : Rc (turn T j) ((od T j).idxOf y) ((od T j).idxOf z) := by
  obtain ⟨k, r⟩ := h
  induction r with
  | base => exact .self
  | @step k i x r q ih =>
    have hi : i < T.length := Rc.lt ok hy ⟨k, r⟩
    refine ih.next (mem_nodes.mpr ?_)
    rw [turn_sides hj (idx_get hj hi).1]
    exact List.mem_map.mpr ⟨_, mem_nodes.mp q, rfl⟩
theorem turn_tl (ok : TrOk T) (hj : j < T.length) {y : Nat} (hy : y < T.length) (h : Tl T y) : Tl (turn T j) ((od T j).idxOf y) := by
  obtain ⟨z, n, r, hn⟩ := h
  have hz := r.lt ok hy
  refine ⟨_, n, turn_back ok hj hy r, ?_⟩
  rw [turn_sides hj (idx_get hj hz).1]
  exact List.mem_map.mpr ⟨_, hn, rfl⟩
theorem idx_of {i y : Nat} (hj : j < T.length) (h : (od T j)[i]? = some y) : (od T j).idxOf y = i := by
  have hy := (od_mem hj).mp (List.mem_of_getElem? h)
  obtain ⟨g1, g2⟩ := idx_get hj hy
  refine Decidable.byContradiction fun hne => ?_
  by_cases hlt : (od T j).idxOf y < i
  · exact nodup_at od_nodup h (List.mem_iff_getElem?.mpr ⟨_, by rw [List.getElem?_take_of_lt hlt]; exact g1⟩)
  · exact nodup_at od_nodup g1 (List.mem_iff_getElem?.mpr ⟨i, by rw [List.getElem?_take_of_lt (by omega)]; exact h⟩)
theorem turn_all (ok : TrOk T) (hj : j < T.length) (hr : Rc T 0 j) (hT : ∀ b, Rc T 0 b → Tl T b) : ∀ b, Rc (turn T j) 0 b → Tl (turn T j) b := fun b hb => by
  obtain ⟨y, hy, g⟩ := turn_reach ok hj hb
  have hyl := (od_mem hj).mp (List.mem_of_getElem? hy)
  have := turn_tl ok hj hyl (hT y (hr.trans g))
  rwa [idx_of hj hy] at this
theorem turn_mean (ok : TrOk T) (hj : j < T.length) {o : List Nat} (O : Ot T 0 o) (hjo : j ∈ o) {g : Nat → Rat} (hg : ∀ i ∈ o, g i = 1 + sm (fun x => PM T i x * g x) o) {o' : List Nat} {v' : Nat → Rat} (V : Vo (turn T j) 0 o' v') : sm v' o' = g j := by
  have O' := V.ot (turn_ok ok hj) (by rw [turn_len hj]; exact ok.l0)
  let g' : Nat → Rat := fun i => g (((od T j)[i]?).getD 0)
  have vle : ∀ d, (∀ x, d = Sd.node x → x < T.length) → vl g' (rn T j d) = vl g d := fun d hd => by
    cases d with
    | tell n => rfl
    | node x =>
      show 1 / 2 * g (((od T j)[(od T j).idxOf x]?).getD 0) = 1 / 2 * g x
      rw [(idx_get hj (hd x rfl)).1]; rfl
  have hg' : ∀ i ∈ o', g' i = 1 + sm (fun x => PM (turn T j) i x * g' x) o' := fun i hi => by
    obtain ⟨y, hy, r⟩ := turn_reach ok hj ((O'.mem i).mp hi)
    have hyo : y ∈ o := (O.mem y).mpr (((O.mem j).mp hjo).trans r)
    have hyl := O.lt hyo
    rw [sm_PM O'.nd (O'.cl hi), turn_sides hj hy]
    have e1 : g' i = g y := by show g (((od T j)[i]?).getD 0) = g y; rw [hy]; rfl
    rw [e1, hg y hyo, sm_PM O.nd (O.cl hyo), tat_sides hyl]
    have m1 : (tat T y).1 ∈ sides T y := by rw [tat_sides hyl]; simp
    have m2 : (tat T y).2 ∈ sides T y := by rw [tat_sides hyl]; simp
    simp only [List.map_cons, List.map_nil, ssum]
    rw [vle _ fun x e => ok.nd y x (by rw [← e]; exact m1), vle _ fun x e => ok.nd y x (by rw [← e]; exact m2)]
  have d := dual (W := PM (turn T j)) (A := o') (v := v') (μ := fun j => if j = 0 then 1 else 0) (g := g') (r := fun _ => 1) V.vs.eq hg'
  rw [sm_one O'.nd O'.so] at d
  have e2 : sm (fun i => v' i * 1) o' = sm v' o' := sm_congr fun x _ => by grind
  rw [e2] at d
  exact d
theorem tD_map {f : Nat → Sd × Sd} {l : List Nat} : tD (l.map f) = .tup (l.map fun a => D.tup [sD (f a).1, sD (f a).2]) := by
  unfold tD
  rw [List.map_map]; rfl
theorem rngD_nD {n : Nat} : rngD 0 n = nD (List.range n) := by
  unfold rngD nD
  exact List.map_congr_left fun i _ => by rw [Int.zero_add]
theorem idxN {p : Addr} {l : List Nat} {x : Nat} (h : S p = some (.lst (nD l))) (hn : l.Nodup) {i : Nat} (hi : l[i]? = some x) (hQ : Q (.int (i : Int)) S) : mthR .index (.ref p) [.int (x : Int)] S Q := by
  simp only [mthR, h, nD_ints]
  refine ⟨i, by unfold nI; rw [List.getElem?_map, hi]; rfl, fun m hm z => ?_, hQ⟩
  unfold nI at z
  rw [List.getElem?_map, Option.map_eq_some_iff] at z
  obtain ⟨y, hy, e⟩ := z
  have : y = x := by omega
  subst this
  exact nodup_at hn hi (List.mem_iff_getElem?.mpr ⟨m, by rw [List.getElem?_take_of_lt hm]; exact hy⟩)
theorem turned_ok (ok : TrOk T) (hj : j < T.length) (hk : 0 < k) (hQ : Q (tD (turn T j)) S) : Γ k "_law_turned" [tD T, .int (j : Int)] S Q X := by
  cases k with
  | zero => omega
  | succ k =>
  refine gam (np := 2) (nn := 8) (b := b__law_turned) rfl rfl ?_
  have l5 := ok.l5
  have hl : ∀ (S' : Sto) (Q' : KD), bltR .len [tD T] S' Q' = Q' (.int (T.length : Int)) S' := fun S' Q' => by
    unfold tD
    rw [lenT, List.length_map]
  simp only [b__law_turned, wSs, wS, wT, wE, wEs, wO, wC, wI, wG, wGs, startD, List.map_cons, List.map_nil, List.length_cons, List.length_nil, List.replicate, List.cons_append, List.nil_append, List.append_nil, List.set_cons_zero, List.set_cons_succ, List.getElem?_cons_zero, List.getElem?_cons_succ, itT, wipeD, opAddI, opSubI, opMulI, opDivI, opModI, opPowI, opAddT, cmEq, cmNe, cmLt, cmLe, cmGt, cmGe, cmIn, eqI, eqS, inS2, truB, ixT0, ixT1, ixT2, ixT3, ixT4, ixT6, slcT, lenT, absI, intI, tupleT, listT, listRl, decide_true, decide_false, if_true, if_false, Bool.false_eq_true, reduceIte, decide_eq_true_eq, Bool.not_true, Bool.not_false, line, mI_int, mI_bool, mI_str, mI_tuple, mI_list, mB_int, mB_bool, mB_str, mB_tuple, mB_list, mS_int, mS_bool, mS_str, mS_tuple, mS_list, mT_int, mT_bool, mT_str, mT_tuple, mT_list, mN_int, mN_bool, mN_str, mN_tuple, mN_list, anyT, anyF, Nat.zero_add, Nat.reduceAdd, Nat.reduceLeDiff, true_and, hl]
  intro p1 hp1
  have h1a : (S.upd p1 (.lst [.int (j : Int)])) p1 = some (.lst (nD [j])) := Sto.upd_same
  have le1 : S.le (S.upd p1 (.lst [.int (j : Int)])) := Sto.le_new hp1
  generalize S.upd p1 (.lst [.int (j : Int)]) = S2 at *
  refine ⟨by unfold inB; omega, by simp [rngD]; omega, ?_⟩
  rw [Int.toNat_natCast, rngD_nD]
  refine cmpL_pure (outS j) trivial (fun d hd P hP => ?_) ?_
  · obtain ⟨a, ha, rfl⟩ := List.mem_map.mp hd
    simp only [wSs, wS, wT, wE, wEs, wO, wC, wI, wG, wGs, startD, List.map_cons, List.map_nil, List.length_cons, List.length_nil, List.replicate, List.cons_append, List.nil_append, List.append_nil, List.set_cons_zero, List.set_cons_succ, List.getElem?_cons_zero, List.getElem?_cons_succ, itT, wipeD, opAddI, opSubI, opMulI, opDivI, opModI, opPowI, opAddT, cmEq, cmNe, cmLt, cmLe, cmGt, cmGe, cmIn, eqI, eqS, inS2, truB, ixT0, ixT1, ixT2, ixT3, ixT4, ixT6, slcT, lenT, absI, intI, tupleT, listT, listRl, decide_true, decide_false, if_true, if_false, Bool.false_eq_true, reduceIte, decide_eq_true_eq, Bool.not_true, Bool.not_false, line, mI_int, mI_bool, mI_str, mI_tuple, mI_list, mB_int, mB_bool, mB_str, mB_tuple, mB_list, mS_int, mS_bool, mS_str, mS_tuple, mS_list, mT_int, mT_bool, mT_str, mT_tuple, mT_list, mN_int, mN_bool, mN_str, mN_tuple, mN_list, anyT, anyF, Nat.zero_add, Nat.reduceAdd, Nat.reduceLeDiff, true_and, e__law_turned_1]
    by_cases h : a = j
    · have : outS j (.int (a : Int)) = none := if_pos (by rw [h])
      rw [this] at hP
      have e : ((a : Int) = (j : Int)) := by omega
      simp only [e, opAddI, opSubI, opMulI, opDivI, opModI, opPowI, opAddT, cmEq, cmNe, cmLt, cmLe, cmGt, cmGe, cmIn, eqI, eqS, inS2, truB, ixT0, ixT1, ixT2, ixT3, ixT4, ixT6, slcT, lenT, absI, intI, tupleT, listT, listRl, decide_true, decide_false, if_true, if_false, Bool.false_eq_true, reduceIte, decide_eq_true_eq, Bool.not_true, Bool.not_false, line, mI_int, mI_bool, mI_str, mI_tuple, mI_list, mB_int, mB_bool, mB_str, mB_tuple, mB_list, mS_int, mS_bool, mS_str, mS_tuple, mS_list, mT_int, mT_bool, mT_str, mT_tuple, mT_list, mN_int, mN_bool, mN_str, mN_tuple, mN_list, anyT, anyF, Nat.zero_add, Nat.reduceAdd, Nat.reduceLeDiff, true_and, not_true]
      exact hP
    · have h1 : ¬ (D.int (a : Int) = D.int (j : Int)) := fun z => h (intE.mp z)
      have : outS j (.int (a : Int)) = some (.int (a : Int)) := if_neg h1
      rw [this] at hP
      have e : ¬ ((a : Int) = (j : Int)) := by omega
      simp only [e, opAddI, opSubI, opMulI, opDivI, opModI, opPowI, opAddT, cmEq, cmNe, cmLt, cmLe, cmGt, cmGe, cmIn, eqI, eqS, inS2, truB, ixT0, ixT1, ixT2, ixT3, ixT4, ixT6, slcT, lenT, absI, intI, tupleT, listT, listRl, decide_true, decide_false, if_true, if_false, Bool.false_eq_true, reduceIte, decide_eq_true_eq, Bool.not_true, Bool.not_false, line, mI_int, mI_bool, mI_str, mI_tuple, mI_list, mB_int, mB_bool, mB_str, mB_tuple, mB_list, mS_int, mS_bool, mS_str, mS_tuple, mS_list, mT_int, mT_bool, mT_str, mT_tuple, mT_list, mN_int, mN_bool, mN_str, mN_tuple, mN_list, anyT, anyF, Nat.zero_add, Nat.reduceAdd, Nat.reduceLeDiff, true_and, not_false_eq_true]
      exact hP
  rw [outS_nD]
  intro p2 hp2
  have p12 : p1 ≠ p2 := fun z => by subst z; rw [h1a] at hp2; cases hp2
  rw [opAddL (show (S2.upd p2 (.lst (nD ((List.range T.length).filter fun x => decide (x ≠ j))))) p1 = some (.lst (nD [j])) by rw [Sto.upd_ne p12]; exact h1a) Sto.upd_same, nD_append]
  have eo : [j] ++ (List.range T.length).filter (fun x => decide (x ≠ j)) = od T j := rfl
  rw [eo]
  refine ⟨by
    rw [nD_len, nD_len, line]
    have := List.length_filter_le (fun x => decide (x ≠ j)) (List.range T.length)
    rw [List.length_range] at this
    simp only [List.length_cons, List.length_nil]
    omega, fun po hpo => ?_⟩
  intro p3 hp3
  have p3o : p3 ≠ po := fun z => by subst z; rw [Sto.upd_same] at hp3; cases hp3
  have le2 : S.le (((S2.upd p2 (.lst (nD ((List.range T.length).filter fun x => decide (x ≠ j))))).upd po (.lst (nD (od T j)))).upd p3 (.lst [])) := Sto.le_new' (Sto.le_new' (Sto.le_new' le1 hp2) hpo) hp3
  have Sp3 := le_none (Sto.le_new' (Sto.le_new' le1 hp2) hpo) hp3
  have hPo : (((S2.upd p2 (.lst (nD ((List.range T.length).filter fun x => decide (x ≠ j))))).upd po (.lst (nD (od T j)))).upd p3 (.lst [])) po = some (.lst (nD (od T j))) := by rw [Sto.upd_ne p3o.symm, Sto.upd_same]
  have hP3 : (((S2.upd p2 (.lst (nD ((List.range T.length).filter fun x => decide (x ≠ j))))).upd po (.lst (nD (od T j)))).upd p3 (.lst [])) p3 = some (.lst []) := Sto.upd_same
  generalize ((S2.upd p2 (.lst (nD ((List.range T.length).filter fun x => decide (x ≠ j))))).upd po (.lst (nD (od T j)))).upd p3 (.lst []) = S3 at *
  rw [itL hPo]
  let row : Nat → D := fun a => D.tup [sD (rn T j (tat T a).1), sD (rn T j (tat T a).2)]
  refine forL_inv (nD (od T j)) (fun i σ S' => ∃ x4 x5 x6 x7, σ = [some (tD T), some (.int (j : Int)), some (.ref po), some (.ref p3), x4, x5, x6, x7] ∧ S.le S' ∧ S' po = some (.lst (nD (od T j))) ∧ S' p3 = some (.lst (((od T j).take i).map row))) (fun _ _ _ ⟨_, _, _, _, _, _, h, _⟩ => h) ?_ ?_
    ⟨_, _, _, _, rfl, le2, hPo, hP3⟩
  · rintro i d σ S4 NX hd ⟨x4, x5, x6, x7, rfl, hle, ho4, h34⟩ hN
    unfold nD at hd
    rw [List.getElem?_map, Option.map_eq_some_iff] at hd
    obtain ⟨a, ha, rfl⟩ := hd
    have hal := (od_mem hj).mp (List.mem_of_getElem? ha)
    simp only [s__law_turned_3, wSs, wS, wT, wE, wEs, wO, wC, wI, wG, wGs, startD, List.map_cons, List.map_nil, List.length_cons, List.length_nil, List.replicate, List.cons_append, List.nil_append, List.append_nil, List.set_cons_zero, List.set_cons_succ, List.getElem?_cons_zero, List.getElem?_cons_succ, itT, wipeD, opAddI, opSubI, opMulI, opDivI, opModI, opPowI, opAddT, cmEq, cmNe, cmLt, cmLe, cmGt, cmGe, cmIn, eqI, eqS, inS2, truB, ixT0, ixT1, ixT2, ixT3, ixT4, ixT6, slcT, lenT, absI, intI, tupleT, listT, listRl, decide_true, decide_false, if_true, if_false, Bool.false_eq_true, reduceIte, decide_eq_true_eq, Bool.not_true, Bool.not_false, line, mI_int, mI_bool, mI_str, mI_tuple, mI_list, mB_int, mB_bool, mB_str, mB_tuple, mB_list, mS_int, mS_bool, mS_str, mS_tuple, mS_list, mT_int, mT_bool, mT_str, mT_tuple, mT_list, mN_int, mN_bool, mN_str, mN_tuple, mN_list, anyT, anyF, Nat.zero_add, Nat.reduceAdd, Nat.reduceLeDiff, true_and]
    intro p5 hp5
    have p5o : p5 ≠ po := fun z => by subst z; rw [ho4] at hp5; cases hp5
    have p53 : p5 ≠ p3 := fun z => by subst z; rw [h34] at hp5; cases hp5
    have Sp5 := le_none hle hp5
    rw [ix_tree hal]
    simp only [itT]
    refine forL_inv ((sides T a).map sD) (fun t σ S' => ∃ x6 x7, σ = [some (tD T), some (.int (j : Int)), some (.ref po), some (.ref p3), some (.int (a : Int)), some (.ref p5), x6, x7] ∧ S.le S' ∧ S' po = some (.lst (nD (od T j))) ∧ S' p3 = some (.lst (((od T j).take i).map row)) ∧ S' p5 = some (.lst (((sides T a).take t).map fun d => sD (rn T j d)))) (fun _ _ _ _ => trivial) ?_ ?_
      ⟨_, _, rfl, Sto.le_new' hle hp5, by rw [Sto.upd_ne p5o.symm]; exact ho4, by rw [Sto.upd_ne p53.symm]; exact h34, Sto.upd_same⟩
    · rintro t d σ S5 NX5 hd5 ⟨x6, x7, rfl, hle5, ho5, h35, h55⟩ hN5
      rw [List.getElem?_map, Option.map_eq_some_iff] at hd5
      obtain ⟨d, hd5, rfl⟩ := hd5
      have st2 : (((sides T a).take t).map fun d => sD (rn T j d)).length ≤ 2 := by
        have : (sides T a).length ≤ 2 := sides_len
        rw [List.length_map, List.length_take]; omega
      have snoc : ∀ x : D, x = sD (rn T j d) → (((sides T a).take t).map fun d => sD (rn T j d)) ++ [x] = ((sides T a).take (t + 1)).map fun d => sD (rn T j d) := fun x e => by
        rw [take_snoc hd5, List.map_append, e]; rfl
      generalize (((sides T a).take t).map fun d => sD (rn T j d)) = L at *
      cases d with
      | tell n =>
        have e3 : decide (("tell" : Str) = ("node" : Str)) = false := by decide
        simp only [sD, s__law_turned_2, wSs, wS, wT, wE, wEs, wO, wC, wI, wG, wGs, startD, List.map_cons, List.map_nil, List.length_cons, List.length_nil, List.replicate, List.cons_append, List.nil_append, List.append_nil, List.set_cons_zero, List.set_cons_succ, List.getElem?_cons_zero, List.getElem?_cons_succ, itT, wipeD, opAddI, opSubI, opMulI, opDivI, opModI, opPowI, opAddT, cmEq, cmNe, cmLt, cmLe, cmGt, cmGe, cmIn, eqI, eqS, inS2, truB, ixT0, ixT1, ixT2, ixT3, ixT4, ixT6, slcT, lenT, absI, intI, tupleT, listT, listRl, decide_true, decide_false, if_true, if_false, Bool.false_eq_true, reduceIte, decide_eq_true_eq, Bool.not_true, Bool.not_false, line, mI_int, mI_bool, mI_str, mI_tuple, mI_list, mB_int, mB_bool, mB_str, mB_tuple, mB_list, mS_int, mS_bool, mS_str, mS_tuple, mS_list, mT_int, mT_bool, mT_str, mT_tuple, mT_list, mN_int, mN_bool, mN_str, mN_tuple, mN_list, anyT, anyF, Nat.zero_add, Nat.reduceAdd, Nat.reduceLeDiff, true_and, e3, mtyA h55, appL h55]
        refine ⟨by omega, hN5 _ _ ⟨_, _, rfl, Sto.le_upd Sp5 hle5, by rw [Sto.upd_ne p5o.symm]; exact ho5, by rw [Sto.upd_ne p53.symm]; exact h35, ?_⟩⟩
        rw [Sto.upd_same, snoc (.tup [.str "tell", .int (n : Int)]) rfl]
      | node x =>
        have hx := ok.nd _ x (List.mem_of_getElem? hd5)
        have mi : mtyR .index (.ref po) S5 = true := by simp only [mtyR, ho5]
        simp only [sD, s__law_turned_2, wSs, wS, wT, wE, wEs, wO, wC, wI, wG, wGs, startD, List.map_cons, List.map_nil, List.length_cons, List.length_nil, List.replicate, List.cons_append, List.nil_append, List.append_nil, List.set_cons_zero, List.set_cons_succ, List.getElem?_cons_zero, List.getElem?_cons_succ, itT, wipeD, opAddI, opSubI, opMulI, opDivI, opModI, opPowI, opAddT, cmEq, cmNe, cmLt, cmLe, cmGt, cmGe, cmIn, eqI, eqS, inS2, truB, ixT0, ixT1, ixT2, ixT3, ixT4, ixT6, slcT, lenT, absI, intI, tupleT, listT, listRl, decide_true, decide_false, if_true, if_false, Bool.false_eq_true, reduceIte, decide_eq_true_eq, Bool.not_true, Bool.not_false, line, mI_int, mI_bool, mI_str, mI_tuple, mI_list, mB_int, mB_bool, mB_str, mB_tuple, mB_list, mS_int, mS_bool, mS_str, mS_tuple, mS_list, mT_int, mT_bool, mT_str, mT_tuple, mT_list, mN_int, mN_bool, mN_str, mN_tuple, mN_list, anyT, anyF, Nat.zero_add, Nat.reduceAdd, Nat.reduceLeDiff, true_and, mi]
        refine idxN ho5 od_nodup (idx_get hj hx).1 ?_
        simp only [opAddI, opSubI, opMulI, opDivI, opModI, opPowI, opAddT, cmEq, cmNe, cmLt, cmLe, cmGt, cmGe, cmIn, eqI, eqS, inS2, truB, ixT0, ixT1, ixT2, ixT3, ixT4, ixT6, slcT, lenT, absI, intI, tupleT, listT, listRl, decide_true, decide_false, if_true, if_false, Bool.false_eq_true, reduceIte, decide_eq_true_eq, Bool.not_true, Bool.not_false, line, mI_int, mI_bool, mI_str, mI_tuple, mI_list, mB_int, mB_bool, mB_str, mB_tuple, mB_list, mS_int, mS_bool, mS_str, mS_tuple, mS_list, mT_int, mT_bool, mT_str, mT_tuple, mT_list, mN_int, mN_bool, mN_str, mN_tuple, mN_list, anyT, anyF, Nat.zero_add, Nat.reduceAdd, Nat.reduceLeDiff, true_and, mtyA h55, appL h55]
        refine ⟨by omega, hN5 _ _ ⟨_, _, rfl, Sto.le_upd Sp5 hle5, by rw [Sto.upd_ne p5o.symm]; exact ho5, by rw [Sto.upd_ne p53.symm]; exact h35, ?_⟩⟩
        rw [Sto.upd_same, snoc (.tup [.str "node", .int (((od T j).idxOf x : Nat) : Int)]) rfl]
    · rintro σ S5 ⟨x6, x7, rfl, hle5, ho5, h35, h55⟩
      rw [List.length_map, List.take_length] at h55
      have tl : (((od T j).take i).map row).length ≤ 5 := by
        have := od_len hj
        rw [List.length_map, List.length_take]; omega
      simp only [wSs, wS, wT, wE, wEs, wO, wC, wI, wG, wGs, startD, List.map_cons, List.map_nil, List.length_cons, List.length_nil, List.replicate, List.cons_append, List.nil_append, List.append_nil, List.set_cons_zero, List.set_cons_succ, List.getElem?_cons_zero, List.getElem?_cons_succ, itT, wipeD, opAddI, opSubI, opMulI, opDivI, opModI, opPowI, opAddT, cmEq, cmNe, cmLt, cmLe, cmGt, cmGe, cmIn, eqI, eqS, inS2, truB, ixT0, ixT1, ixT2, ixT3, ixT4, ixT6, slcT, lenT, absI, intI, tupleT, listT, listRl, decide_true, decide_false, if_true, if_false, Bool.false_eq_true, reduceIte, decide_eq_true_eq, Bool.not_true, Bool.not_false, line, mI_int, mI_bool, mI_str, mI_tuple, mI_list, mB_int, mB_bool, mB_str, mB_tuple, mB_list, mS_int, mS_bool, mS_str, mS_tuple, mS_list, mT_int, mT_bool, mT_str, mT_tuple, mT_list, mN_int, mN_bool, mN_str, mN_tuple, mN_list, anyT, anyF, Nat.zero_add, Nat.reduceAdd, Nat.reduceLeDiff, true_and, mtyA h35, tupleL h55, appL h35]
      refine ⟨by omega, hN _ _ ⟨_, _, _, _, rfl, Sto.le_upd Sp3 hle5, by rw [Sto.upd_ne p3o.symm]; exact ho5, ?_⟩⟩
      rw [Sto.upd_same, take_snoc ha, List.map_append, tat_sides hal]
      rfl
  · rintro σ S4 ⟨x4, x5, x6, x7, rfl, hle, ho4, h34⟩
    rw [nD_len, List.take_length] at h34
    simp only [wSs, wS, wT, wE, wEs, wO, wC, wI, wG, wGs, startD, List.map_cons, List.map_nil, List.length_cons, List.length_nil, List.replicate, List.cons_append, List.nil_append, List.append_nil, List.set_cons_zero, List.set_cons_succ, List.getElem?_cons_zero, List.getElem?_cons_succ, itT, wipeD, opAddI, opSubI, opMulI, opDivI, opModI, opPowI, opAddT, cmEq, cmNe, cmLt, cmLe, cmGt, cmGe, cmIn, eqI, eqS, inS2, truB, ixT0, ixT1, ixT2, ixT3, ixT4, ixT6, slcT, lenT, absI, intI, tupleT, listT, listRl, decide_true, decide_false, if_true, if_false, Bool.false_eq_true, reduceIte, decide_eq_true_eq, Bool.not_true, Bool.not_false, line, mI_int, mI_bool, mI_str, mI_tuple, mI_list, mB_int, mB_bool, mB_str, mB_tuple, mB_list, mS_int, mS_bool, mS_str, mS_tuple, mS_list, mT_int, mT_bool, mT_str, mT_tuple, mT_list, mN_int, mN_bool, mN_str, mN_tuple, mN_list, anyT, anyF, Nat.zero_add, Nat.reduceAdd, Nat.reduceLeDiff, true_and, tupleL h34]
    refine ⟨S, hle, ?_⟩
    have e : tD (turn T j) = .tup ((od T j).map row) := tD_map (f := fun a => (rn T j (tat T a).1, rn T j (tat T a).2))
    rw [← e]
    exact hQ
end K49
namespace K49
open PySem PySem.Spec PyProof.Rows L2 Mi
variable {k : Nat} {S : Sto} {Q : KD} {X : KX} {pp : Addr} {T : Tr} {s j : Nat}
theorem end_ex {M : List Nat} (hM : M.Nodup) : ∃ E, EndOk T M E := by
  have key : ∀ (n : Nat) (E : List Nat), EndP T M E → M.length - E.length ≤ n → ∃ E, EndOk T M E := by
    intro n
    induction n with
    | zero =>
      intro E h hn
      have h2 := h.more hM
      have l2 : (E ++ M.filter (grow T E)).length ≤ M.length := h2.nd.length_le_of_subset fun x hx => h2.sub x hx
      rw [List.length_append] at l2
      exact ⟨E, h.done (List.length_eq_zero_iff.mp (by omega))⟩
    | succ n ih =>
      intro E h hn
      by_cases e : M.filter (grow T E) = []
      · exact ⟨E, h.done e⟩
      · refine ih _ (h.more hM) ?_
        rw [List.length_append]
        have : 0 < (M.filter (grow T E)).length := List.length_pos_iff.mpr e
        omega
  exact key M.length [] ⟨by simp, by simp, fun k x h => by simp at h⟩ (by simp)
theorem worth_ex {o : List Nat} (O : Ot T s o) (hT : ∀ b, Rc T s b → Tl T b) : ∃ g : Nat → Rat, ∀ i ∈ o, g i = 1 + sm (fun x => PM T i x * g x) o := by
  obtain ⟨E, hE⟩ := end_ex (T := T) O.nd
  have cl : ∀ x ∈ o, ∀ j ∈ succs T x, j ∈ o := fun x hx => O.cl hx
  have all : ∀ x ∈ o, x ∈ E := fun x hx => (hE.iff cl hx).mpr (hT x ((O.mem x).mp hx))
  have wk := wk_of hE O.ok (fun x hx => O.lt hx) cl all O.nd fun _ => Iff.rfl
  exact worths o.length o (PM T) 1 rfl O.nd wk fun _ => 1
theorem ix_tree0 (ok : TrOk T) : ixR (tD T) (.int 0) S Q = Q (.tup ((sides T 0).map sD)) S := ix_tree (i := 0) ok.l0
theorem Vo.zm {o : List Nat} {v : Nat → Rat} (V : Vo T s o v) (ok : TrOk T) (s0 : s < T.length) : Zq 300 (sm v o) := by
  have O := V.ot ok s0
  have olen := O.len
  have := V.zq (c := fun _ => 1) (l := o) (by omega) (fun _ h => h) (fun _ => by decide) (fun _ => Rat.le_refl) fun _ => ⟨2, by decide +kernel⟩
  have e : sm (fun i => v i * 1) o = sm v o := sm_congr fun x _ => by grind
  rwa [e] at this
theorem mean_fits_ok (ok : TrOk T) (hk : 12 < k) (hT : ∀ b, Rc T 0 b → Tl T b) (hQ : Q (.bl true) S) : Γ k "_law_mean_fits" [tD T] S Q X := by
  cases k with
  | zero => omega
  | succ k =>
  refine gam (np := 1) (nn := 8) (b := b__law_mean_fits) rfl rfl ?_
  have t1 : D.tup [.int 1, .int 1] = rq 1 := rq1.symm
  have th : D.tup [.int 1, .int 2] = rq (1 / 2) := rqh.symm
  simp only [b__law_mean_fits, wSs, wS, wT, wE, wEs, wO, wC, wI, wG, wGs, startD, List.map_cons, List.map_nil, List.length_cons, List.length_nil, List.replicate, List.cons_append, List.nil_append, List.append_nil, List.set_cons_zero, List.set_cons_succ, List.getElem?_cons_zero, List.getElem?_cons_succ, itT, wipeD, opAddI, opSubI, opMulI, opDivI, opModI, opPowI, opAddT, cmEq, cmNe, cmLt, cmLe, cmGt, cmGe, cmIn, eqI, eqS, inS2, truB, ixT0, ixT1, ixT2, ixT3, ixT4, ixT6, slcT, lenT, absI, intI, tupleT, listT, listRl, decide_true, decide_false, if_true, if_false, Bool.false_eq_true, reduceIte, decide_eq_true_eq, Bool.not_true, Bool.not_false, line, mI_int, mI_bool, mI_str, mI_tuple, mI_list, mB_int, mB_bool, mB_str, mB_tuple, mB_list, mS_int, mS_bool, mS_str, mS_tuple, mS_list, mT_int, mT_bool, mT_str, mT_tuple, mT_list, mN_int, mN_bool, mN_str, mN_tuple, mN_list, anyT, anyF, Nat.zero_add, Nat.reduceAdd, Nat.reduceLeDiff, true_and, t1]
  refine tree_mean_ok ok (by omega) hT fun o v V => ?_
  have O := V.ot ok ok.l0
  have olen := O.len
  have zm := V.zm ok ok.l0
  obtain ⟨g, hg⟩ := worth_ex O hT
  have e0 : sm v o = g 0 := by
    have d := dual (W := PM T) (A := o) (v := v) (μ := fun j => if j = 0 then 1 else 0) (g := g) (r := fun _ => 1) V.vs.eq hg
    rw [sm_one O.nd O.so] at d
    have e2 : sm (fun i => v i * 1) o = sm v o := sm_congr fun x _ => by grind
    rw [e2] at d
    exact d
  have zu := (usd_hv O 12 (by decide)).zq (by decide)
  refine share_ok O (by omega) fun p kvs hp F => ?_
  have hle : S.le (S.upd p (.dct kvs)) := Sto.le_new hp
  generalize S.upd p (.dct kvs) = S1 at *
  generalize hm0 : sm v o = m0 at *
  rw [show rq m0 = .tup [.int m0.num, .int (m0.den : Int)] from rfl]
  simp only [wSs, wS, wT, wE, wEs, wO, wC, wI, wG, wGs, startD, List.map_cons, List.map_nil, List.length_cons, List.length_nil, List.replicate, List.cons_append, List.nil_append, List.append_nil, List.set_cons_zero, List.set_cons_succ, List.getElem?_cons_zero, List.getElem?_cons_succ, itT, wipeD, opAddI, opSubI, opMulI, opDivI, opModI, opPowI, opAddT, cmEq, cmNe, cmLt, cmLe, cmGt, cmGe, cmIn, eqI, eqS, inS2, truB, ixT0, ixT1, ixT2, ixT3, ixT4, ixT6, slcT, lenT, absI, intI, tupleT, listT, listRl, decide_true, decide_false, if_true, if_false, Bool.false_eq_true, reduceIte, decide_eq_true_eq, Bool.not_true, Bool.not_false, line, mI_int, mI_bool, mI_str, mI_tuple, mI_list, mB_int, mB_bool, mB_str, mB_tuple, mB_list, mS_int, mS_bool, mS_str, mS_tuple, mS_list, mT_int, mT_bool, mT_str, mT_tuple, mT_list, mN_int, mN_bool, mN_str, mN_tuple, mN_list, anyT, anyF, Nat.zero_add, Nat.reduceAdd, Nat.reduceLeDiff, true_and]
  refine lfrac (by omega) den_pos' zm.d (by decide) ?_
  rw [nrm_self]
  refine same_ok 2 _ (rq m0) _ _ _ (by omega) rq_ok ?_
  simp only [opAddI, opSubI, opMulI, opDivI, opModI, opPowI, opAddT, cmEq, cmNe, cmLt, cmLe, cmGt, cmGe, cmIn, eqI, eqS, inS2, truB, ixT0, ixT1, ixT2, ixT3, ixT4, ixT6, slcT, lenT, absI, intI, tupleT, listT, listRl, decide_true, decide_false, if_true, if_false, Bool.false_eq_true, reduceIte, decide_eq_true_eq, Bool.not_true, Bool.not_false, line, mI_int, mI_bool, mI_str, mI_tuple, mI_list, mB_int, mB_bool, mB_str, mB_tuple, mB_list, mS_int, mS_bool, mS_str, mS_tuple, mS_list, mT_int, mT_bool, mT_str, mT_tuple, mT_list, mN_int, mN_bool, mN_str, mN_tuple, mN_list, anyT, anyF, Nat.zero_add, Nat.reduceAdd, Nat.reduceLeDiff, true_and]
  refine nomore_ok (b := m0) (by omega) (zu.mono (by decide)) (zm.mono (by decide)) (by rw [← hm0]; exact usd_le V ok ok.l0 12) ?_
  simp only [opAddI, opSubI, opMulI, opDivI, opModI, opPowI, opAddT, cmEq, cmNe, cmLt, cmLe, cmGt, cmGe, cmIn, eqI, eqS, inS2, truB, ixT0, ixT1, ixT2, ixT3, ixT4, ixT6, slcT, lenT, absI, intI, tupleT, listT, listRl, decide_true, decide_false, if_true, if_false, Bool.false_eq_true, reduceIte, decide_eq_true_eq, Bool.not_true, Bool.not_false, line, mI_int, mI_bool, mI_str, mI_tuple, mI_list, mB_int, mB_bool, mB_str, mB_tuple, mB_list, mS_int, mS_bool, mS_str, mS_tuple, mS_list, mT_int, mT_bool, mT_str, mT_tuple, mT_list, mN_int, mN_bool, mN_str, mN_tuple, mN_list, anyT, anyF, Nat.zero_add, Nat.reduceAdd, Nat.reduceLeDiff, true_and]
  rw [ix_tree0 ok]
  simp only [itT]
  refine forL_inv ((sides T 0).map sD) (fun t σ S' => ∃ x6 x7, σ = [some (tD T), some (.tup [.int m0.num, .int (m0.den : Int)]), some (rq (1 + ssum (vl g) ((sides T 0).take t))), some (.ref p), some (rq (sm (mu T 0 o 12) o)), some (rq (usd T 0 o 12)), x6, x7] ∧ S' = S1 ∧ Zq (2 + 400 * t) (1 + ssum (vl g) ((sides T 0).take t))) (fun _ _ _ _ => trivial) ?_ ?_
    ⟨_, _, by
      rw [List.take_zero, ssum]
      have : (1 : Rat) + 0 = 1 := by grind
      rw [this], rfl, by
      rw [List.take_zero, ssum]
      have : (1 : Rat) + 0 = 1 := by grind
      rw [this]
      exact zq1.mono (by decide)⟩
  · rintro t d σ S2 NX hd ⟨x6, x7, rfl, rfl, zt⟩ hN
    rw [List.getElem?_map, Option.map_eq_some_iff] at hd
    obtain ⟨d, hd, rfl⟩ := hd
    have ht : t < 2 := by
      have h1 := (List.getElem?_eq_some_iff.mp hd).1
      have : (sides T 0).length ≤ 2 := sides_len
      omega
    have en : 1 + ssum (vl g) ((sides T 0).take t) + vl g d = 1 + ssum (vl g) ((sides T 0).take (t + 1)) := by
      rw [take_snoc hd, ssum_append, ssum, ssum]; grind
    cases d with
    | tell n =>
      have e3 : decide (("tell" : Str) = ("node" : Str)) = false := by decide
      simp only [sD, s__law_mean_fits_1, wSs, wS, wT, wE, wEs, wO, wC, wI, wG, wGs, startD, List.map_cons, List.map_nil, List.length_cons, List.length_nil, List.replicate, List.cons_append, List.nil_append, List.append_nil, List.set_cons_zero, List.set_cons_succ, List.getElem?_cons_zero, List.getElem?_cons_succ, itT, wipeD, opAddI, opSubI, opMulI, opDivI, opModI, opPowI, opAddT, cmEq, cmNe, cmLt, cmLe, cmGt, cmGe, cmIn, eqI, eqS, inS2, truB, ixT0, ixT1, ixT2, ixT3, ixT4, ixT6, slcT, lenT, absI, intI, tupleT, listT, listRl, decide_true, decide_false, if_true, if_false, Bool.false_eq_true, reduceIte, decide_eq_true_eq, Bool.not_true, Bool.not_false, line, mI_int, mI_bool, mI_str, mI_tuple, mI_list, mB_int, mB_bool, mB_str, mB_tuple, mB_list, mS_int, mS_bool, mS_str, mS_tuple, mS_list, mT_int, mT_bool, mT_str, mT_tuple, mT_list, mN_int, mN_bool, mN_str, mN_tuple, mN_list, anyT, anyF, Nat.zero_add, Nat.reduceAdd, Nat.reduceLeDiff, true_and, e3]
      have ez : vl g (.tell n) = 0 := rfl
      rw [ez] at en
      have en' : 1 + ssum (vl g) ((sides T 0).take t) = 1 + ssum (vl g) ((sides T 0).take (t + 1)) := by rw [← en]; grind
      rw [en'] at zt ⊢
      exact hN _ _ ⟨_, _, rfl, rfl, zt.mono (by omega)⟩
    | node x =>
      have hx := ok.nd _ x (List.mem_of_getElem? hd)
      have hxs : x ∈ succs T 0 := mem_nodes.mpr (List.mem_of_getElem? hd)
      have hxr : Rc T 0 x := Rc.self.next hxs
      have hxo := (O.mem x).mpr hxr
      simp only [sD, s__law_mean_fits_1, wSs, wS, wT, wE, wEs, wO, wC, wI, wG, wGs, startD, List.map_cons, List.map_nil, List.length_cons, List.length_nil, List.replicate, List.cons_append, List.nil_append, List.append_nil, List.set_cons_zero, List.set_cons_succ, List.getElem?_cons_zero, List.getElem?_cons_succ, itT, wipeD, opAddI, opSubI, opMulI, opDivI, opModI, opPowI, opAddT, cmEq, cmNe, cmLt, cmLe, cmGt, cmGe, cmIn, eqI, eqS, inS2, truB, ixT0, ixT1, ixT2, ixT3, ixT4, ixT6, slcT, lenT, absI, intI, tupleT, listT, listRl, decide_true, decide_false, if_true, if_false, Bool.false_eq_true, reduceIte, decide_eq_true_eq, Bool.not_true, Bool.not_false, line, mI_int, mI_bool, mI_str, mI_tuple, mI_list, mB_int, mB_bool, mB_str, mB_tuple, mB_list, mS_int, mS_bool, mS_str, mS_tuple, mS_list, mT_int, mT_bool, mT_str, mT_tuple, mT_list, mN_int, mN_bool, mN_str, mN_tuple, mN_list, anyT, anyF, Nat.zero_add, Nat.reduceAdd, Nat.reduceLeDiff, true_and, th]
      refine turned_ok ok hx (by omega) ?_
      refine tree_mean_ok (turn_ok ok hx) (by omega) (turn_all ok hx hxr hT) fun o' v' V' => ?_
      have zx := V'.zm (turn_ok ok hx) (by rw [turn_len hx]; exact ok.l0)
      rw [turn_mean ok hx O hxo hg V'] at zx ⊢
      refine ltimes_rq (by omega) (zqh.mono (by decide)) (zx.mono (by decide)) ?_
      refine lplus_rq (by omega) (zt.mono (by omega)) ((zqh.mul zx).mono (by decide)) ?_
      have ez : vl g (.node x) = 1 / 2 * g x := rfl
      rw [ez] at en
      rw [en]
      refine hN _ _ ⟨_, _, rfl, rfl, ?_⟩
      rw [← en]
      exact (zt.add (zqh.mul zx)).mono (by omega)
  · rintro σ S2 ⟨x6, x7, rfl, rfl, zt⟩
    rw [List.length_map, List.take_length]
    have ed : 1 + ssum (vl g) (sides T 0) = m0 := by
      rw [e0, hg 0 O.so, sm_PM O.nd (O.cl O.so)]
    rw [ed]
    simp only [wSs, wS, wT, wE, wEs, wO, wC, wI, wG, wGs, startD, List.map_cons, List.map_nil, List.length_cons, List.length_nil, List.replicate, List.cons_append, List.nil_append, List.append_nil, List.set_cons_zero, List.set_cons_succ, List.getElem?_cons_zero, List.getElem?_cons_succ, itT, wipeD, opAddI, opSubI, opMulI, opDivI, opModI, opPowI, opAddT, cmEq, cmNe, cmLt, cmLe, cmGt, cmGe, cmIn, eqI, eqS, inS2, truB, ixT0, ixT1, ixT2, ixT3, ixT4, ixT6, slcT, lenT, absI, intI, tupleT, listT, listRl, decide_true, decide_false, if_true, if_false, Bool.false_eq_true, reduceIte, decide_eq_true_eq, Bool.not_true, Bool.not_false, line, mI_int, mI_bool, mI_str, mI_tuple, mI_list, mB_int, mB_bool, mB_str, mB_tuple, mB_list, mS_int, mS_bool, mS_str, mS_tuple, mS_list, mT_int, mT_bool, mT_str, mT_tuple, mT_list, mN_int, mN_bool, mN_str, mN_tuple, mN_list, anyT, anyF, Nat.zero_add, Nat.reduceAdd, Nat.reduceLeDiff, true_and]
    rw [show rq m0 = .tup [.int m0.num, .int (m0.den : Int)] from rfl]
    rw [eq_self2]
    exact ⟨S, hle, hQ⟩
theorem lookNF : List.lookup ("NotFit" : Str) [(("NotFit" : Str), true)] = some true := by decide +kernel
theorem refuses_ok (ok : TrOk T) (hk : 6 < k) {a : Nat} (h1 : Rc T 0 a) (h2 : ¬ Tl T a) (hQ : Q (.bl true) S) : Γ k "_law_refuses" [tD T] S Q X := by
  cases k with
  | zero => omega
  | succ k =>
  refine gam (np := 1) (nn := 2) (b := b__law_refuses) rfl rfl ?_
  simp only [b__law_refuses, wSs, wS, wT, wE, wEs, wO, wC, wI, wG, wGs, startD, List.map_cons, List.map_nil, List.length_cons, List.length_nil, List.replicate, List.cons_append, List.nil_append, List.append_nil, List.set_cons_zero, List.set_cons_succ, List.getElem?_cons_zero, List.getElem?_cons_succ, itT, wipeD, opAddI, opSubI, opMulI, opDivI, opModI, opPowI, opAddT, cmEq, cmNe, cmLt, cmLe, cmGt, cmGe, cmIn, eqI, eqS, inS2, truB, ixT0, ixT1, ixT2, ixT3, ixT4, ixT6, slcT, lenT, absI, intI, tupleT, listT, listRl, decide_true, decide_false, if_true, if_false, Bool.false_eq_true, reduceIte, decide_eq_true_eq, Bool.not_true, Bool.not_false, line, mI_int, mI_bool, mI_str, mI_tuple, mI_list, mB_int, mB_bool, mB_str, mB_tuple, mB_list, mS_int, mS_bool, mS_str, mS_tuple, mS_list, mT_int, mT_bool, mT_str, mT_tuple, mT_list, mN_int, mN_bool, mN_str, mN_tuple, mN_list, anyT, anyF, Nat.zero_add, Nat.reduceAdd, Nat.reduceLeDiff, true_and]
  refine tree_mean_no ok (by omega) h1 h2 ?_
  simp only [lookNF, if_true]
  refine ⟨by simp, ?_⟩
  rw [show ∀ σ : En, hE σ (.and (.word "stays") (.isi [("NotFit", true)])) ⟨"NotFit", [("word", .str "stays")]⟩ = some (.bl true) from fun σ => rfl]
  exact ⟨S, Sto.le_refl, hQ⟩
theorem wkP_ok (ok : TrOk T) : ∀ {cs : List Nat} {i u : Nat}, i < T.length → (∀ c ∈ cs, c < 2) → Mi.ok 2 (wkP T i u cs) = true
  | [], i, u, _, _ => by rw [wkP]; rfl
  | c :: cs, i, u, hi, hc => by
    obtain ⟨d, hd, hm⟩ := sides_ix ok hi (hc c (by simp))
    rw [wkP, hd]
    cases d with
    | tell n => rfl
    | node j => exact wkP_ok ok (ok.nd _ j hm) fun c h => hc c (by simp [h])
end K49
namespace K49
open PySem PySem.Spec PyProof.Rows L2 Mi
variable {k : Nat} {S : Sto} {Q : KD} {X : KX} {pp a : Addr} {T : Tr}
theorem coins_ok (b : Ss) (hb : b = s_law_2) (ok : TrOk T) {z : Nat} {N : De} {m : Nat} {x0 x2 x5 x6 x7 x8 : Option D} (hm : m ≤ 7) (hz : z < 2 ^ 30) (st : Stt S a pp z)
    (hN : ∀ x7 x8 S', S.off a S' → Stt S' a pp (z + 10) → N.nx [x0, some (.ref a), x2, some (tD T), some (.int (m : Int)), x5, x6, x7, x8] S') :
    wSs (Γ 99) G0 b N [x0, some (.ref a), x2, some (tD T), some (.int (m : Int)), x5, x6, x7, x8] S := by
  subst hb
  simp only [s_law_2, wSs, wS, wT, wE, wEs, wO, wC, wI, wG, wGs, startD, List.map_cons, List.map_nil, List.length_cons, List.length_nil, List.replicate, List.cons_append, List.nil_append, List.append_nil, List.set_cons_zero, List.set_cons_succ, List.getElem?_cons_zero, List.getElem?_cons_succ, itT, wipeD, opAddI, opSubI, opMulI, opDivI, opModI, opPowI, opAddT, cmEq, cmNe, cmLt, cmLe, cmGt, cmGe, cmIn, eqI, eqS, inS2, truB, ixT0, ixT1, ixT2, ixT3, ixT4, ixT6, slcT, lenT, absI, intI, tupleT, listT, listRl, decide_true, decide_false, if_true, if_false, Bool.false_eq_true, reduceIte, decide_eq_true_eq, Bool.not_true, Bool.not_false, line, mI_int, mI_bool, mI_str, mI_tuple, mI_list, mB_int, mB_bool, mB_str, mB_tuple, mB_list, mS_int, mS_bool, mS_str, mS_tuple, mS_list, mT_int, mT_bool, mT_str, mT_tuple, mT_list, mN_int, mN_bool, mN_str, mN_tuple, mN_list, anyT, anyF, Nat.zero_add, Nat.reduceAdd, Nat.reduceLeDiff, true_and]
  have hl : (rngD 0 m).length = m := by simp [rngD]
  rw [Int.toNat_natCast]
  refine ⟨by unfold inB; omega, by rw [hl]; omega, ?_⟩
  refine cmpL_inv (rngD 0 m) (fun i acc S' => ∃ cs : List Nat, acc = nD cs ∧ cs.length = i ∧ (∀ c ∈ cs, c < 2) ∧ S.off a S' ∧ Stt S' a pp (z + i)) (fun _ _ _ _ => trivial) ?_ ?_ ⟨[], rfl, rfl, by simp, Sto.off.refl, st⟩
  · rintro i d acc S2 P hd ⟨cs, rfl, hcl, hc, o2, st2⟩ hP
    have hi : i < m := by rw [← hl]; exact (List.getElem?_eq_some_iff.mp hd).1
    simp only [e_law_1, wSs, wS, wT, wE, wEs, wO, wC, wI, wG, wGs, startD, List.map_cons, List.map_nil, List.length_cons, List.length_nil, List.replicate, List.cons_append, List.nil_append, List.append_nil, List.set_cons_zero, List.set_cons_succ, List.getElem?_cons_zero, List.getElem?_cons_succ, itT, wipeD, opAddI, opSubI, opMulI, opDivI, opModI, opPowI, opAddT, cmEq, cmNe, cmLt, cmLe, cmGt, cmGe, cmIn, eqI, eqS, inS2, truB, ixT0, ixT1, ixT2, ixT3, ixT4, ixT6, slcT, lenT, absI, intI, tupleT, listT, listRl, decide_true, decide_false, if_true, if_false, Bool.false_eq_true, reduceIte, decide_eq_true_eq, Bool.not_true, Bool.not_false, line, mI_int, mI_bool, mI_str, mI_tuple, mI_list, mB_int, mB_bool, mB_str, mB_tuple, mB_list, mS_int, mS_bool, mS_str, mS_tuple, mS_list, mT_int, mT_bool, mT_str, mT_tuple, mT_list, mN_int, mN_bool, mN_str, mN_tuple, mN_list, anyT, anyF, Nat.zero_add, Nat.reduceAdd, Nat.reduceLeDiff, true_and]
    refine draw_ok (by omega) (by decide) (by decide) (by omega) st2 fun r S3 r0 r1 o3 st3 => ?_
    refine hP _ _ ⟨cs ++ [r.toNat], ?_, by simp [hcl], fun c h => ?_, o2.trans o3, st3⟩
    · rw [← nD_snoc]
      rw [show ((r.toNat : Nat) : Int) = r from by omega]
    · rcases List.mem_append.mp h with h | h
      · exact hc c h
      · rw [List.mem_singleton.mp h]; omega
  · rintro ds S2 ⟨cs, rfl, hcl, hc, o2, st2⟩
    rw [hl] at hcl st2
    simp only [bllR]
    refine walk_ok ok (by omega) hc ?_
    refine lwalk_ok ok (by omega) (by omega) hc ?_
    refine same_ok 2 _ _ _ _ _ (by omega) (wkP_ok ok ok.l0 hc) ?_
    simp only [opAddI, opSubI, opMulI, opDivI, opModI, opPowI, opAddT, cmEq, cmNe, cmLt, cmLe, cmGt, cmGe, cmIn, eqI, eqS, inS2, truB, ixT0, ixT1, ixT2, ixT3, ixT4, ixT6, slcT, lenT, absI, intI, tupleT, listT, listRl, decide_true, decide_false, if_true, if_false, Bool.false_eq_true, reduceIte, decide_eq_true_eq, Bool.not_true, Bool.not_false, line, mI_int, mI_bool, mI_str, mI_tuple, mI_list, mB_int, mB_bool, mB_str, mB_tuple, mB_list, mS_int, mS_bool, mS_str, mS_tuple, mS_list, mT_int, mT_bool, mT_str, mT_tuple, mT_list, mN_int, mN_bool, mN_str, mN_tuple, mN_list, anyT, anyF, Nat.zero_add, Nat.reduceAdd, Nat.reduceLeDiff, true_and]
    exact hN _ _ _ o2 (st2.more (by omega))
theorem turn_all_ok (b : Ss) (hb : b = s_law_3) {z : Nat} {N : De} {x0 x2 x3 x4 x5 x6 x7 x8 : Option D} (hz : z < 2 ^ 20) (st : Stt S a pp z)
    (hN : ∀ x3 x4 x5 x6 x7 x8 S', Stt S' a pp (z + 100) → N.nx [x0, some (.ref a), x2, x3, x4, x5, x6, x7, x8] S') :
    wSs (Γ 99) G0 b N [x0, some (.ref a), x2, x3, x4, x5, x6, x7, x8] S := by
  subst hb
  simp only [s_law_3, wSs, wS, wT, wE, wEs, wO, wC, wI, wG, wGs, startD, List.map_cons, List.map_nil, List.length_cons, List.length_nil, List.replicate, List.cons_append, List.nil_append, List.append_nil, List.set_cons_zero, List.set_cons_succ, List.getElem?_cons_zero, List.getElem?_cons_succ, itT, wipeD, opAddI, opSubI, opMulI, opDivI, opModI, opPowI, opAddT, cmEq, cmNe, cmLt, cmLe, cmGt, cmGe, cmIn, eqI, eqS, inS2, truB, ixT0, ixT1, ixT2, ixT3, ixT4, ixT6, slcT, lenT, absI, intI, tupleT, listT, listRl, decide_true, decide_false, if_true, if_false, Bool.false_eq_true, reduceIte, decide_eq_true_eq, Bool.not_true, Bool.not_false, line, mI_int, mI_bool, mI_str, mI_tuple, mI_list, mB_int, mB_bool, mB_str, mB_tuple, mB_list, mS_int, mS_bool, mS_str, mS_tuple, mS_list, mT_int, mT_bool, mT_str, mT_tuple, mT_list, mN_int, mN_bool, mN_str, mN_tuple, mN_list, anyT, anyF, Nat.zero_add, Nat.reduceAdd, Nat.reduceLeDiff, true_and]
  refine tree_new (by omega) (by omega) st fun T S1 ok o1 st1 => ?_
  refine tree_ok ok (by omega) ?_
  simp only [cmR, isR, opAddI, opSubI, opMulI, opDivI, opModI, opPowI, opAddT, cmEq, cmNe, cmLt, cmLe, cmGt, cmGe, cmIn, eqI, eqS, inS2, truB, ixT0, ixT1, ixT2, ixT3, ixT4, ixT6, slcT, lenT, absI, intI, tupleT, listT, listRl, decide_true, decide_false, if_true, if_false, Bool.false_eq_true, reduceIte, decide_eq_true_eq, Bool.not_true, Bool.not_false, line, mI_int, mI_bool, mI_str, mI_tuple, mI_list, mB_int, mB_bool, mB_str, mB_tuple, mB_list, mS_int, mS_bool, mS_str, mS_tuple, mS_list, mT_int, mT_bool, mT_str, mT_tuple, mT_list, mN_int, mN_bool, mN_str, mN_tuple, mN_list, anyT, anyF, Nat.zero_add, Nat.reduceAdd, Nat.reduceLeDiff, true_and, beq_self_eq_true]
  intro r hr
  have ra : r ≠ a := st1.ne hr
  have st2 := st1.new (c := .lst [D.int 0, .int 1, .int 3, .int 7]) hr
  have hr2 : (S1.upd r (.lst [D.int 0, .int 1, .int 3, .int 7])) r = some (.lst [D.int 0, .int 1, .int 3, .int 7]) := Sto.upd_same
  generalize S1.upd r (.lst [D.int 0, .int 1, .int 3, .int 7]) = S2 at *
  rw [itL hr2]
  refine forL_inv [D.int 0, .int 1, .int 3, .int 7] (fun i σ S' => ∃ x4 x7 x8, σ = [x0, some (.ref a), x2, some (tD T), x4, x5, x6, x7, x8] ∧ S' r = some (.lst [D.int 0, .int 1, .int 3, .int 7]) ∧ Stt S' a pp (z + 30 + 10 * i)) (fun _ _ _ ⟨_, _, _, _, h, _⟩ => h) ?_ ?_
    ⟨_, _, _, rfl, hr2, st2⟩
  · rintro i d σ S3 NX hd ⟨x4, x7, x8, rfl, hr3, st3⟩ hN3
    have hi : i < 4 := (List.getElem?_eq_some_iff.mp hd).1
    obtain ⟨m, rfl, hm⟩ : ∃ m : Nat, d = .int (m : Int) ∧ m ≤ 7 := by
      have := List.mem_of_getElem? hd
      simp only [List.mem_cons, List.not_mem_nil, or_false] at this
      rcases this with rfl | rfl | rfl | rfl
      · exact ⟨0, rfl, by decide⟩
      · exact ⟨1, rfl, by decide⟩
      · exact ⟨3, rfl, by decide⟩
      · exact ⟨7, rfl, by decide⟩
    simp only [wSs, wS, wT, wE, wEs, wO, wC, wI, wG, wGs, startD, List.map_cons, List.map_nil, List.length_cons, List.length_nil, List.replicate, List.cons_append, List.nil_append, List.append_nil, List.set_cons_zero, List.set_cons_succ, List.getElem?_cons_zero, List.getElem?_cons_succ, itT, wipeD]
    refine coins_ok s_law_2 rfl ok hm (by omega) st3 fun x7 x8 S4 o4 st4 => ?_
    exact hN3 _ _ ⟨_, _, _, rfl, o4 r _ ra hr3, st4.more (by omega)⟩
  · rintro σ S3 ⟨x4, x7, x8, rfl, hr3, st3⟩
    have hl : ([D.int 0, .int 1, .int 3, .int 7] : List D).length = 4 := rfl
    rw [hl] at st3
    simp only [wSs, wS, wT, wE, wEs, wO, wC, wI, wG, wGs, startD, List.map_cons, List.map_nil, List.length_cons, List.length_nil, List.replicate, List.cons_append, List.nil_append, List.append_nil, List.set_cons_zero, List.set_cons_succ, List.getElem?_cons_zero, List.getElem?_cons_succ, itT, wipeD, opAddI, opSubI, opMulI, opDivI, opModI, opPowI, opAddT, cmEq, cmNe, cmLt, cmLe, cmGt, cmGe, cmIn, eqI, eqS, inS2, truB, ixT0, ixT1, ixT2, ixT3, ixT4, ixT6, slcT, lenT, absI, intI, tupleT, listT, listRl, decide_true, decide_false, if_true, if_false, Bool.false_eq_true, reduceIte, decide_eq_true_eq, Bool.not_true, Bool.not_false, line, mI_int, mI_bool, mI_str, mI_tuple, mI_list, mB_int, mB_bool, mB_str, mB_tuple, mB_list, mS_int, mS_bool, mS_str, mS_tuple, mS_list, mT_int, mT_bool, mT_str, mT_tuple, mT_list, mN_int, mN_bool, mN_str, mN_tuple, mN_list, anyT, anyF, Nat.zero_add, Nat.reduceAdd, Nat.reduceLeDiff, true_and]
    refine lstuck_ok ok (by omega) (fun c h1 h2 h3 => ?_) fun h => ?_
    · -- it stays
      have e0 : decide ((0 : Int) ≤ (c : Int)) = true := by simp
      refine tree_law_ok ok (by omega) (fun c' g1 g2 g3 => ?_) fun g => absurd (g c h1) h2
      have ec : c' = c := by
        refine Decidable.byContradiction fun hne => ?_
        by_cases hlt : c' < c
        · exact g2 (h3 c' g1 hlt)
        · exact h2 (g3 c h1 (by omega))
      subst ec
      simp only [e0, opAddI, opSubI, opMulI, opDivI, opModI, opPowI, opAddT, cmEq, cmNe, cmLt, cmLe, cmGt, cmGe, cmIn, eqI, eqS, inS2, truB, ixT0, ixT1, ixT2, ixT3, ixT4, ixT6, slcT, lenT, absI, intI, tupleT, listT, listRl, decide_true, decide_false, if_true, if_false, Bool.false_eq_true, reduceIte, decide_eq_true_eq, Bool.not_true, Bool.not_false, line, mI_int, mI_bool, mI_str, mI_tuple, mI_list, mB_int, mB_bool, mB_str, mB_tuple, mB_list, mS_int, mS_bool, mS_str, mS_tuple, mS_list, mT_int, mT_bool, mT_str, mT_tuple, mT_list, mN_int, mN_bool, mN_str, mN_tuple, mN_list, anyT, anyF, Nat.zero_add, Nat.reduceAdd, Nat.reduceLeDiff, true_and]
      refine same_ok 2 _ (.tup [.str "stays", .int (c' : Int)]) _ _ _ (by omega) rfl ?_
      simp only [opAddI, opSubI, opMulI, opDivI, opModI, opPowI, opAddT, cmEq, cmNe, cmLt, cmLe, cmGt, cmGe, cmIn, eqI, eqS, inS2, truB, ixT0, ixT1, ixT2, ixT3, ixT4, ixT6, slcT, lenT, absI, intI, tupleT, listT, listRl, decide_true, decide_false, if_true, if_false, Bool.false_eq_true, reduceIte, decide_eq_true_eq, Bool.not_true, Bool.not_false, line, mI_int, mI_bool, mI_str, mI_tuple, mI_list, mB_int, mB_bool, mB_str, mB_tuple, mB_list, mS_int, mS_bool, mS_str, mS_tuple, mS_list, mT_int, mT_bool, mT_str, mT_tuple, mT_list, mN_int, mN_bool, mN_str, mN_tuple, mN_list, anyT, anyF, Nat.zero_add, Nat.reduceAdd, Nat.reduceLeDiff, true_and]
      refine refuses_ok ok (by omega) h1 h2 ?_
      simp only [opAddI, opSubI, opMulI, opDivI, opModI, opPowI, opAddT, cmEq, cmNe, cmLt, cmLe, cmGt, cmGe, cmIn, eqI, eqS, inS2, truB, ixT0, ixT1, ixT2, ixT3, ixT4, ixT6, slcT, lenT, absI, intI, tupleT, listT, listRl, decide_true, decide_false, if_true, if_false, Bool.false_eq_true, reduceIte, decide_eq_true_eq, Bool.not_true, Bool.not_false, line, mI_int, mI_bool, mI_str, mI_tuple, mI_list, mB_int, mB_bool, mB_str, mB_tuple, mB_list, mS_int, mS_bool, mS_str, mS_tuple, mS_list, mT_int, mT_bool, mT_str, mT_tuple, mT_list, mN_int, mN_bool, mN_str, mN_tuple, mN_list, anyT, anyF, Nat.zero_add, Nat.reduceAdd, Nat.reduceLeDiff, true_and]
      exact hN _ _ _ _ _ _ _ (st3.more (by omega))
    · refine tree_law_ok ok (by omega) (fun c' g1 g2 g3 => absurd (h c' g1) g2) fun _ o v ms V m1 m2 => ?_
      have e0 : decide ((0 : Int) ≤ (-1 : Int)) = false := by decide
      have e1 : decide (("law" : Str) = ("law" : Str)) = true := by decide
      simp only [e0, e1, wSs, wS, wT, wE, wEs, wO, wC, wI, wG, wGs, startD, List.map_cons, List.map_nil, List.length_cons, List.length_nil, List.replicate, List.cons_append, List.nil_append, List.append_nil, List.set_cons_zero, List.set_cons_succ, List.getElem?_cons_zero, List.getElem?_cons_succ, itT, wipeD, opAddI, opSubI, opMulI, opDivI, opModI, opPowI, opAddT, cmEq, cmNe, cmLt, cmLe, cmGt, cmGe, cmIn, eqI, eqS, inS2, truB, ixT0, ixT1, ixT2, ixT3, ixT4, ixT6, slcT, lenT, absI, intI, tupleT, listT, listRl, decide_true, decide_false, if_true, if_false, Bool.false_eq_true, reduceIte, decide_eq_true_eq, Bool.not_true, Bool.not_false, line, mI_int, mI_bool, mI_str, mI_tuple, mI_list, mB_int, mB_bool, mB_str, mB_tuple, mB_list, mS_int, mS_bool, mS_str, mS_tuple, mS_list, mT_int, mT_bool, mT_str, mT_tuple, mT_list, mN_int, mN_bool, mN_str, mN_tuple, mN_list, anyT, anyF, Nat.zero_add, Nat.reduceAdd, Nat.reduceLeDiff, true_and]
      refine islaw_ok V ok m1 m2 (by omega) ?_
      simp only [opAddI, opSubI, opMulI, opDivI, opModI, opPowI, opAddT, cmEq, cmNe, cmLt, cmLe, cmGt, cmGe, cmIn, eqI, eqS, inS2, truB, ixT0, ixT1, ixT2, ixT3, ixT4, ixT6, slcT, lenT, absI, intI, tupleT, listT, listRl, decide_true, decide_false, if_true, if_false, Bool.false_eq_true, reduceIte, decide_eq_true_eq, Bool.not_true, Bool.not_false, line, mI_int, mI_bool, mI_str, mI_tuple, mI_list, mB_int, mB_bool, mB_str, mB_tuple, mB_list, mS_int, mS_bool, mS_str, mS_tuple, mS_list, mT_int, mT_bool, mT_str, mT_tuple, mT_list, mN_int, mN_bool, mN_str, mN_tuple, mN_list, anyT, anyF, Nat.zero_add, Nat.reduceAdd, Nat.reduceLeDiff, true_and]
      refine mean_fits_ok ok (by omega) h ?_
      simp only [opAddI, opSubI, opMulI, opDivI, opModI, opPowI, opAddT, cmEq, cmNe, cmLt, cmLe, cmGt, cmGe, cmIn, eqI, eqS, inS2, truB, ixT0, ixT1, ixT2, ixT3, ixT4, ixT6, slcT, lenT, absI, intI, tupleT, listT, listRl, decide_true, decide_false, if_true, if_false, Bool.false_eq_true, reduceIte, decide_eq_true_eq, Bool.not_true, Bool.not_false, line, mI_int, mI_bool, mI_str, mI_tuple, mI_list, mB_int, mB_bool, mB_str, mB_tuple, mB_list, mS_int, mS_bool, mS_str, mS_tuple, mS_list, mT_int, mT_bool, mT_str, mT_tuple, mT_list, mN_int, mN_bool, mN_str, mN_tuple, mN_list, anyT, anyF, Nat.zero_add, Nat.reduceAdd, Nat.reduceLeDiff, true_and]
      exact hN _ _ _ _ _ _ _ (st3.more (by omega))
theorem law_data : ∀ ns : List Int, ns.length ≤ 63 → Γ 100 "law" [.rl (ns.map .int)] (fun _ => none) (fun d _ => d = .bl true) fun _ _ => False := by
  intro ns hns
  refine gam (np := 1) (nn := 9) (b := b_law) rfl rfl ?_
  simp only [b_law, wSs, wS, wT, wE, wEs, wO, wC, wI, wG, wGs, startD, List.map_cons, List.map_nil, List.length_cons, List.length_nil, List.replicate, List.cons_append, List.nil_append, List.append_nil, List.set_cons_zero, List.set_cons_succ, List.getElem?_cons_zero, List.getElem?_cons_succ, itT, wipeD, opAddI, opSubI, opMulI, opDivI, opModI, opPowI, opAddT, cmEq, cmNe, cmLt, cmLe, cmGt, cmGe, cmIn, eqI, eqS, inS2, truB, ixT0, ixT1, ixT2, ixT3, ixT4, ixT6, slcT, lenT, absI, intI, tupleT, listT, listRl, decide_true, decide_false, if_true, if_false, Bool.false_eq_true, reduceIte, decide_eq_true_eq, Bool.not_true, Bool.not_false, line, mI_int, mI_bool, mI_str, mI_tuple, mI_list, mB_int, mB_bool, mB_str, mB_tuple, mB_list, mS_int, mS_bool, mS_str, mS_tuple, mS_list, mT_int, mT_bool, mT_str, mT_tuple, mT_list, mN_int, mN_bool, mN_str, mN_tuple, mN_list, anyT, anyF, Nat.zero_add, Nat.reduceAdd, Nat.reduceLeDiff, true_and]
  refine start_ok (by omega) fun a pp S1 ha _ st => ?_
  refine ⟨by unfold inB; decide, ?_⟩
  refine forL_inv (rngD 0 (2 : Int).toNat) (fun i σ S' => ∃ x2 x3 x4 x5 x6 x7 x8, σ = [some (.rl (ns.map .int)), some (.ref a), x2, x3, x4, x5, x6, x7, x8] ∧ Stt S' a pp (100 * i)) (fun _ _ _ _ => trivial) ?_ ?_ ⟨_, _, _, _, _, _, _, rfl, st.more (by omega)⟩
  · rintro i d σ S' NX hd ⟨x2, x3, x4, x5, x6, x7, x8, rfl, st'⟩ hN
    have hi : i < 2 := (List.getElem?_eq_some_iff.mp hd).1
    simp only [wSs, wS, wT, wE, wEs, wO, wC, wI, wG, wGs, startD, List.map_cons, List.map_nil, List.length_cons, List.length_nil, List.replicate, List.cons_append, List.nil_append, List.append_nil, List.set_cons_zero, List.set_cons_succ, List.getElem?_cons_zero, List.getElem?_cons_succ, itT, wipeD]
    refine turn_all_ok s_law_3 rfl (by omega) st' fun x3 x4 x5 x6 x7 x8 S2 st2 => ?_
    exact hN _ _ ⟨_, _, _, _, _, _, _, rfl, st2.more (by omega)⟩
  · rintro σ S' ⟨x2, x3, x4, x5, x6, x7, x8, rfl, st'⟩
    exact ⟨S', Sto.le_refl, trivial⟩
end K49
set_option maxHeartbeats 0
namespace K49
open PySem PySem.Spec PyProof.Rows L2 Mi
theorem fs_plain : ∀ d ∈ fs, d.d.dfl = [] ∧ d.d.kwd = [] ∧ bd d.d.qual = some (d.ps.length, d.N.length, d.body) ∧ d.d ∈ fnD := by
  intro d hd
  simp only [fs, List.mem_cons, List.not_mem_nil, or_false] at hd
  rcases hd with rfl | rfl | rfl | rfl | rfl | rfl | rfl | rfl | rfl | rfl | rfl | rfl | rfl | rfl | rfl | rfl | rfl | rfl | rfl | rfl | rfl | rfl | rfl | rfl | rfl | rfl | rfl | rfl | rfl | rfl | rfl | rfl | rfl | rfl | rfl | rfl | rfl | rfl | rfl | rfl | rfl
  all_goals exact ⟨rfl, rfl, rfl, List.mem_map_of_mem (by simp [fs])⟩
theorem G_plain : ∀ d ∈ fsG, d ∈ fs ∧ d.d.at_ = (d.d.qual, none) := by
  intro d hd
  simp only [fsG, List.mem_cons, List.not_mem_nil, or_false] at hd
  rcases hd with rfl | rfl | rfl | rfl | rfl | rfl | rfl | rfl | rfl | rfl | rfl | rfl | rfl | rfl | rfl | rfl | rfl | rfl | rfl | rfl | rfl | rfl | rfl | rfl | rfl | rfl | rfl | rfl | rfl | rfl | rfl | rfl | rfl | rfl | rfl | rfl | rfl | rfl | rfl | rfl | rfl
  all_goals exact ⟨by simp [fs], rfl⟩
theorem M_plain : ∀ d ∈ fsM, d ∈ fs ∧ d.d.at_ = (d.d.at_.1, some (d.d.at_.2.getD "")) := by
  intro d hd
  simp only [fsM, List.mem_cons, List.not_mem_nil, or_false] at hd
theorem I_plain : ∀ d ∈ fsI, d ∈ fs ∧ d.d.at_ = (d.d.at_.1, some ("__init__" : Str)) := by
  intro d hd
  simp only [fsI, List.mem_cons, List.not_mem_nil, or_false] at hd
theorem T_fns : K49.Tm.fns = fsG.map fun d => d.d.qual := rfl
theorem T_mth : K49.Tm.mth = fsM.map fun d => (d.d.at_.1, d.d.at_.2.getD "", d.d.qual) := rfl
theorem T_mks : K49.Tm.mks = fsI.map fun d => (d.d.at_.1, d.d.qual) := rfl
theorem T_cls : (∀ y ∈ K49.Tm.mth, ∃ z ∈ K49.Tm.mks, z.1 = y.1) ∧ (∀ y ∈ K49.Tm.fld, ∃ z ∈ K49.Tm.mks, z.1 = y.1) := by decide +kernel
theorem facts {w : World} {K : PySem.W.Frag} {h : Heap} {mg : Str → Option Value} {fa0 : Addr} (X : K.In h) (G : h.Ns mainGlobals mg) (hmg : mg ("law" : Str) = some (.ref fa0)) (ce : Mi.SaysE fa fnD PySem.Challenge.pw_castbypowers_k49_trees_walked_by_own_han.main.file ins K49.Tm.sub K49.Tm.mfn gl K)
    (data : ∀ ns : List Int, ns.length ≤ 63 → Γ 100 "law" [.rl (ns.map .int)] (fun _ => none) (fun d _ => d = .bl true) fun _ _ => False) :
    ∃ (K : PySem.W.Frag) (fd : FuncData) (sp : Sp), K.In h ∧ (∀ (s : Shared) (u : Value), BindsTo s fd ⟨[u], []⟩ [(("script" : Str), u)]) ∧
      (∀ (H : Hp) (a : Addr) (ns : List Int), ns.length ≤ 63 → Only H → SqL K H a (ns.map V.int) → sp [.ref a] H (fun v _ => v = .bl true) fun _ _ _ => False) ∧
      ∀ base : Heap, K.In base → base.Ns mainGlobals mg → FnOk PySem.Challenge.pw_castbypowers_k49_trees_walked_by_own_han w K mg base (L2.CX PySem.Challenge.pw_castbypowers_k49_trees_walked_by_own_han w) 202 fa0 fd ["script"] sp := by
  have c := ce.d
  have faG_ : ∀ f ∈ faG, f ∈ fa := fun f hf => List.mem_append_left _ (List.mem_append_left _ (List.mem_append_left _ (List.mem_append_right _ hf)))
  have faC_ : ∀ f ∈ faC, f ∈ fa := fun f hf => List.mem_append_left _ (List.mem_append_left _ (List.mem_append_right _ hf))
  have faM_ : ∀ f ∈ faM, f ∈ fa := fun f hf => List.mem_append_left _ (List.mem_append_right _ hf)
  have faA_ : ∀ f ∈ faA, f ∈ fa := fun f hf => List.mem_append_right _ hf
  have dd : ∀ d ∈ fs, ∃ fd, DnD K d (He.fAd K d.d.at_) fd := fun d hd => by
    obtain ⟨h2, h3, h5, h6⟩ := fs_plain d hd
    obtain ⟨fd, F⟩ := c.defs h6
    refine ⟨fd, ?_⟩
    have e1 : d.d.dvs K = [] := by unfold He.DefD.dvs; rw [h2]; rfl
    have e2 : d.d.kws K = [] := by unfold He.DefD.kws; rw [h3]; rfl
    rw [e1, e2] at F
    exact F
  have glo : ∀ d ∈ fsG, mg d.d.qual = some (.ref (He.fAd K d.d.at_)) := fun d hd => by
    obtain ⟨h1, h2⟩ := G_plain d hd
    rw [h2]
    refine He.glo_ok X G (c.facts (f := .glo d.d.qual) (faG_ _ (List.mem_map_of_mem (f := He.Fa.glo) ?_)))
    rw [T_fns]
    exact List.mem_map_of_mem hd
  have clsC : ∀ C key : Str, (C, key) ∈ K49.Tm.mks → Cls K (gAd K C) ∧ L2.Mk K (gAd K C) (He.ma K (He.ga K C) "__init__") ∧ mg C = some (.ref (gAd K C)) := fun C key hk => by
    have m : ∀ f ∈ ([.cls C, .mkr C, .glo C] : List He.Fa), f ∈ fa := fun f hf => faC_ _ (List.mem_flatMap.mpr ⟨_, hk, hf⟩)
    exact ⟨He.cls_ok (c.facts (m (.cls C) (by simp))), He.mkr_ok (c.facts (m (.mkr C) (by simp))), He.glo_ok X G (c.facts (m (.glo C) (by simp)))⟩
  have hl : d_law ∈ fsG := by simp [fsG]
  obtain ⟨fd, F⟩ := dd _ (G_plain _ hl).1
  have ef : fa0 = He.fAd K d_law.d.at_ := by
    have := glo _ hl
    have e : d_law.d.qual = ("law" : Str) := rfl
    rw [e, hmg] at this
    cases this
    rfl
  subst ef
  refine ⟨K, fd, LF K (Γ 100 "law"), X, fun s u => F.bindsA (ps := ["script"]) (fun _ _ _ _ _ _ us hl => match us, hl with | [_], _ => rfl) s [u] rfl, fun H a ns hn hO hS => ?_, fun base _ _ => ?_⟩
  · refine ⟨[.rl (ns.map .int)], fun _ => none, fun _ => none, _, _, empty_rel, .cons (script_rd hO hS) .nil, data ns hn, fun d S' v H' q e r rd => ?_, .no⟩
    subst q
    exact rd.bli
  · have fre : ∀ x : Str, K49.Tm.free.contains x = true → mg x = none := fun x hx => He.free_ok X G (c.facts (f := .free x) (List.mem_append_left _ (List.mem_append_left _ (List.mem_append_left _ (List.mem_append_left _ (List.mem_map_of_mem (by simpa using hx)))))))
    have exf : ∀ x : Str, K49.Tm.exc.contains x = true → ExcF PySem.Challenge.pw_castbypowers_k49_trees_walked_by_own_han K mg x := fun x hx => by
      have h : x ∈ ins.map (·.cls) := by have e : K49.Tm.exc = ins.map (·.cls) := rfl; rw [← e]; simpa using hx
      obtain ⟨d, hd, rfl⟩ := List.mem_map.mp h
      obtain ⟨h1, h2⟩ := ce.ins_ hd
      exact excF_of X G (ins_ok d hd) h1 h2
    exact prog_ok (bd := bd) (fs := fs) ok_all (fun d hd => (fs_plain d hd).2.2.1)
      (fun x hx => by
        have h : x ∈ K49.Tm.fns := by simpa using hx
        rw [T_fns] at h
        obtain ⟨d, hd, rfl⟩ := List.mem_map.mp h
        obtain ⟨fd', F'⟩ := dd d (G_plain d hd).1
        exact ⟨d, (G_plain d hd).1, rfl, _, fd', glo d hd, F'⟩)
      fre (fun x b hx hb => ce.mfn X G x b hx hb) (fun x d _ hx => ce.glb X G hx) exf
      (fun x c b hy => subF_of X G (ce.sub_ hy))
      (fun C f hf => by
        obtain ⟨⟨z1, z2⟩, hz, e⟩ := T_cls.2 _ hf
        simp only at e
        subst e
        exact ⟨(clsC _ _ hz).1, He.noat_ok (c.facts (faA_ _ (List.mem_map_of_mem (f := fun y : Str × Str => He.Fa.noat y.1 y.2) hf)))⟩)
      (fun C m key hk => by
        obtain ⟨⟨z1, z2⟩, hz, e⟩ := T_cls.1 _ hk
        simp only at e
        subst e
        have hk2 := hk
        rw [T_mth] at hk2
        obtain ⟨d, hd, e⟩ := List.mem_map.mp hk2
        cases e
        obtain ⟨h1, h2⟩ := M_plain d hd
        obtain ⟨fd', F'⟩ := dd d h1
        rw [h2] at F'
        exact ⟨(clsC _ _ hz).1, d, h1, rfl, _, fd', He.meth_ok (c.facts (faM_ _ (List.mem_map_of_mem (f := fun y : Str × Str × Str => He.Fa.meth y.1 y.2.1) hk))), F'⟩)
      (fun C key hk => by
        obtain ⟨c1, c2, c3⟩ := clsC C key hk
        rw [T_mks] at hk
        obtain ⟨d, hd, e⟩ := List.mem_map.mp hk
        cases e
        obtain ⟨h1, h2⟩ := I_plain d hd
        obtain ⟨fd', F'⟩ := dd d h1
        rw [h2] at F'
        exact ⟨c3, d, h1, rfl, _, fd', c2, F'⟩)
      (fun k x hx => by
        have hxm : x ∈ fsC.map (fun d => d.d.qual) := by have e : K49.Tm.cln = fsC.map (fun d => d.d.qual) := rfl; rw [← e]; simpa using hx
        obtain ⟨d, hd, rfl⟩ := List.mem_map.mp hxm
        obtain ⟨hok, hfs⟩ := okc_all d hd
        obtain ⟨fd', F'⟩ := dd _ (G_plain _ hfs).1
        exact ⟨_, fd', d.ps, glo d hfs, F'.kp, F'.bindsN (ok_all d (G_plain _ hfs).1).bnd, prog_ok (bd := bd) (T := K49.TmC) (fs := fsC) (fun d hd => (okc_all d hd).1) (fun d hd => (fs_plain d (G_plain _ (okc_all d hd).2).1).2.2.1)
          (fun x hx => by
            have h : x ∈ fsC.map (fun d => d.d.qual) := by have e : K49.TmC.fns = fsC.map (fun d => d.d.qual) := rfl; rw [← e]; simpa using hx
            obtain ⟨d, hd, e⟩ := List.mem_map.mp h
            have hg := (okc_all d hd).2
            obtain ⟨fd2, F2⟩ := dd d (G_plain _ hg).1
            exact ⟨d, hd, e, _, fd2, by rw [← e]; exact glo d hg, F2⟩)
          fre (fun x b hx hb => ce.mfn X G x b hx hb) (fun x d _ hx => ce.glb X G hx) exf (fun x c b hy => subF_of X G (ce.sub_ hy)) (fun _ _ hx => by cases hx) (fun _ _ _ hx => by cases hx) (fun _ _ hx => by cases hx) (fun k x hx => by cases hx) k d hd _ fd' F'⟩)
      100 d_law (G_plain _ hl).1 _ fd F
end K49
set_option maxHeartbeats 0
open PySem PySem.W PySem.Calls PyProof.Rows
theorem PySem.Challenge.cw_castbypowers_k49_trees_walked_by_own_han_holds : PySem.Challenge.rw_castbypowers_k49_trees_walked_by_own_han.Holds := by
  w_on; o_law
  refine HandSHeadRun.head_imp (r := OpenLaw.row PySem.Challenge.rw_castbypowers_k49_trees_walked_by_own_han) (q := view (OpenLaw.row PySem.Challenge.rw_castbypowers_k49_trees_walked_by_own_han).prog [0, 51]) (H := K49.hk) (ob := K49.ob) (M := 6000) (loose := K49.loose) (d := HandSHeadRun.topDef (OpenLaw.row PySem.Challenge.rw_castbypowers_k49_trees_walked_by_own_han).prog 51) (kwd := []) K49.ob_eq
    K49.run (by kernel_rfl) (by kernel_rfl) (by kernel_rfl) (by rfl) (by first | assumption | decide +kernel) (by decide +kernel) ⟨rfl, rfl, rfl, rfl, rfl, by decide +kernel⟩ ?hw ?hc
  case hw => w_witness2
  case hc =>
    refine Mi.law_walk (l := PySem.Challenge.rw_castbypowers_k49_trees_walked_by_own_han) (n := 63) (k := 202) (x := "script") rfl (by decide) (by kernel_rfl) ⟨rfl, by decide, by decide⟩ ?F
    case F =>
      intro w mg fa h Y G hmg0
      obtain ⟨K, KX, c⟩ := Y
      have hmg : mg ("law" : PySem.Str) = some (.ref fa) := by
        have e : (HandSHeadRun.topDef (OpenLaw.row PySem.Challenge.rw_castbypowers_k49_trees_walked_by_own_han).prog 51).name = ("law" : PySem.Str) := by kernel_rfl
        rw [← e]
        exact hmg0
      exact K49.facts (w := w) KX G hmg c K49.law_data
