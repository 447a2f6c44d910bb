import PyProof.Rows.All
import PySem.Challenge.RW_castbypowers_k50_digits_and_least_trees
import Wide.All
import OpenK.AllK
import Wide.FinOn
import HandS.ForMost
import HandS.ForExc
import HandS.Gcd
import HandS.Wide
import HandS.TupAny
import HandS.TupMul
import HandS.Style
import HandS.More
import KE.KDictPairs
import KE.KMathGC
import KE.DataMinMax
import KE.KEqSeq
import HandS.ExcField
import HandS.ExcIs
import HandS.ExcInit
import HandS.FStr
import HandS.Nested
import KE.KExcSuper
import HandS.NestedHot
import HandS.ExcInitHot
import HandS.RaiseFrom
import HandS.SuiteRaise
import KE.KExcIs
import HandS.IsInst
import HandS.WordsExc
import HandS.HeadHook1
import HandS.HeadHook2
import HandS.HeadHook4
import HandS.HeadEnd
import HandS.Ends
import HandS.Codes
import HandS.Head0
import HandS.Head1
import HandS.Head2
import HandS.Head3
set_option Elab.async false
set_option linter.all false
set_option maxRecDepth 100000
namespace Mi
open PySem PySem.Spec PyProof.Rows L2
inductive D where
  | non | bl (b : Bool) | int (i : Int) | str (s : Str) | tup (l : List D) | ref (a : Addr) | rl (l : List D)
  deriving Inhabited
namespace D
mutual
def beq : D → D → Bool
  | .non, .non => true
  | .bl a, .bl b => a == b
  | .int a, .int b => decide (a = b)
  | .str a, .str b => decide (a = b)
  | .tup a, .tup b => beqs a b
  | .ref a, .ref b => decide (a = b)
  | .rl a, .rl b => beqs a b
  | .rl _, .non | .rl _, .bl _ | .rl _, .int _ | .rl _, .str _ | .rl _, .tup _ | .rl _, .ref _ => false
  | .non, .rl _ | .bl _, .rl _ | .int _, .rl _ | .str _, .rl _ | .tup _, .rl _ | .ref _, .rl _ => false
  | .non, .bl _ | .non, .int _ | .non, .str _ | .non, .tup _ | .non, .ref _ => false
  | .bl _, .non | .bl _, .int _ | .bl _, .str _ | .bl _, .tup _ | .bl _, .ref _ => false
  | .int _, .non | .int _, .bl _ | .int _, .str _ | .int _, .tup _ | .int _, .ref _ => false
  | .str _, .non | .str _, .bl _ | .str _, .int _ | .str _, .tup _ | .str _, .ref _ => false
  | .tup _, .non | .tup _, .bl _ | .tup _, .int _ | .tup _, .str _ | .tup _, .ref _ => false
  | .ref _, .non | .ref _, .bl _ | .ref _, .int _ | .ref _, .str _ | .ref _, .tup _ => false
def beqs : List D → List D → Bool
  | [], [] => true
  | a :: as, b :: bs => beq a b && beqs as bs
  | [], _ :: _ => false
  | _ :: _, [] => false
end
mutual
theorem beq_self : ∀ a : D, beq a a = true
  | .non => rfl
  | .bl a => by simp [beq]
  | .int a => by simp [beq]
  | .str a => by simp [beq]
  | .ref a => by simp [beq]
  | .tup a => by rw [beq]; exact beqs_self a
  | .rl a => by rw [beq]; exact beqs_self a
theorem beqs_self : ∀ a : List D, beqs a a = true
  | [] => rfl
  | a :: as => by rw [beqs, beq_self a, beqs_self as]; rfl
end
mutual
theorem eq_of_beq : ∀ a b : D, beq a b = true → a = b
  | .non, b, h => by cases b <;> simp [beq] at h ⊢
  | .bl a, b, h => by cases b <;> simp [beq] at h ⊢; exact h
  | .int a, b, h => by cases b <;> simp [beq] at h ⊢; exact h
  | .str a, b, h => by cases b <;> simp [beq] at h ⊢; exact h
  | .ref a, b, h => by cases b <;> simp [beq] at h ⊢; exact h
  | .tup a, b, h => by
    cases b with
    | tup b => rw [beq] at h; rw [eqs_of_beqs a b h]
    | _ => simp [beq] at h
  | .rl a, b, h => by
    cases b with
    | rl b => rw [beq] at h; rw [eqs_of_beqs a b h]
    | _ => simp [beq] at h
theorem eqs_of_beqs : ∀ a b : List D, beqs a b = true → a = b
  | [], b, h => by cases b <;> simp [beqs] at h ⊢
  | a :: as, b, h => by
    cases b with
    | nil => simp [beqs] at h
    | cons b bs =>
      rw [beqs, Bool.and_eq_true] at h
      rw [eq_of_beq a b h.1, eqs_of_beqs as bs h.2]
end
instance : DecidableEq D := fun a b => if h : beq a b = true then .isTrue (eq_of_beq a b h) else .isFalse fun e => h (e ▸ beq_self a)
mutual
def dep : D → Nat
  | .tup l => deps l + 1
  | .non => 0 | .bl _ => 0 | .int _ => 0 | .str _ => 0 | .ref _ => 0 | .rl _ => 0
def deps : List D → Nat
  | [] => 0
  | d :: l => max (dep d) (deps l)
end
mutual
def eqv : D → D → Bool
  | .non, .non => true
  | .bl a, .bl b => a == b
  | .bl a, .int j => (if a then 1 else 0) == j
  | .int i, .bl b => i == (if b then 1 else 0)
  | .int a, .int b => a == b
  | .str a, .str b => a == b
  | .tup a, .tup b => eqvs a b
  | .ref _, _ => false | _, .ref _ => false
  | .rl _, _ => false | _, .rl _ => false
  | .non, .bl _ | .non, .int _ | .non, .str _ | .non, .tup _ => false
  | .bl _, .non | .bl _, .str _ | .bl _, .tup _ => false
  | .int _, .non | .int _, .str _ | .int _, .tup _ => false
  | .str _, .non | .str _, .bl _ | .str _, .int _ | .str _, .tup _ => false
  | .tup _, .non | .tup _, .bl _ | .tup _, .int _ | .tup _, .str _ => false
def eqvs : List D → List D → Bool
  | [], [] => true
  | a :: as, b :: bs => eqv a b && eqvs as bs
  | [], _ :: _ => false
  | _ :: _, [] => false
end
mutual
def pure : D → Bool
  | .tup l => pures l
  | .ref _ => false
  | .rl _ => false
  | .non => true | .bl _ => true | .int _ => true | .str _ => true
def pures : List D → Bool
  | [] => true
  | d :: l => pure d && pures l
end
mutual
def py : D → PyData
  | .non => .none
  | .bl b => .bool b
  | .int i => .int i
  | .str s => .str s
  | .tup l => .tuple (pys l)
  | .ref _ => .none
  | .rl _ => .none
def pys : List D → List PyData
  | [] => []
  | d :: l => py d :: pys l
end
mutual
theorem eqv_py : ∀ a b : D, pure a = true → pure b = true → PyData.eqv (py a) (py b) = eqv a b
  | .non, b, _, hb => by cases b <;> simp [pure] at hb <;> simp [py, PyData.eqv, eqv]
  | .bl a, b, _, hb => by cases b <;> simp [pure] at hb <;> simp [py, PyData.eqv, eqv]
  | .int a, b, _, hb => by cases b <;> simp [pure] at hb <;> simp [py, PyData.eqv, eqv]
  | .str a, b, _, hb => by cases b <;> simp [pure] at hb <;> simp [py, PyData.eqv, eqv]
  | .ref a, _, h, _ => by simp [pure] at h
  | .tup a, b, ha, hb => by
    cases b with
    | tup b =>
      rw [pure] at ha hb
      rw [py, py, PyData.eqv, eqv]
      exact eqvs_py a b ha hb
    | ref b => simp [pure] at hb
    | rl b => simp [pure] at hb
    | _ => simp [py, PyData.eqv, eqv]
theorem eqvs_py : ∀ a b : List D, pures a = true → pures b = true → PyData.eqvAll (pys a) (pys b) = eqvs a b
  | [], b, _, _ => by cases b <;> simp [pys, PyData.eqvAll, eqvs]
  | a :: as, b, ha, hb => by
    cases b with
    | nil => simp [pys, PyData.eqvAll, eqvs]
    | cons b bs =>
      rw [pures, Bool.and_eq_true] at ha hb
      rw [pys, pys, PyData.eqvAll, eqvs, eqv_py a b ha.1 hb.1, eqvs_py as bs ha.2 hb.2]
end
mutual
theorem dep_py : ∀ a : D, (py a).depth = dep a
  | .non => by simp [py, PyData.depth, dep]
  | .bl a => by simp [py, PyData.depth, dep]
  | .int a => by simp [py, PyData.depth, dep]
  | .str a => by simp [py, PyData.depth, dep]
  | .ref a => by simp [py, PyData.depth, dep]
  | .rl a => by simp [py, PyData.depth, dep]
  | .tup a => by rw [py, PyData.depth, dep, deps_py a]
theorem deps_py : ∀ a : List D, PyData.depthAll (pys a) = deps a
  | [] => by simp [pys, PyData.depthAll, deps]
  | a :: as => by rw [pys, PyData.depthAll, deps, dep_py a, deps_py as]
end
mutual
def nb : D → Bool
  | .tup l => nbs l
  | .ref _ => false | .bl _ => false | .rl _ => false
  | .non => true | .int _ => true | .str _ => true
def nbs : List D → Bool
  | [] => true
  | d :: l => nb d && nbs l
end
mutual
theorem pure_nb : ∀ a : D, nb a = true → pure a = true
  | .non, _ => rfl
  | .bl _, h => by simp [nb] at h
  | .int _, _ => rfl
  | .str _, _ => rfl
  | .ref _, h => by simp [nb] at h
  | .rl _, h => by simp [nb] at h
  | .tup a, h => by rw [nb] at h; rw [pure]; exact pures_nbs a h
theorem pures_nbs : ∀ a : List D, nbs a = true → pures a = true
  | [], _ => rfl
  | a :: as, h => by
    rw [nbs, Bool.and_eq_true] at h
    rw [pures, pure_nb a h.1, pures_nbs as h.2]; rfl
end
mutual
theorem eqv_nb : ∀ a b : D, nb a = true → nb b = true → eqv a b = beq a b
  | .non, b, _, hb => by cases b <;> simp [nb] at hb <;> simp [beq, eqv]
  | .bl a, _, h, _ => by simp [nb] at h
  | .int a, b, _, hb => by cases b <;> simp [nb] at hb <;> simp [beq, eqv, Bool.beq_eq_decide_eq]
  | .str a, b, _, hb => by cases b <;> simp [nb] at hb <;> simp [beq, eqv, Bool.beq_eq_decide_eq]
  | .ref a, _, h, _ => by simp [nb] at h
  | .tup a, b, ha, hb => by
    cases b with
    | tup b =>
      rw [nb] at ha hb
      rw [beq, eqv]
      exact eqvs_nb a b ha hb
    | _ => simp [nb] at hb <;> simp [beq, eqv]
theorem eqvs_nb : ∀ a b : List D, nbs a = true → nbs b = true → eqvs a b = beqs a b
  | [], b, _, _ => by cases b <;> simp [beqs, eqvs]
  | a :: as, b, ha, hb => by
    cases b with
    | nil => simp [beqs, eqvs]
    | cons b bs =>
      rw [nbs, Bool.and_eq_true] at ha hb
      rw [beqs, eqvs, eqv_nb a b ha.1 hb.1, eqvs_nb as bs ha.2 hb.2]
end
theorem decide_beq (a b : D) : decide (a = b) = beq a b := by
  cases h : beq a b with
  | true => exact decide_eq_true (eq_of_beq a b h)
  | false => exact decide_eq_false fun e => by rw [e, beq_self] at h; cases h
theorem eqv_eq {a b : D} (ha : nb a = true) (hb : nb b = true) : eqv a b = decide (a = b) := by rw [eqv_nb a b ha hb, decide_beq]
end D
def TupK (K : PySem.W.Frag) (H : Hp) (a : Addr) (xs : List V) : Prop :=
  (∃ o : Obj, H a = some (.frz o (.tup xs)) ∧ o.dict = none) ∨
    ∃ (o : Obj) (its : Array Value) (n : Nat), K.lookup a = some o ∧ o.cls = .type "tuple" ∧ o.dict = none ∧ o.data = .seq its n ∧ its.size ≤ sizeLine ∧ Vals xs its.toList
theorem TupK.sq {K : PySem.W.Frag} {H : Hp} {a : Addr} {xs : List V} (h : TupK K H a xs) : SqT K H a xs := by
  rcases h with ⟨o, h, _⟩ | ⟨o, its, n, h1, h2, _, h3, h4, h5⟩
  · exact .inl (.inr ⟨o, h⟩)
  · exact .inr ⟨o, its, n, h1, h2, h3, h4, h5⟩
def FixL (K : PySem.W.Frag) (H : Hp) (a : Addr) (xs : List V) : Prop :=
  (∃ o : Obj, H a = some (.frz o (.lst xs))) ∨
    ∃ (o : Obj) (its : Array Value) (n : Nat), K.lookup a = some o ∧ o.cls = .type "list" ∧ o.dict = none ∧ o.data = .seq its n ∧ its.size ≤ sizeLine ∧ Vals xs its.toList
theorem FixL.sq {K : PySem.W.Frag} {H : Hp} {a : Addr} {xs : List V} (h : FixL K H a xs) : SqL K H a xs := by
  rcases h with h | h
  · exact .inl (.inr h)
  · exact .inr h
mutual
def RD (K : PySem.W.Frag) (H : Hp) : D → V → Prop
  | .non, v => v = .non
  | .bl b, v => v = .bl b
  | .int i, v => v = .int i
  | .str s, v => v = .str s ∧ PyData.strOk s = true
  | .tup l, v => ∃ a vs, v = .ref a ∧ TupK K H a vs ∧ RDs K H l vs
  | .ref a, v => v = .ref a
  | .rl l, v => ∃ a vs, v = .ref a ∧ FixL K H a vs ∧ RDs K H l vs
def RDs (K : PySem.W.Frag) (H : Hp) : List D → List V → Prop
  | [], vs => vs = []
  | d :: l, vs => ∃ v r, vs = v :: r ∧ RD K H d v ∧ RDs K H l r
end
structure Ext (H H' : Hp) : Prop where
  tup : ∀ b xs, H b = some (.tup xs) → H' b = some (.tup xs)
  frz : ∀ b o u, H b = some (.frz o u) → H' b = some (.frz o u)
theorem Ext.refl {H : Hp} : Ext H H := ⟨fun _ _ h => h, fun _ _ _ h => h⟩
theorem Ext.trans {H H1 H2 : Hp} (a : Ext H H1) (b : Ext H1 H2) : Ext H H2 := ⟨fun c xs h => b.tup c xs (a.tup c xs h), fun c o u h => b.frz c o u (a.frz c o u h)⟩
theorem Ext.sqT {K : PySem.W.Frag} {H H' : Hp} (e : Ext H H') {a : Addr} {vs : List V} (h : SqT K H a vs) : SqT K H' a vs := by
  rcases h with (h | ⟨o, h⟩) | h
  · exact .inl (.inl (e.tup _ _ h))
  · exact .inl (.inr ⟨o, e.frz _ _ _ h⟩)
  · exact .inr h
theorem Ext.tupK {K : PySem.W.Frag} {H H' : Hp} (e : Ext H H') {a : Addr} {vs : List V} (h : TupK K H a vs) : TupK K H' a vs := by
  rcases h with ⟨o, h, d⟩ | h
  · exact .inl ⟨o, e.frz _ _ _ h, d⟩
  · exact .inr h
theorem Ext.new {H : Hp} {p : Addr} {o : HO} (h : H p = none) : Ext H (L2.upd H p o) := by
  refine ⟨fun b xs e => ?_, fun b ob u e => ?_⟩ <;> (rw [upd_ne (ne_of_none e h)]; exact e)
theorem Ext.write {H : Hp} {p : Addr} {o u : HO} (h : H p = some o) (nt : ∀ xs, o ≠ .tup xs) (nf : ∀ ob x, o ≠ .frz ob x) : Ext H (L2.upd H p u) := by
  refine ⟨fun b xs e => ?_, fun b ob x e => ?_⟩
  · rw [upd_ne (fun z => by subst z; rw [h] at e; exact nt xs (Option.some.inj e))]; exact e
  · rw [upd_ne (fun z => by subst z; rw [h] at e; exact nf ob x (Option.some.inj e))]; exact e
theorem Ext.fixL {K : PySem.W.Frag} {H H' : Hp} (e : Ext H H') {a : Addr} {vs : List V} (h : FixL K H a vs) : FixL K H' a vs := by
  rcases h with ⟨o, h⟩ | h
  · exact .inl ⟨o, e.frz _ _ _ h⟩
  · exact .inr h
mutual
theorem RD.ext {K : PySem.W.Frag} {H H' : Hp} (e : Ext H H') : ∀ (d : D) (v : V), RD K H d v → RD K H' d v
  | .non, v, h => by rw [RD] at h ⊢; exact h
  | .bl b, v, h => by rw [RD] at h ⊢; exact h
  | .int i, v, h => by rw [RD] at h ⊢; exact h
  | .str s, v, h => by rw [RD] at h ⊢; exact h
  | .ref a, v, h => by rw [RD] at h ⊢; exact h
  | .tup l, v, h => by
    rw [RD] at h ⊢
    obtain ⟨a, vs, ev, hs, hl⟩ := h
    exact ⟨a, vs, ev, e.tupK hs, RDs.ext e l vs hl⟩
  | .rl l, v, h => by
    rw [RD] at h ⊢
    obtain ⟨a, vs, ev, hs, hl⟩ := h
    exact ⟨a, vs, ev, e.fixL hs, RDs.ext e l vs hl⟩
theorem RDs.ext {K : PySem.W.Frag} {H H' : Hp} (e : Ext H H') : ∀ (l : List D) (vs : List V), RDs K H l vs → RDs K H' l vs
  | [], vs, h => by rw [RDs] at h ⊢; exact h
  | d :: l, vs, h => by
    rw [RDs] at h ⊢
    obtain ⟨v, r, ev, h1, h2⟩ := h
    exact ⟨v, r, ev, RD.ext e d v h1, RDs.ext e l r h2⟩
end
theorem RDs.nil {K : PySem.W.Frag} {H : Hp} : RDs K H [] [] := by rw [RDs]
theorem RDs.cons {K : PySem.W.Frag} {H : Hp} {d : D} {v : V} {l : List D} {vs : List V} (h : RD K H d v) (hs : RDs K H l vs) : RDs K H (d :: l) (v :: vs) := by rw [RDs]; exact ⟨v, vs, rfl, h, hs⟩
theorem RDs.length {K : PySem.W.Frag} {H : Hp} : ∀ {l : List D} {vs : List V}, RDs K H l vs → vs.length = l.length
  | [], vs, h => by rw [RDs] at h; rw [h]; rfl
  | d :: l, vs, h => by
    rw [RDs] at h
    obtain ⟨v, r, e, _, h2⟩ := h
    rw [e, List.length_cons, List.length_cons, RDs.length h2]
theorem RDs.append {K : PySem.W.Frag} {H : Hp} : ∀ {l m : List D} {vs ws : List V}, RDs K H l vs → RDs K H m ws → RDs K H (l ++ m) (vs ++ ws)
  | [], m, vs, ws, h, g => by rw [RDs] at h; rw [h]; exact g
  | d :: l, m, vs, ws, h, g => by
    rw [RDs] at h
    obtain ⟨v, r, e, h1, h2⟩ := h
    rw [e]
    exact .cons h1 (RDs.append h2 g)
theorem RDs.get {K : PySem.W.Frag} {H : Hp} : ∀ {l : List D} {vs : List V} {i : Nat} {d : D}, RDs K H l vs → l[i]? = some d → ∃ v, vs[i]? = some v ∧ RD K H d v
  | [], _, _, _, _, e => by simp at e
  | d :: l, vs, 0, d', h, e => by
    rw [RDs] at h
    obtain ⟨v, r, ev, h1, h2⟩ := h
    have e' : d = d' := by simpa using e
    subst e' ev
    exact ⟨v, rfl, h1⟩
  | d :: l, vs, i + 1, d', h, e => by
    rw [RDs] at h
    obtain ⟨v, r, ev, h1, h2⟩ := h
    subst ev
    obtain ⟨v', e2, h3⟩ := RDs.get (i := i) h2 (by simpa using e)
    exact ⟨v', by simpa using e2, h3⟩
theorem RDs.take {K : PySem.W.Frag} {H : Hp} : ∀ {l : List D} {vs : List V} (n : Nat), RDs K H l vs → RDs K H (l.take n) (vs.take n)
  | [], vs, n, h => by rw [RDs] at h; subst h; simpa using RDs.nil
  | d :: l, vs, 0, h => by simpa using RDs.nil
  | d :: l, vs, n + 1, h => by
    rw [RDs] at h
    obtain ⟨v, r, ev, h1, h2⟩ := h
    subst ev
    exact .cons h1 (RDs.take n h2)
theorem RDs.drop {K : PySem.W.Frag} {H : Hp} : ∀ {l : List D} {vs : List V} (n : Nat), RDs K H l vs → RDs K H (l.drop n) (vs.drop n)
  | [], vs, n, h => by rw [RDs] at h; subst h; simpa using RDs.nil
  | d :: l, vs, 0, h => h
  | d :: l, vs, n + 1, h => by
    rw [RDs] at h
    obtain ⟨v, r, ev, h1, h2⟩ := h
    subst ev
    exact RDs.drop n h2
theorem RDs.set {K : PySem.W.Frag} {H : Hp} {d : D} {v : V} (hd : RD K H d v) : ∀ {l : List D} {vs : List V} (i : Nat), RDs K H l vs → RDs K H (l.set i d) (vs.set i v)
  | [], vs, i, h => by rw [RDs] at h; subst h; simpa using RDs.nil
  | d :: l, vs, 0, h => by
    rw [RDs] at h
    obtain ⟨w, r, ev, h1, h2⟩ := h
    subst ev
    exact .cons hd h2
  | d :: l, vs, i + 1, h => by
    rw [RDs] at h
    obtain ⟨w, r, ev, h1, h2⟩ := h
    subst ev
    exact .cons h1 (RDs.set hd i h2)
theorem RDs.reverse {K : PySem.W.Frag} {H : Hp} : ∀ {l : List D} {vs : List V}, RDs K H l vs → RDs K H l.reverse vs.reverse
  | [], vs, h => by rw [RDs] at h; subst h; exact RDs.nil
  | d :: l, vs, h => by
    rw [RDs] at h
    obtain ⟨w, r, ev, h1, h2⟩ := h
    subst ev
    rw [List.reverse_cons, List.reverse_cons]
    exact (RDs.reverse h2).append (.cons h1 .nil)
inductive Cell where
  | lst (l : List D) | rls (l : List D) | dct (kvs : List (D × D)) | ins (C : Str) (fs : List (Str × D))
abbrev Sto := Addr → Option Cell
def Sto.upd (S : Sto) (a : Addr) (c : Cell) : Sto := fun b => if b = a then some c else S b
theorem Sto.upd_same {S : Sto} {a : Addr} {c : Cell} : S.upd a c a = some c := by unfold Sto.upd; rw [if_pos rfl]
theorem Sto.upd_ne {S : Sto} {a b : Addr} {c : Cell} (h : b ≠ a) : S.upd a c b = S b := by unfold Sto.upd; rw [if_neg h]
theorem Sto.upd_upd {S : Sto} {a : Addr} {c c' : Cell} : (S.upd a c).upd a c' = S.upd a c' := by
  funext b; unfold Sto.upd; split <;> rfl
theorem Sto.upd_comm {S : Sto} {a b : Addr} {c c' : Cell} (h : a ≠ b) : (S.upd a c).upd b c' = (S.upd b c').upd a c := by
  funext x; unfold Sto.upd
  by_cases h1 : x = a
  · subst h1; simp [h]
  · simp [h1]
theorem Sto.ne_of {S : Sto} {a b : Addr} {c : Cell} (h : S a = some c) (h' : S b = none) : a ≠ b := by
  intro e; subst e; rw [h] at h'; cases h'
def Sto.le (S S' : Sto) : Prop := ∀ a c, S a = some c → S' a = some c
theorem Sto.le_refl {S : Sto} : S.le S := fun _ _ h => h
theorem Sto.le.trans {S S1 S2 : Sto} (a : S.le S1) (b : S1.le S2) : S.le S2 := fun c x h => b c x (a c x h)
theorem Sto.le_new {S : Sto} {p : Addr} {c : Cell} (h : S p = none) : S.le (S.upd p c) := fun a x e => by rw [Sto.upd_ne (Sto.ne_of e h)]; exact e
theorem Sto.le_upd {S S' : Sto} {p : Addr} {c : Cell} (h : S p = none) (e : S.le S') : S.le (S'.upd p c) := fun a x q => by rw [Sto.upd_ne (Sto.ne_of q h)]; exact e a x q
def keyD : D → Option Key
  | .int i => some (.inl i)
  | .str s => some (.inr s)
  | _ => none
def RK (K : PySem.W.Frag) (H : Hp) : List (D × D) → List (Key × V) → Prop
  | [], ws => ws = []
  | (k, d) :: l, ws => ∃ k' v r, ws = (k', v) :: r ∧ keyD k = some k' ∧ RD K H d v ∧ RK K H l r
theorem RK.ext {K : PySem.W.Frag} {H H' : Hp} (e : Ext H H') : ∀ {l : List (D × D)} {ws : List (Key × V)}, RK K H l ws → RK K H' l ws
  | [], ws, h => by rw [RK] at h ⊢; exact h
  | (k, d) :: l, ws, h => by
    rw [RK] at h ⊢
    obtain ⟨k', v, r, e1, e2, h1, h2⟩ := h
    exact ⟨k', v, r, e1, e2, RD.ext e d v h1, RK.ext e h2⟩
def RF (K : PySem.W.Frag) (H : Hp) : List (Str × D) → List (Str × V) → Prop
  | [], ws => ws = []
  | (k, d) :: l, ws => ∃ v r, ws = (k, v) :: r ∧ RD K H d v ∧ RF K H l r
theorem RF.ext {K : PySem.W.Frag} {H H' : Hp} (e : Ext H H') : ∀ {l : List (Str × D)} {ws : List (Str × V)}, RF K H l ws → RF K H' l ws
  | [], ws, h => by rw [RF] at h ⊢; exact h
  | (k, d) :: l, ws, h => by
    rw [RF] at h ⊢
    obtain ⟨v, r, e1, h1, h2⟩ := h
    exact ⟨v, r, e1, RD.ext e d v h1, RF.ext e h2⟩
def gAd (K : PySem.W.Frag) (x : Str) : Addr := match PySem.W.nsIn K mainGlobals x with
  | some (some (.ref a)) => a
  | _ => 0
def RC (K : PySem.W.Frag) (H : Hp) (a : Addr) : Cell → Prop
  | .lst l => ∃ vs, H a = some (.lst vs) ∧ RDs K H l vs
  | .rls l => ∃ o vs, H a = some (.frz o (.lst vs)) ∧ RDs K H l vs
  | .dct kvs => ∃ ws, H a = some (.dK ws) ∧ RK K H kvs ws
  | .ins C fs => ∃ dx ws, H a = some (.ins (gAd K C) dx ws) ∧ RF K H fs ws
theorem RC.ext {K : PySem.W.Frag} {H H' : Hp} {a : Addr} {c : Cell} (e : Ext H H') (h : H' a = H a) (r : RC K H a c) : RC K H' a c := by
  cases c with
  | lst l =>
    obtain ⟨vs, h1, h2⟩ := r
    exact ⟨vs, by rw [h]; exact h1, h2.ext e⟩
  | rls l =>
    obtain ⟨o, vs, h1, h2⟩ := r
    exact ⟨o, vs, by rw [h]; exact h1, h2.ext e⟩
  | dct kvs =>
    obtain ⟨ws, h1, h2⟩ := r
    exact ⟨ws, by rw [h]; exact h1, h2.ext e⟩
  | ins C fs =>
    obtain ⟨dx, ws, h1, h2⟩ := r
    exact ⟨dx, ws, by rw [h]; exact h1, h2.ext e⟩
structure Rel (K : PySem.W.Frag) (S : Sto) (F H : Hp) : Prop where
  cell : ∀ a c, S a = some c → RC K H a c
  frm : ∀ a o, F a = some o → H a = some o
  sep : ∀ a o, F a = some o → S a = none
theorem Rel.there {K : PySem.W.Frag} {S : Sto} {F H : Hp} (r : Rel K S F H) {a : Addr} {c : Cell} (e : S a = some c) : ∃ o, H a = some o := by
  have q := r.cell a c e
  cases c with
  | lst l => obtain ⟨vs, h, _⟩ := q; exact ⟨_, h⟩
  | rls l => obtain ⟨o, vs, h, _⟩ := q; exact ⟨_, h⟩
  | dct kvs => obtain ⟨ws, h, _⟩ := q; exact ⟨_, h⟩
  | ins C fs => obtain ⟨dx, ws, h, _⟩ := q; exact ⟨_, h⟩
theorem Rel.free {K : PySem.W.Frag} {S : Sto} {F H : Hp} (r : Rel K S F H) {p : Addr} (e : H p = none) : S p = none := by
  cases q : S p with
  | none => rfl
  | some c =>
    obtain ⟨o, h⟩ := r.there q
    rw [e] at h; cases h
theorem Rel.freeF {K : PySem.W.Frag} {S : Sto} {F H : Hp} (r : Rel K S F H) {p : Addr} (e : H p = none) : F p = none := by
  cases q : F p with
  | none => rfl
  | some c => have h := r.frm _ _ q; rw [e] at h; cases h
theorem Rel.tup {K : PySem.W.Frag} {S : Sto} {F H : Hp} (r : Rel K S F H) {p : Addr} {o : HO} (e : H p = none) : Rel K S F (L2.upd H p o) where
  cell := fun a c q => (r.cell a c q).ext (.new e) (by
    obtain ⟨u, h⟩ := r.there q
    rw [upd_ne (ne_of_none h e)])
  frm := fun a u q => by rw [upd_ne (ne_of_none (r.frm a u q) e)]; exact r.frm a u q
  sep := r.sep
theorem Rel.new {K : PySem.W.Frag} {S : Sto} {F H : Hp} (r : Rel K S F H) {p : Addr} {o : HO} {c : Cell} (e : H p = none) (h : RC K (L2.upd H p o) p c) : Rel K (S.upd p c) F (L2.upd H p o) where
  cell := fun a c' q => by
    by_cases hp : a = p
    · subst hp; rw [Sto.upd_same] at q; cases q; exact h
    · rw [Sto.upd_ne hp] at q; exact (r.tup e).cell a c' q
  frm := (r.tup (o := o) e).frm
  sep := fun a u q => by
    have hp : a ≠ p := fun z => by subst z; rw [r.freeF e] at q; cases q
    rw [Sto.upd_ne hp]; exact r.sep a u q
theorem Rel.write {K : PySem.W.Frag} {S : Sto} {F H : Hp} (r : Rel K S F H) {p : Addr} {o : HO} {c c' : Cell} (e : S p = some c) (x : Ext H (L2.upd H p o)) (h : RC K (L2.upd H p o) p c') : Rel K (S.upd p c') F (L2.upd H p o) where
  cell := fun a d q => by
    by_cases hp : a = p
    · subst hp; rw [Sto.upd_same] at q; cases q; exact h
    · rw [Sto.upd_ne hp] at q; exact (r.cell a d q).ext x (upd_ne hp)
  frm := fun a u q => by
    have hp : a ≠ p := fun z => by subst z; rw [r.sep _ _ q] at e; cases e
    rw [upd_ne hp]; exact r.frm a u q
  sep := fun a u q => by
    have hp : a ≠ p := fun z => by subst z; rw [r.sep _ _ q] at e; cases e
    rw [Sto.upd_ne hp]; exact r.sep a u q
theorem Rel.less {K : PySem.W.Frag} {S S' : Sto} {F H : Hp} (r : Rel K S F H) (h : S'.le S) : Rel K S' F H where
  cell := fun a c q => r.cell a c (h a c q)
  frm := r.frm
  sep := fun a o q => by
    cases e : S' a with
    | none => rfl
    | some c => have := r.sep a o q; rw [h a c e] at this; cases this
structure RS (K : PySem.W.Frag) (H : Hp) (σ : List (Option D)) (τ : L2.St) : Prop where
  len : σ.length = τ.length
  get : ∀ (i : Nat) (d : D), σ[i]? = some (some d) → ∃ v, τ[i]? = some (some v) ∧ RD K H d v
theorem RS.ext {K : PySem.W.Frag} {H H' : Hp} {σ : List (Option D)} {τ : L2.St} (e : Ext H H') (r : RS K H σ τ) : RS K H' σ τ :=
  ⟨r.len, fun i d h => let ⟨v, h1, h2⟩ := r.get i d h; ⟨v, h1, h2.ext e⟩⟩
theorem RS.set {K : PySem.W.Frag} {H : Hp} {σ : List (Option D)} {τ : L2.St} (r : RS K H σ τ) (i : Nat) {d : D} {v : V} (h : RD K H d v) : RS K H (σ.set i (some d)) (τ.set i (some v)) := by
  refine ⟨by rw [List.length_set, List.length_set, r.len], fun j e q => ?_⟩
  by_cases hj : i = j
  · subst hj
    by_cases hi : i < σ.length
    · rw [List.getElem?_set_self hi] at q
      cases q
      exact ⟨v, by rw [List.getElem?_set_self (by rw [← r.len]; exact hi)], h⟩
    · rw [List.getElem?_eq_none (by simpa using hi)] at q; cases q
  · rw [List.getElem?_set_ne hj] at q
    obtain ⟨w, h1, h2⟩ := r.get j e q
    exact ⟨w, by rw [List.getElem?_set_ne hj]; exact h1, h2⟩
theorem RS.unset {K : PySem.W.Frag} {H : Hp} {σ : List (Option D)} {τ : L2.St} (r : RS K H σ τ) (i : Nat) {x : Option V} : RS K H (σ.set i none) (τ.set i x) := by
  refine ⟨by rw [List.length_set, List.length_set, r.len], fun j e q => ?_⟩
  by_cases hj : i = j
  · subst hj
    by_cases hi : i < σ.length
    · rw [List.getElem?_set_self hi] at q; cases q
    · rw [List.getElem?_eq_none (by simpa using hi)] at q; cases q
  · rw [List.getElem?_set_ne hj] at q
    obtain ⟨w, h1, h2⟩ := r.get j e q
    exact ⟨w, by rw [List.getElem?_set_ne hj]; exact h1, h2⟩
end Mi
namespace Mi
open PySem PySem.Spec PyProof.Rows L2
inductive Op where | add | sub | mul | fdiv | mod | pow
  deriving DecidableEq
inductive Cm where | eq | ne | lt | le | gt | ge | isin | notin | is | isnot
  deriving DecidableEq
inductive Bl where | len | abs | max | min | sum | all | any | int | str | tuple | list | dict | sorted | gcd | lcm
  deriving DecidableEq
inductive Mt where | append | extend | insert | pop | get | find | index | startswith | join | zfill
  deriving DecidableEq
inductive Ty where | int | bool | str | tuple | list
  deriving DecidableEq
mutual
inductive Tg where
  | nm (i : Nat) | tup (ts : Tgs)
inductive Tgs where
  | nil | cons (t : Tg) (ts : Tgs)
end
mutual
inductive E where
  | lit (d : D) | var (i : Nat) | glob (x : Str)
  | op (o : Op) (a b : E) | neg (a : E) | not (a : E) | and (a b : E) | or (a b : E)
  | cmp (o : Cm) (a b : E) | chain (o o' : Cm) (a b c : E) | ite (t a b : E)
  | tup (es : Es) | lst (es : Es) | dnew | disp (ks vs : Es)
  | ix (a i : E) | slc (a : E) (lo hi : Eo)
  | call (f : Str) (es : Es) | blt (b : Bl) (es : Es) | mth (m : Mt) (o : E) (es : Es) | isi (a : E) (ts : List Ty)
  | comp (b : Option Bl) (elt : E) (tg : Tg) (it : I) (c : Eo) (vs : List Nat)
inductive Es where
  | nil | cons (e : E) (es : Es)
inductive Eo where
  | none | some (e : E)
inductive I where
  | of (e : E) | rng1 (e : E) | rng2 (a b : E) | rng3 (a b c : E) | rev (e : E) | enum (e : E) | zip (a b : E) | items (e : E)
end
inductive HE where
  | isi (tb : List (Str × Bool)) | word (z : Str) | wd | and (a b : HE) | not (a : HE) | tag (z : Str) (a : HE)
mutual
inductive S where
  | raise (f : Str) (e : E) | tryx (b : Ss) (tb : List (Str × Bool)) (i : Nat) (h : HE) | tryr (t : Tg) (g : Str) (i : Nat) (tb : List (Str × Bool)) (f : Str) (z : Str)
  | set (i : Nat) (e : E) | asg (t : Tg) (e : E) | sub (o i e : E) | aug (i : Nat) (o : Op) (e : E) | exp (e : E) | ret (e : E) | retN | pass | brk | cont
  | ite (t : E) (a b : Ss) | whl (t : E) (b : Ss) | for (t : Tg) (it : I) (b : Ss)
inductive Ss where
  | nil | cons (s : S) (ss : Ss)
end
abbrev En := List (Option D)
abbrev KD := D → Sto → Prop
structure Exc where
  cls : Str
  fs : List (Str × D)
abbrev KX := Exc → Sto → Prop
def hE : HE → Exc → Option D
  | .isi tb, x => (tb.lookup x.cls).map D.bl
  | .word z, x => (match x.fs.lookup ("word" : Str) with | some (.str y) => some (.bl (decide (y = z))) | _ => none)
  | .wd, x => x.fs.lookup ("word" : Str)
  | .and a b, x => (match hE a x with | some (.bl c) => if c = true then hE b x else some (.bl false) | _ => none)
  | .not a, x => (match hE a x with | some (.bl c) => some (.bl (!c)) | _ => none)
  | .tag z a, x => (match hE a x with | some d => some (.tup [.str z, d]) | none => none)
abbrev FS := List D → Sto → KD → KX → Prop
def mulOk (i j : Int) : Prop := CMulW i j
def divOk (j : Int) : Prop := 0 < j ∧ j.natAbs.log2 < 9000
def opR : Op → D → D → Sto → KD → Prop
  | .add, .int i, .int j, S, Q => Q (.int (i + j)) S
  | .add, .str x, .str y, S, Q => x.length + y.length ≤ sizeLine ∧ Q (.str (x ++ y)) S
  | .add, .tup x, .tup y, S, Q => x.length + y.length ≤ sizeLine ∧ Q (.tup (x ++ y)) S
  | .add, .ref a, .ref b, S, Q => (match S a, S b with
    | some (.lst x), some (.lst y) => x.length + y.length ≤ sizeLine ∧ ∀ p, S p = none → Q (.ref p) (S.upd p (.lst (x ++ y)))
    | _, _ => False)
  | .sub, .int i, .int j, S, Q => Q (.int (i - j)) S
  | .mul, .int i, .int j, S, Q => CMulW i j ∧ Q (.int (i * j)) S
  | .fdiv, .int i, .int j, S, Q => CDivW i j ∧ Q (.int (i / j)) S
  | .mod, .int i, .int j, S, Q => 0 < j ∧ Q (.int (i % j)) S
  | .pow, .int i, .int j, S, Q => CPow i j ∧ Q (.int (i ^ j.toNat)) S
  | _, _, _, _, _ => False
def inD (x : D) (l : List D) : Bool := l.any fun y => D.eqv y x
def flatD : D → Bool
  | .non => true | .bl _ => true | .int _ => true | .str _ => true
  | .tup _ => false | .ref _ => false | .rl _ => false
def dget (kvs : List (D × D)) (k : D) : Option D := (kvs.find? fun kv => decide (kv.1 = k)).map (·.2)
def dput (kvs : List (D × D)) (k v : D) : List (D × D) := if (kvs.any fun kv => decide (kv.1 = k)) then kvs.map fun kv => if kv.1 = k then (kv.1, v) else kv else kvs ++ [(k, v)]
def ddel (kvs : List (D × D)) (k : D) : List (D × D) := kvs.filter fun kv => decide (kv.1 ≠ k)
def keyOk (_ : List (D × D)) (k : D) : Bool := (keyD k).isSome
def plainR (S : Sto) : D → Option (Bool × D)
  | .ref a => (match S a with
    | some (.lst l) => if D.pures l then some (true, .tup l) else none
    | some (.rls l) => if D.pures l then some (true, .tup l) else none
    | _ => none)
  | d => if D.pure d then some (false, d) else none
def eqR (d e : D) (S : Sto) (Q : Bool → Prop) : Prop := match plainR S d, plainR S e with
  | some (b, x), some (c, y) => min x.dep y.dep ≤ 60 ∧ Q (b == c && D.eqv x y)
  | _, _ => False
def lexR : List D → List D → Option Bool
  | [], [] => some false
  | [], _ :: _ => some true
  | _ :: _, [] => some false
  | .int a :: l, .int b :: m => if a = b then lexR l m else some (decide (a < b))
  | _ :: _, _ :: _ => none
def inR (x y : D) (S : Sto) (Q : Bool → Prop) : Prop := match y with
  | .tup l => flatD x = true ∧ l.all flatD = true ∧ Q (inD x l)
  | .str t => (match x with | .str s => Q (!(Builtin.Str.occurrences t s 0 t.length 1).isEmpty) | _ => False)
  | .ref a => (match S a with
    | some (.lst l) => flatD x = true ∧ l.all flatD = true ∧ Q (inD x l)
    | some (.dct kvs) => keyOk kvs x = true ∧ Q (dget kvs x).isSome
    | _ => False)
  | _ => False
def isR (x y : D) (Q : Bool → Prop) : Prop := match y with
  | .bl b => (match x with | .bl c => Q (c == b) | .non => Q false | .int _ => Q false | .str _ => Q false | .tup _ => Q false | .ref _ => Q false | .rl _ => Q false)
  | .non => (match x with | .non => Q true | .bl _ => Q false | .int _ => Q false | .str _ => Q false | .tup _ => Q false | .ref _ => Q false | .rl _ => Q false)
  | _ => False
def cmR : Cm → D → D → Sto → (Bool → Prop) → Prop
  | .eq, x, y, S, Q => eqR x y S Q
  | .ne, x, y, S, Q => eqR x y S fun b => Q (!b)
  | .lt, .int i, .int j, _, Q => Q (decide (i < j))
  | .le, .int i, .int j, _, Q => Q (decide (i ≤ j))
  | .gt, .int i, .int j, _, Q => Q (decide (j < i))
  | .ge, .int i, .int j, _, Q => Q (decide (j ≤ i))
  | .isin, x, y, S, Q => inR x y S Q
  | .notin, x, y, S, Q => inR x y S fun b => Q (!b)
  | .is, x, y, _, Q => isR x y Q
  | .isnot, x, y, _, Q => isR x y fun b => Q (!b)
  | _, _, _, _, _ => False
def truR (d : D) (S : Sto) (Q : Bool → Prop) : Prop := match d with
  | .non => Q false
  | .bl b => Q b
  | .int i => Q (i != 0)
  | .str s => s.length ≤ sizeLine ∧ Q ((s.length : Int) != 0)
  | .tup l => Q (!l.isEmpty)
  | .rl _ => False
  | .ref a => (match S a with
    | some (.lst l) => Q (!l.isEmpty)
    | some (.dct kvs) => Q (!kvs.isEmpty)
    | _ => False)
def ixR : D → D → Sto → KD → Prop
  | .tup l, .int i, S, Q => (match atI l i with | some d => Q d S | none => False)
  | .str s, .int i, S, Q => s.length ≤ sizeLine ∧ (match atI s.cps.toList i with | some c => Q (.str ⟨#[c]⟩) S | none => False)
  | .ref a, k, S, Q => (match S a with
    | some (.lst l) => (match k with | .int i => (match atI l i with | some d => Q d S | none => False) | _ => False)
    | some (.rls l) => (match k with | .int i => (match atI l i with | some d => Q d S | none => False) | _ => False)
    | some (.dct kvs) => keyOk kvs k = true ∧ (match dget kvs k with | some d => Q d S | none => False)
    | _ => False)
  | _, _, _, _ => False
def setR (o i v : D) (S : Sto) (Q : Sto → Prop) : Prop := match o with
  | .ref a => (match S a with
    | some (.lst l) => (match i with | .int k => (match ixN l.length k with | some j => Q (S.upd a (.lst (l.set j v))) | none => False) | _ => False)
    | some (.dct kvs) => keyOk kvs i = true ∧ kvs.length < sizeLine ∧ Q (S.upd a (.dct (dput kvs i v)))
    | _ => False)
  | _ => False
def cutD {α : Type} (xs : List α) (lo hi : Option Int) : List α := (xs.drop (HT.sIx xs.length 0 lo)).take (HT.sIx xs.length xs.length hi - HT.sIx xs.length 0 lo)
def slcR : D → Option Int → Option Int → Sto → KD → Prop
  | .tup l, lo, hi, S, Q => Q (.tup (cutD l lo hi)) S
  | .str s, lo, hi, S, Q => s.length ≤ sizeLine ∧ Q (.str ⟨(cutD s.cps.toList lo hi).toArray⟩) S
  | .ref a, lo, hi, S, Q => (match S a with
    | some (.lst l) => ∀ p, S p = none → Q (.ref p) (S.upd p (.lst (cutD l lo hi)))
    | _ => False)
  | _, _, _, _, _ => False
def asBls : List D → Option (List Bool)
  | [] => some []
  | .bl b :: l => (asBls l).map (b :: ·)
  | _ => none
def asInts : List D → Option (List Int)
  | [] => some []
  | .int b :: l => (asInts l).map (b :: ·)
  | _ => none
def ins (a : Int) : List Int → List Int
  | [] => [a]
  | b :: l => if a ≤ b then a :: b :: l else b :: ins a l
def srt : List Int → List Int
  | [] => []
  | a :: l => ins a (srt l)
def asPairs : List D → Option (List (D × D))
  | [] => some []
  | .tup [k, v] :: l => (asPairs l).map ((k, v) :: ·)
  | _ => none
def dmerge (kvs : List (D × D)) (ps : List (D × D)) : List (D × D) := ps.foldl (fun acc kv => dput acc kv.1 kv.2) kvs
def bllR : Bl → List D → Sto → KD → Prop
  | .tuple, l, S, Q => Q (.tup l) S
  | .all, l, S, Q => (match asBls l with | some bs => Q (.bl (bs.all id)) S | none => False)
  | .any, l, S, Q => (match asBls l with | some bs => Q (.bl (bs.any id)) S | none => False)
  | .sum, l, S, Q => (match asInts l with | some ns => Q (.int ns.sum) S | none => False)
  | .len, l, S, Q => Q (.int l.length) S
  | .sorted, l, S, Q => (match asInts l with | some ns => ns.length < 64 ∧ ∀ p, S p = none → Q (.ref p) (S.upd p (.lst ((srt ns).map D.int))) | none => False)
  | .max, l, S, Q => (match asInts l with | some ns => 0 < ns.length ∧ ∀ m, m ∈ ns → (∀ y, y ∈ ns → y ≤ m) → Q (.int m) S | none => False)
  | .min, l, S, Q => (match asInts l with | some ns => 0 < ns.length ∧ ∀ m, m ∈ ns → (∀ y, y ∈ ns → m ≤ y) → Q (.int m) S | none => False)
  | _, _, _, _ => False
def bltR : Bl → List D → Sto → KD → Prop
  | .len, [.tup l], S, Q => Q (.int l.length) S
  | .len, [.str s], S, Q => s.length ≤ sizeLine ∧ Q (.int s.length) S
  | .abs, [.int i], S, Q => Q (.int (if i < 0 then -i else i)) S
  | .max, [.int i, .int j], S, Q => Q (.int (if j > i then j else i)) S
  | .min, [.int i, .int j], S, Q => Q (.int (if j < i then j else i)) S
  | .gcd, [.int i, .int j], S, Q => Q (.int ((Nat.gcd i.natAbs j.natAbs : Nat) : Int)) S
  | .lcm, [.int i, .int j], S, Q => i.natAbs < 2 ^ 64 ∧ j.natAbs < 2 ^ 64 ∧ Q (.int ((Nat.lcm i.natAbs j.natAbs : Nat) : Int)) S
  | .max, [.tup l], S, Q => bllR .max l S Q
  | .int, [.int i], S, Q => Q (.int i) S
  | .tuple, [.tup l], S, Q => Q (.tup l) S
  | .list, [.rl l], S, Q => ∀ p, S p = none → Q (.ref p) (S.upd p (.lst l))
  | .len, [.rl l], S, Q => Q (.int l.length) S
  | .list, [.tup l], S, Q => ∀ p, S p = none → Q (.ref p) (S.upd p (.lst l))
  | .list, [.ref a], S, Q => (match S a with
    | some (.lst l) => ∀ p, S p = none → Q (.ref p) (S.upd p (.lst l))
    | some (.rls l) => ∀ p, S p = none → Q (.ref p) (S.upd p (.lst l))
    | _ => False)
  | .dict, [.tup l], S, Q => (match asPairs l with | some kvs => kvs.all (fun kv => (keyD kv.1).isSome) = true ∧ ∀ p, S p = none → Q (.ref p) (S.upd p (.dct (dmerge [] kvs))) | none => False)
  | .sorted, [.ref a], S, Q => (match S a with
    | some (.lst l) => bllR .sorted l S Q
    | some (.dct kvs) => bllR .sorted (kvs.map (·.1)) S Q
    | _ => False)
  | b, [.ref a], S, Q => (match S a with
    | some (.lst l) => bllR b l S Q
    | some (.rls l) => b = .len ∧ Q (.int l.length) S
    | _ => False)
  | _, _, _, _ => False
def mthR : Mt → D → List D → Sto → KD → Prop
  | .append, .ref a, [d], S, Q => (match S a with | some (.lst l) => l.length < sizeLine ∧ Q .non (S.upd a (.lst (l ++ [d]))) | _ => False)
  | .extend, .ref a, [.ref b], S, Q => (match S a, S b with | some (.lst l), some (.lst m) => l.length + m.length ≤ sizeLine ∧ Q .non (S.upd a (.lst (l ++ m))) | _, _ => False)
  | .extend, .ref a, [.tup m], S, Q => (match S a with | some (.lst l) => l.length + m.length ≤ sizeLine ∧ Q .non (S.upd a (.lst (l ++ m))) | _ => False)
  | .insert, .ref a, [.int i, d], S, Q => (match S a with | some (.lst l) => l.length < sizeLine ∧ 0 ≤ i ∧ i < 2 ^ 63 ∧ Q .non (S.upd a (.lst (l.take i.toNat ++ [d] ++ l.drop i.toNat))) | _ => False)
  | .get, .ref a, [k, d], S, Q => (match S a with | some (.dct kvs) => keyOk kvs k = true ∧ Q ((dget kvs k).getD d) S | _ => False)
  | .index, .ref a, [.int x], S, Q => (match S a with | some (.lst l) => (match asInts l with | some ns => ∃ j : Nat, ns[j]? = some x ∧ (∀ m, m < j → ns[m]? ≠ some x) ∧ Q (.int j) S | none => False) | _ => False)
  | .pop, .ref a, [], S, Q => (match S a with | some (.lst l) => (match l[l.length - 1]? with | some d => Q d (S.upd a (.lst l.dropLast)) | none => False) | _ => False)
  | _, _, _, _, _ => False
def mtyR : Mt → D → Sto → Bool
  | .get, .ref a, S => (match S a with | some (.dct _) => true | _ => false)
  | .append, .ref a, S => (match S a with | some (.lst _) => true | _ => false)
  | .extend, .ref a, S => (match S a with | some (.lst _) => true | _ => false)
  | .pop, .ref a, S => (match S a with | some (.lst _) => true | _ => false)
  | .insert, .ref a, S => (match S a with | some (.lst _) => true | _ => false)
  | .index, .ref a, S => (match S a with | some (.lst _) => true | _ => false)
  | _, _, _ => false
def isT : Ty → D → Sto → Option Bool
  | _, .rl _, _ => none
  | t, .ref a, S => (match S a with | some (.lst _) => some (t == .list) | some (.dct _) => some false | _ => none)
  | .int, d, _ => (match d with | .int _ => some true | .bl _ => some true | _ => some false)
  | .bool, d, _ => (match d with | .bl _ => some true | _ => some false)
  | .str, d, _ => (match d with | .str _ => some true | _ => some false)
  | .tuple, d, _ => (match d with | .tup _ => some true | _ => some false)
  | .list, _, _ => some false
mutual
def wG : Tg → D → En → (En → Prop) → Prop
  | .nm i, d, σ, Q => Q (σ.set i (some d))
  | .tup ts, d, σ, Q => (match d with | .tup l => wGs ts l σ Q | _ => False)
def wGs : Tgs → List D → En → (En → Prop) → Prop
  | .nil, l, σ, Q => (match l with | [] => Q σ | _ :: _ => False)
  | .cons t ts, l, σ, Q => (match l with | d :: r => wG t d σ fun σ' => wGs ts r σ' Q | [] => False)
end
structure De where
  nx : En → Sto → Prop
  rt : KD
  bk : En → Sto → Prop
  ct : En → Sto → Prop
  xr : Exc → En → Sto → Prop
abbrev KI := List D → (Sto → Prop) → Sto → Prop
def forL (tg : Tg) (b : De → En → Sto → Prop) (chk : Sto → Prop) : List D → De → En → Sto → Prop
  | [], N, σ, S => chk S ∧ N.nx σ S
  | d :: ds, N, σ, S => chk S ∧ wG tg d σ fun σ' => b { N with nx := forL tg b chk ds N, ct := forL tg b chk ds N, bk := N.nx } σ' S
def whlL (t : En → Sto → (Bool → Sto → Prop) → Prop) (b : De → En → Sto → Prop) : Nat → De → En → Sto → Prop
  | 0, _, _, _ => False
  | n + 1, N, σ, S => t σ S fun c S' => if c = true then b { N with nx := whlL t b n N, ct := whlL t b n N, bk := N.nx } σ S' else N.nx σ S'
def cmpL (tg : Tg) (c : En → Sto → (Bool → Sto → Prop) → Prop) (e : En → Sto → KD → Prop) (chk : Sto → Prop) : List D → En → Sto → (List D → Sto → Prop) → Prop
  | [], _, S, Q => chk S ∧ Q [] S
  | d :: ds, σ, S, Q => chk S ∧ wG tg d σ fun σ' => c σ' S fun b S1 => if b = true then e σ' S1 fun v S2 => cmpL tg c e chk ds σ S2 fun vs S3 => Q (v :: vs) S3 else cmpL tg c e chk ds σ S1 Q
def wipeD (σ : En) : List Nat → En
  | [] => σ
  | v :: vs => (wipeD σ vs).set v none
def rngD (lo : Int) (n : Nat) : List D := (List.range n).map fun (i : Nat) => D.int (lo + i)
def enumD (l : List D) : List D := (List.range l.length).zipWith (fun (i : Nat) d => D.tup [.int i, d]) l
def inB (j : Int) : Prop := -(2 ^ 62) ≤ j ∧ j < 2 ^ 62
def itR (d : D) (S : Sto) (Q : KI) : Prop := match d with
  | .tup l => Q l (fun _ => True) S
  | .str s => Q (s.cps.toList.map fun c => D.str ⟨#[c]⟩) (fun _ => True) S
  | .ref a => (match S a with
    | some (.lst l) => Q l (fun S' => S' a = some (.lst l)) S
    | some (.rls l) => Q l (fun S' => S' a = some (.rls l)) S
    | _ => False)
  | _ => False
mutual
def nrS : S → Bool
  | .tryr .. => false
  | .tryx b _ _ _ => nrSs b
  | .ite _ a b => nrSs a && nrSs b
  | .whl _ b => nrSs b
  | .for _ _ b => nrSs b
  | _ => true
def nrSs : Ss → Bool
  | .nil => true
  | .cons s ss => nrS s && nrSs ss
end
section
variable (Γ : Str → FS) (G : Str → Option D)
mutual
def wE : E → En → Sto → KD → KX → Prop
  | .lit d, _, S, Q, _ => Q d S
  | .var i, σ, S, Q, _ => (match σ[i]? with | some (some d) => Q d S | _ => False)
  | .glob x, _, S, Q, _ => (match G x with | some d => Q d S | none => False)
  | .op o a b, σ, S, Q, X => wE a σ S (fun x S1 => wE b σ S1 (fun y S2 => opR o x y S2 Q) X) X
  | .neg a, σ, S, Q, X => wE a σ S (fun x S1 => (match x with | .int i => Q (.int (-i)) S1 | _ => False)) X
  | .not a, σ, S, Q, X => wE a σ S (fun x S1 => truR x S1 fun b => Q (.bl (!b)) S1) X
  | .and a b, σ, S, Q, X => wE a σ S (fun x S1 => (match x with | .bl c => if c = true then wE b σ S1 Q X else Q (.bl false) S1 | _ => False)) X
  | .or a b, σ, S, Q, X => wE a σ S (fun x S1 => (match x with | .bl c => if c = true then Q (.bl true) S1 else wE b σ S1 Q X | _ => False)) X
  | .cmp o a b, σ, S, Q, X => wE a σ S (fun x S1 => wE b σ S1 (fun y S2 => cmR o x y S2 fun k => Q (.bl k) S2) X) X
  | .chain o o' a b c, σ, S, Q, X => wE a σ S (fun x S1 => wE b σ S1 (fun y S2 => cmR o x y S2 fun k => if k = true then wE c σ S2 (fun z S3 => cmR o' y z S3 fun k' => Q (.bl k') S3) X else Q (.bl false) S2) X) X
  | .ite t a b, σ, S, Q, X => wT t σ S (fun c S1 => if c = true then wE a σ S1 Q X else wE b σ S1 Q X) X
  | .tup es, σ, S, Q, X => wEs es σ S (fun ds S1 => ds.length ≤ sizeLine ∧ Q (.tup ds) S1) X
  | .lst es, σ, S, Q, X => wEs es σ S (fun ds S1 => ds.length ≤ sizeLine ∧ ∀ p, S1 p = none → Q (.ref p) (S1.upd p (.lst ds))) X
  | .dnew, _, S, Q, _ => ∀ p, S p = none → Q (.ref p) (S.upd p (.dct []))
  | .disp ks vs, σ, S, Q, X => wEs ks σ S (fun xs S1 => wEs vs σ S1 (fun ys S2 => xs.length = ys.length ∧ xs.length ≤ 15 ∧ xs.all (fun k => (keyD k).isSome) = true ∧ ∀ p, S2 p = none → Q (.ref p) (S2.upd p (.dct (dmerge [] (xs.zip ys))))) X) X
  | .ix a i, σ, S, Q, X => wE a σ S (fun x S1 => wE i σ S1 (fun y S2 => ixR x y S2 Q) X) X
  | .slc a lo hi, σ, S, Q, X => wE a σ S (fun x S1 => wO lo σ S1 (fun l S2 => wO hi σ S2 (fun h S3 => slcR x l h S3 Q) X) X) X
  | .call f es, σ, S, Q, X => wEs es σ S (fun ds S1 => Γ f ds S1 Q X) X
  | .blt b es, σ, S, Q, X => wEs es σ S (fun ds S1 => bltR b ds S1 Q) X
  | .mth m o es, σ, S, Q, X => wE o σ S (fun x S1 => mtyR m x S1 = true ∧ wEs es σ S1 (fun ds S2 => mthR m x ds S2 Q) X) X
  | .isi a ts, σ, S, Q, X => wE a σ S (fun x S1 => (match ts.mapM (fun t => isT t x S1) with | some bs => Q (.bl (bs.any id)) S1 | none => False)) X
  | .comp b e tg it c vs, σ, S, Q, X => wI it σ S (fun l chk S1 => l.length ≤ sizeLine ∧ cmpL tg (fun σ' S' Q' => wC c σ' S' Q' fun _ _ => False) (fun σ' S' Q' => wE e σ' S' Q' fun _ _ => False) chk l (wipeD σ vs) S1
      fun ds S2 => (match b with | some b => bllR b ds S2 Q | none => ∀ p, S2 p = none → Q (.ref p) (S2.upd p (.lst ds)))) X
def wT : E → En → Sto → (Bool → Sto → Prop) → KX → Prop
  | .not a, σ, S, Q, X => wT a σ S (fun b S1 => Q (!b) S1) X
  | .and a b, σ, S, Q, X => wT a σ S (fun c S1 => if c = true then wT b σ S1 Q X else Q false S1) X
  | .or a b, σ, S, Q, X => wT a σ S (fun c S1 => if c = true then Q true S1 else wT b σ S1 Q X) X
  | .cmp o a b, σ, S, Q, X => wE a σ S (fun x S1 => wE b σ S1 (fun y S2 => cmR o x y S2 fun k => Q k S2) X) X
  | .chain o o' a b c, σ, S, Q, X => wE a σ S (fun x S1 => wE b σ S1 (fun y S2 => cmR o x y S2 fun k => if k = true then wE c σ S2 (fun z S3 => cmR o' y z S3 fun k' => Q k' S3) X else Q false S2) X) X
  | .lit d, _, S, Q, _ => truR d S fun b => Q b S
  | .var i, σ, S, Q, _ => (match σ[i]? with | some (some d) => truR d S fun b => Q b S | _ => False)
  | .glob x, _, S, Q, _ => (match G x with | some d => truR d S fun b => Q b S | none => False)
  | .ix a i, σ, S, Q, X => wE a σ S (fun x S1 => wE i σ S1 (fun y S2 => ixR x y S2 fun d S' => truR d S' fun b => Q b S') X) X
  | .call f es, σ, S, Q, X => wEs es σ S (fun ds S1 => Γ f ds S1 (fun d S' => truR d S' fun b => Q b S') X) X
  | .blt b es, σ, S, Q, X => wEs es σ S (fun ds S1 => bltR b ds S1 fun d S' => truR d S' fun b => Q b S') X
  | .mth m o es, σ, S, Q, X => wE o σ S (fun x S1 => mtyR m x S1 = true ∧ wEs es σ S1 (fun ds S2 => mthR m x ds S2 fun d S' => truR d S' fun b => Q b S') X) X
  | .isi a ts, σ, S, Q, X => wE a σ S (fun x S1 => (match ts.mapM (fun t => isT t x S1) with | some bs => Q (bs.any id) S1 | none => False)) X
  | .comp (some b) e tg it c vs, σ, S, Q, X => wI it σ S (fun l chk S1 => l.length ≤ sizeLine ∧ cmpL tg (fun σ' S' Q' => wC c σ' S' Q' fun _ _ => False) (fun σ' S' Q' => wE e σ' S' Q' fun _ _ => False) chk l (wipeD σ vs) S1 fun ds S2 => bllR b ds S2 fun d S' => truR d S' fun b => Q b S') X
  | _, _, _, _, _ => False
def wEs : Es → En → Sto → (List D → Sto → Prop) → KX → Prop
  | .nil, _, S, Q, _ => Q [] S
  | .cons e es, σ, S, Q, X => wE e σ S (fun d S1 => wEs es σ S1 (fun ds S2 => Q (d :: ds) S2) X) X
def wO : Eo → En → Sto → (Option Int → Sto → Prop) → KX → Prop
  | .none, _, S, Q, _ => Q none S
  | .some e, σ, S, Q, X => wE e σ S (fun d S1 => (match d with | .int i => Q (some i) S1 | _ => False)) X
def wC : Eo → En → Sto → (Bool → Sto → Prop) → KX → Prop
  | .none, _, S, Q, _ => Q true S
  | .some e, σ, S, Q, X => wT e σ S Q X
def wI : I → En → Sto → KI → KX → Prop
  | .of e, σ, S, Q, X => wE e σ S (fun d S1 => itR d S1 Q) X
  | .rng1 e, σ, S, Q, X => wE e σ S (fun d S1 => (match d with | .int j => inB j ∧ Q (rngD 0 j.toNat) (fun _ => True) S1 | _ => False)) X
  | .rng2 a b, σ, S, Q, X => wE a σ S (fun d S1 => wE b σ S1 (fun d' S2 => (match d, d' with | .int i, .int j => inB i ∧ inB j ∧ Q (rngD i (j - i).toNat) (fun _ => True) S2 | _, _ => False)) X) X
  | .rng3 _ _ _, _, _, _, _ => False
  | .rev e, σ, S, Q, X => wE e σ S (fun d S1 => itR d S1 fun l => Q l.reverse) X
  | .enum e, σ, S, Q, X => wE e σ S (fun d S1 => (match d with | .ref _ => itR d S1 fun l => Q (enumD l) | _ => False)) X
  | .zip a b, σ, S, Q, X => wE a σ S (fun d S1 => wE b σ S1 (fun d' S2 => itR d S2 fun l c S3 => itR d' S3 fun m c' S4 => Q (l.zipWith (fun x y => D.tup [x, y]) m) (fun S' => c S' ∧ c' S') S4) X) X
  | .items e, σ, S, Q, X => False
end
mutual
def wS : S → De → En → Sto → Prop
  | .raise f e, N, σ, S => wE Γ G e σ S (fun d S1 => (match d with | .str z => z.length ≤ 1000000 ∧ N.xr ⟨f, [("word", .str z)]⟩ σ S1 | _ => False)) fun x S1 => N.xr x σ S1
  | .tryx b tb i h, N, σ, S => wSs b { N with xr := fun x σ' S' => (match tb.lookup x.cls with
      | some c => if c = true then i < σ'.length ∧ (match hE h x with | some d => N.rt d S' | none => False) else N.xr x σ' S'
      | none => False) } σ S
  | .tryr t g i tb f z, N, σ, S => z.length ≤ 1000000 ∧ (match σ[i]? with
      | some (some d) => Γ g [d] S (fun r S1 => wG t r σ fun σ' => N.nx σ' S1) fun x S1 => (match tb.lookup x.cls with
        | some c => c = true ∧ N.xr ⟨f, [("word", .str z)]⟩ σ S1
        | none => False)
      | _ => False)
  | .set i e, N, σ, S => wE Γ G e σ S (fun d S1 => N.nx (σ.set i (some d)) S1) fun x S1 => N.xr x σ S1
  | .asg t e, N, σ, S => wE Γ G e σ S (fun d S1 => wG t d σ fun σ' => N.nx σ' S1) fun x S1 => N.xr x σ S1
  | .sub o i e, N, σ, S => wE Γ G e σ S (fun d S1 => wE Γ G o σ S1 (fun x S2 => wE Γ G i σ S2 (fun y S3 => setR x y d S3 fun S4 => N.nx σ S4) fun x S1 => N.xr x σ S1) fun x S1 => N.xr x σ S1) fun x S1 => N.xr x σ S1
  | .aug i o e, N, σ, S => (match σ[i]? with | some (some x) => wE Γ G e σ S (fun y S1 => opR o x y S1 fun d S2 => N.nx (σ.set i (some d)) S2) fun x S1 => N.xr x σ S1 | _ => False)
  | .exp e, N, σ, S => wE Γ G e σ S (fun _ S1 => N.nx σ S1) fun x S1 => N.xr x σ S1
  | .ret e, N, σ, S => wE Γ G e σ S (fun d S1 => N.rt d S1) fun x S1 => N.xr x σ S1
  | .retN, N, _, S => N.rt .non S
  | .pass, N, σ, S => N.nx σ S
  | .brk, N, σ, S => N.bk σ S
  | .cont, N, σ, S => N.ct σ S
  | .ite t a b, N, σ, S => wT Γ G t σ S (fun c S1 => if c = true then wSs a N σ S1 else wSs b N σ S1) fun x S1 => N.xr x σ S1
  | .whl t b, N, σ, S => ∃ n, whlL (fun σ' S' Q => wT Γ G t σ' S' Q fun x S1 => N.xr x σ' S1) (wSs b) n N σ S
  | .for t it b, N, σ, S => wI Γ G it σ S (fun l chk S1 => forL t (wSs b) chk l N σ S1) fun x S1 => N.xr x σ S1
def wSs : Ss → De → En → Sto → Prop
  | .nil, N, σ, S => N.nx σ S
  | .cons s ss, N, σ, S => wS s { N with nx := wSs ss N } σ S
end
end
end Mi
namespace Mi
open PySem PySem.Spec PyProof.Rows L2
structure Tb where
  fns : List Str
  glob : List Str
  free : List Str
  mfn : List Str
  exc : List Str
  sub : List (Str × Str × Bool)
  md : Bool
  cln : List Str
def okN (x : Str) : Bool := !(x == ("__debug__" : Str)) && !(x == ("__classdict__" : Str)) && !(x == ("__name__" : Str))
def gd (b : Bool) : Option Unit := if b = true then some () else none
theorem gd_some {b : Bool} {u : Unit} : gd b = some u ↔ b = true := by unfold gd; cases b <;> simp
def ixOf (N : List Str) (x : Str) : Option Nat := N.findIdx? fun y => decide (y = x)
theorem ixOf_get {N : List Str} {x : Str} {i : Nat} (h : ixOf N x = some i) : N[i]? = some x := by
  unfold ixOf at h
  obtain ⟨hi, h1, _⟩ := List.findIdx?_eq_some_iff_getElem.mp h
  rw [List.getElem?_eq_getElem hi]
  exact congrArg some (of_decide_eq_true h1)
def visIx (N : List Str) (sc : Scope) (x : Str) : Option Nat := match sc.names.lookup x with
  | some .local => if okN x then ixOf N x else none
  | some .cell => if okN x then ixOf N x else none
  | some .free => if okN x then ixOf N x else none
  | _ => none
def locIx (N : List Str) (sc : Scope) (fnc : Str → Bool) (x : Str) : Option Nat := match sc.names.lookup x with
  | some .local => ixOf N x
  | some .cell => if fnc x then ixOf N x else none
  | _ => none
def glB (sc : Scope) (x : Str) : Bool := decide (sc.names.lookup x = some .globalImplicit) && okN x
def opOf : Operator → Option Op
  | .Add => some .add | .Sub => some .sub | .Mult => some .mul | .FloorDiv => some .fdiv | .Mod => some .mod | .Pow => some .pow
  | _ => none
def cmOf : CmpOp → Cm
  | .Eq => .eq | .NotEq => .ne | .Lt => .lt | .LtE => .le | .Gt => .gt | .GtE => .ge | .Is => .is | .IsNot => .isnot | .In => .isin | .NotIn => .notin
def bltOf (x : Str) : Option Bl :=
  if x = ("len" : Str) then some .len else if x = ("abs" : Str) then some .abs else if x = ("max" : Str) then some .max else if x = ("min" : Str) then some .min
  else if x = ("sum" : Str) then some .sum else if x = ("all" : Str) then some .all else if x = ("any" : Str) then some .any else if x = ("int" : Str) then some .int
  else if x = ("tuple" : Str) then some .tuple else if x = ("list" : Str) then some .list else if x = ("dict" : Str) then some .dict else if x = ("sorted" : Str) then some .sorted else none
def mfOf (x : Str) : Option Bl := if x = ("gcd" : Str) then some .gcd else if x = ("lcm" : Str) then some .lcm else none
def mthOf (x : Str) : Option Mt :=
  if x = ("append" : Str) then some .append else if x = ("extend" : Str) then some .extend else if x = ("get" : Str) then some .get else if x = ("pop" : Str) then some .pop else if x = ("insert" : Str) then some .insert else if x = ("index" : Str) then some .index else none
def tyOf (T : Tb) (sc : Scope) : PySem.Expr → Option Ty
  | .Name x _ => if glB sc x && T.free.contains x then
      (if x = ("int" : Str) then some .int else if x = ("bool" : Str) then some .bool else if x = ("str" : Str) then some .str else if x = ("tuple" : Str) then some .tuple else if x = ("list" : Str) then some .list else none) else none
  | _ => none
def litOf : Const → Option D
  | .int i => some (.int i)
  | .bool b => some (.bl b)
  | .none => some .non
  | .str s => if PyData.strOk s then some (.str s) else none
  | _ => none
mutual
def tgSlots : Tg → List Nat
  | .nm i => [i]
  | .tup ts => tgsSlots ts
def tgsSlots : Tgs → List Nat
  | .nil => []
  | .cons t ts => tgSlots t ++ tgsSlots ts
end
def isRng (T : Tb) (sc : Scope) : PySem.Expr → Option (List PySem.Expr)
  | .Call (.Name f _) es [] _ => if glB sc f && T.free.contains f && decide (f = ("range" : Str)) then some es else none
  | _ => none
def wkI : I → Bool
  | .of _ => false | .rng1 _ => false | .rng2 _ _ => false | .rng3 _ _ _ => false | .rev _ => false | .enum _ => true | .zip _ _ => true | .items _ => true
def tupX : PySem.Expr → Bool
  | .Tuple .. => true
  | _ => false
def isEn (T : Tb) (sc : Scope) : PySem.Expr → Option PySem.Expr
  | .Call (.Name f _) [e] [] _ => if glB sc f && T.free.contains f && decide (f = ("enumerate" : Str)) then some e else none
  | _ => none
section
variable (T : Tb) (N : List Str)
mutual
def cG : Nat → Scope → (Str → Bool) → PySem.Expr → Option Tg
  | 0, _, _, _ => none
  | n + 1, sc, fnc, .Name x _ => (locIx N sc fnc x).map Tg.nm
  | n + 1, sc, fnc, .Tuple es _ _ => (cGs n sc fnc es).map Tg.tup
  | _ + 1, _, _, _ => none
def cGs : Nat → Scope → (Str → Bool) → List PySem.Expr → Option Tgs
  | 0, _, _, _ => none
  | _ + 1, _, _, [] => some .nil
  | n + 1, sc, fnc, e :: es => do
    let t ← cG n sc fnc e
    let ts ← cGs n sc fnc es
    return .cons t ts
end
def ownOf (scope : Scope) : List (Str × Nat) := scope.names.filterMap fun y => match y.2 with
  | .local => (ixOf N y.1).map fun i => (y.1, i)
  | .cell => (ixOf N y.1).map fun i => (y.1, i)
  | _ => none
mutual
def cE : Nat → Scope → PySem.Expr → Option E
  | 0, _, _ => none
  | n + 1, sc, .Constant c _ _ => (litOf c).map E.lit
  | n + 1, sc, .Name x _ => (match visIx N sc x with
    | some i => some (.var i)
    | none => if glB sc x && T.glob.contains x then some (.glob x) else none)
  | n + 1, sc, .BinOp a o b _ => do
    let o' ← opOf o
    let a' ← cE n sc a
    let b' ← cE n sc b
    return .op o' a' b'
  | n + 1, sc, .UnaryOp .USub a _ => (cE n sc a).map E.neg
  | n + 1, sc, .UnaryOp .Not a _ => (cE n sc a).map E.not
  | n + 1, sc, .BoolOp op es _ => cB n sc op es
  | n + 1, sc, .Compare a [o] [b] _ => do
    let _ ← gd (!behindInMarks o b)
    let a' ← cE n sc a
    let b' ← cE n sc b
    return .cmp (cmOf o) a' b'
  | n + 1, sc, .IfExp t a b _ => do
    let t' ← cE n sc t
    let a' ← cE n sc a
    let b' ← cE n sc b
    return .ite t' a' b'
  | n + 1, sc, .Tuple es _ _ => (cEs n sc es).map E.tup
  | n + 1, sc, .List es _ => (cEs n sc es).map E.lst
  | n + 1, sc, .Dict [] [] _ => some .dnew
  | n + 1, sc, .Dict ks vs _ => cD n sc ks vs
  | n + 1, sc, .Subscript a (.Slice lo hi none _) _ => do
    let a' ← cE n sc a
    let lo' ← cO n sc lo
    let hi' ← cO n sc hi
    return .slc a' lo' hi'
  | n + 1, sc, .Subscript a i _ => do
    let a' ← cE n sc a
    let i' ← cE n sc i
    return .ix a' i'
  | n + 1, sc, .Call (.Name f _) es [] pos => if glB sc f then
      (if T.fns.contains f then (cEs n sc es).map (E.call f)
      else if T.free.contains f then
        (if f = ("isinstance" : Str) then (match es with
          | [a, t] => do
            let a' ← cE n sc a
            let t' ← tyOf T sc t
            return .isi a' [t']
          | _ => none)
        else match bltOf f with
          | none => none
          | some b => (match es with
            | [.ListComp e [⟨tg, it, ifs, 0⟩] scope p] => cC n sc (some b) e tg it ifs scope
            | e :: es' => (cEs n sc (e :: es')).map (E.blt b)
            | [] => none))
      else if T.mfn.contains f then (match mfOf f, es with
        | some m, [a, b] => do
          let a' ← cE n sc a
          let b' ← cE n sc b
          return .blt m (.cons a' (.cons b' .nil))
        | _, _ => none)
      else none) else none
  | n + 1, sc, .Call (.Attribute o m apos) es [] pos => do
    let _ ← gd (apos.endLine == pos.line)
    let m' ← mthOf m
    let _ ← gd (match o with | .Call .. => false | _ => true)
    let _ ← gd (decide (es.length < 20))
    let o' ← cE n sc o
    let es' ← cEs n sc es
    return .mth m' o' es'
  | n + 1, sc, .ListComp e [⟨tg, it, ifs, 0⟩] scope p => cC n sc none e tg it ifs scope
  | _ + 1, _, _ => none
def cB : Nat → Scope → PySem.BoolOp → List PySem.Expr → Option E
  | 0, _, _, _ => none
  | n + 1, sc, op, [a] => cE n sc a
  | n + 1, sc, op, a :: b :: r => do
    let a' ← cE n sc a
    let b' ← cB n sc op (b :: r)
    return (match op with | .And => .and a' b' | .Or => .or a' b')
  | _ + 1, _, _, _ => none
def cEs : Nat → Scope → List PySem.Expr → Option Es
  | 0, _, _ => none
  | _ + 1, _, [] => some .nil
  | n + 1, sc, e :: es => do
    let e' ← cE n sc e
    let es' ← cEs n sc es
    return .cons e' es'
def cD : Nat → Scope → List (Option PySem.Expr) → List PySem.Expr → Option E
  | 0, _, _, _ => none
  | n + 1, sc, [some k], [v] => do
    let k' ← cE n sc k
    let v' ← cE n sc v
    return .disp (.cons k' .nil) (.cons v' .nil)
  | _ + 1, _, _, _ => none
def cO : Nat → Scope → Option PySem.Expr → Option Eo
  | 0, _, _ => none
  | _ + 1, _, none => some .none
  | n + 1, sc, some e => (cE n sc e).map Eo.some
def cI : Nat → Scope → PySem.Expr → Option I
  | 0, _, _ => none
  | n + 1, sc, e => (match isRng T sc e with
    | some [a] => (cE n sc a).map I.rng1
    | some [a, b] => do
      let a' ← cE n sc a
      let b' ← cE n sc b
      return .rng2 a' b'
    | some _ => none
    | none => (match isEn T sc e with
      | some a => (cE n sc a).map I.enum
      | none => (cE n sc e).map I.of))
def cC : Nat → Scope → Option Bl → PySem.Expr → PySem.Expr → PySem.Expr → List PySem.Expr → Scope → Option E
  | 0, _, _, _, _, _, _, _ => none
  | n + 1, sc, b, e, tg, it, ifs, scope => do
    let _ ← gd (blkC N sc scope (ownOf N scope))
    let it' ← cI n sc it
    let _ ← gd (!wkI it' || tupX tg)
    let tg' ← cG N n (relS scope sc) (fun x => scope.names.lookup x == some .cell) tg
    let _ ← gd ((tgSlots tg').all fun i => ((ownOf N scope).map (·.2)).contains i)
    let e' ← cE n (relS scope sc) e
    let c' ← (match ifs with | [] => some .none | [c] => (cE n (relS scope sc) c).map Eo.some | _ => none)
    return .comp b e' tg' it' c' ((ownOf N scope).map (·.2))
end
def subOf (c : Str) : List (Str × Bool) := T.sub.filterMap fun y => if y.2.1 = c then some (y.1, y.2.2) else none
def cH (sc : Scope) (n : Str) : Nat → PySem.Expr → Option HE
  | 0, _ => none
  | k + 1, .BoolOp .And [a, b] _ => do
    let a' ← cH sc n k a
    let b' ← cH sc n k b
    return .and a' b'
  | k + 1, .BoolOp .And [a, b, c] p => do
    let a' ← cH sc n k a
    let b' ← cH sc n k (.BoolOp .And [b, c] p)
    return .and a' b'
  | k + 1, .BoolOp .And [a, b, c, d] p => do
    let a' ← cH sc n k a
    let b' ← cH sc n k (.BoolOp .And [b, c, d] p)
    return .and a' b'
  | k + 1, .UnaryOp .Not a _ => (cH sc n k a).map HE.not
  | _ + 1, .Attribute (.Name e _) w _ => if decide (e = n) && decide (w = ("word" : Str)) then some .wd else none
  | _ + 1, .Call (.Name f _) [.Name e _, .Name c _] [] _ => if glB sc f && T.free.contains f && decide (f = ("isinstance" : Str)) && decide (e = n) && glB sc c && (T.sub.any fun y => decide (y.2.1 = c)) then some (.isi (subOf T c)) else none
  | _ + 1, .Compare (.Attribute (.Name e _) w _) [.Eq] [.Constant (.str z) _ _] _ => if decide (e = n) && decide (w = ("word" : Str)) && PyData.strOk z then some (.word z) else none
  | k + 1, .Tuple [.Constant (.str z) _ _, a] _ _ => if PyData.strOk z then (cH sc n k a).map (HE.tag z) else none
  | _ + 1, _ => none
mutual
def cS : Nat → Scope → PySem.Stmt → Option S
  | 0, _, _ => none
  | n + 1, sc, .Assign [.Name x py] e pos => do
    let i ← locIx N sc (fun _ => true) x
    let e' ← cE T N n sc e
    let _ ← gd (match e with | .ListComp _ _ scope p => decide (sc.names.lookup x = some .cell) || ((py.line == p.line) && decide (sc.names.lookup x = some .local) && !(scope.names.any fun y => y.1 == x && (y.2 == .local || y.2 == .cell))) | _ => true)
    return .set i e'
  | n + 1, sc, .Assign [.Tuple ts k p] e pos => do
    let ts' ← cG N n sc (fun _ => true) (.Tuple ts k p)
    let _ ← gd (match e with | .Tuple .. => false | .ListComp .. => false | _ => true)
    let e' ← cE T N n sc e
    return .asg ts' e'
  | n + 1, sc, .Assign [.Subscript o i p] e pos => do
    let _ ← gd (match i with | .Slice .. => false | _ => true)
    let _ ← gd (match e with | .ListComp .. => false | _ => true)
    let o' ← cE T N n sc o
    let i' ← cE T N n sc i
    let e' ← cE T N n sc e
    return .sub o' i' e'
  | n + 1, sc, .Raise (some (.Call (.Name f _) [e] [] pos)) none _ => do
    let _ ← gd (glB sc f && T.exc.contains f)
    let e' ← cE T N n sc e
    return .raise f e'
  | n + 1, sc, .Try b [.ExceptHandler (some (.Name x _)) (some nm) [.Return (some e) _] _] [] [] _ => do
    let i ← (match sc.names.lookup nm with | some .local => ixOf N nm | _ => none)
    let _ ← gd (glB sc x && okN nm && (T.sub.any fun y => decide (y.2.1 = x)))
    let h ← cH T sc nm n e
    let b' ← cSs n sc b
    let _ ← gd (!T.md && nrSs b')
    return .tryx b' (subOf T x) i h
  | n + 1, sc, .Try [.Assign [tg] (.Call (.Name g _) [.Name v _] [] _) _] [.ExceptHandler (some (.Name x _)) none [.Raise (some (.Call (.Name f _) [.Constant (.str z) _ _] [] _)) (some (.Constant .none _ _)) _] _] [] [] _ => do
    let _ ← gd (!T.md && (glB sc g && T.cln.contains g) && (glB sc x && (T.sub.any fun y => decide (y.2.1 = x))) && (glB sc f && T.exc.contains f) && PyData.strOk z)
    let t' ← cG N n sc (fun _ => true) tg
    let i ← visIx N sc v
    let _ ← gd (match tg with | .Tuple .. => true | _ => false)
    return .tryr t' g i (subOf T x) f z
  | n + 1, sc, .Expr (.Constant (.str _) _ _) _ => some .pass
  | n + 1, sc, .Expr e pos => do
    let _ ← gd (match e with | .Call .. => true | _ => false)
    let e' ← cE T N n sc e
    return .exp e'
  | n + 1, sc, .Return (some e) _ => (cE T N n sc e).map S.ret
  | n + 1, sc, .Return none _ => some .retN
  | n + 1, sc, .Pass _ => some .pass
  | n + 1, sc, .Break _ => some .brk
  | n + 1, sc, .Continue _ => some .cont
  | n + 1, sc, .If t a b _ => do
    let t' ← cE T N n sc t
    let a' ← cSs n sc a
    let b' ← cSs n sc b
    return .ite t' a' b'
  | n + 1, sc, .While t b [] _ => do
    let t' ← cE T N n sc t
    let b' ← cSs n sc b
    return .whl t' b'
  | n + 1, sc, .For tg it b [] _ => do
    let _ ← gd (match it with | .Set .. => false | _ => true)
    let tg' ← cG N n sc (fun _ => true) tg
    let it' ← cI T N n sc it
    let _ ← gd (!wkI it' || tupX tg)
    let b' ← cSs n sc b
    return .for tg' it' b'
  | _ + 1, _, _ => none
def cSs : Nat → Scope → List PySem.Stmt → Option Ss
  | 0, _, _ => none
  | _ + 1, _, [] => some .nil
  | n + 1, sc, s :: ss => do
    let s' ← cS n sc s
    let ss' ← cSs n sc ss
    return .cons s' ss'
end
end
end Mi
namespace Mi
open PySem PySem.Spec PyProof.Rows L2
theorem PE.imp {X : Cx} {e : PySem.Expr} {t t' : TE} (h : PE X e t) (i : ∀ σ H Q, t' σ H Q → t σ H Q) : PE X e t' := ⟨fun pins s σ H Q I q => h.run pins s σ H Q I (i σ H Q q)⟩
theorem PT.imp {X : Cx} {e : PySem.Expr} {t t' : TT} (h : PT X e t) (i : ∀ σ H Q, t' σ H Q → t σ H Q) : PT X e t' := ⟨fun pins s σ H Q I q => h.run pins s σ H Q I (i σ H Q q)⟩
theorem PA.imp {X : Cx} {e : List PySem.Expr} {t t' : TA} (h : PA X e t) (i : ∀ σ H Q, t' σ H Q → t σ H Q) : PA X e t' := ⟨fun pos pins s σ H Q I q => h.run pos pins s σ H Q I (i σ H Q q)⟩
theorem PS.imp {X : Cx} {e : PySem.Stmt} {t t' : TS} (h : PS X e t) (i : ∀ D σ H, t' D σ H → t D σ H) : PS X e t' := ⟨fun pins s σ H D I q => h.run pins s σ H D I (i D σ H q)⟩
theorem PSs.imp {X : Cx} {e : List PySem.Stmt} {t t' : TS} (h : PSs X e t) (i : ∀ D σ H, t' D σ H → t D σ H) : PSs X e t' := ⟨fun pins s σ H D I q => h.run pins s σ H D I (i D σ H q)⟩
theorem opR_imp {X : Cx} {f : Value → Value → Sem Value} {t t' : R2} (h : OpR X f t) (i : ∀ x y H Q, t' x y H Q → t x y H Q) : OpR X f t' := fun pins s σ H x y v u Q I rx ry q => h pins s σ H x y v u Q I rx ry (i x y H Q q)
def KV (K : PySem.W.Frag) (F H : Hp) (Qd : KD) (Q : VK) : Prop := ∀ d S' v H', Qd d S' → Ext H H' → Rel K S' F H' → RD K H' d v → Q v H'
theorem KV.ext {K : PySem.W.Frag} {F H H1 : Hp} {Qd : KD} {Q : VK} (h : KV K F H Qd Q) (e : Ext H H1) : KV K F H1 Qd Q := fun d S' v H' q e' r rd => h d S' v H' q (e.trans e') r rd
def LO (K : PySem.W.Frag) (w : D → D → Sto → KD → Prop) : R2 := fun x y H Q => ∃ d e S F Qd, Rel K S F H ∧ RD K H d x ∧ RD K H e y ∧ w d e S Qd ∧ KV K F H Qd Q
section
variable {K : PySem.W.Frag} {H : Hp} {v : V}
theorem RD.inti {i : Int} (h : RD K H (.int i) v) : v = .int i := by rw [RD] at h; exact h
theorem RD.bli {b : Bool} (h : RD K H (.bl b) v) : v = .bl b := by rw [RD] at h; exact h
theorem RD.noni (h : RD K H .non v) : v = .non := by rw [RD] at h; exact h
theorem RD.stri {s : Str} (h : RD K H (.str s) v) : v = .str s ∧ PyData.strOk s = true := by rw [RD] at h; exact h
theorem RD.refi {a : Addr} (h : RD K H (.ref a) v) : v = .ref a := by rw [RD] at h; exact h
theorem RD.tupk {l : List D} (h : RD K H (.tup l) v) : ∃ a vs, v = .ref a ∧ TupK K H a vs ∧ RDs K H l vs := by rw [RD] at h; exact h
theorem RD.tupi {l : List D} (h : RD K H (.tup l) v) : ∃ a vs, v = .ref a ∧ SqT K H a vs ∧ RDs K H l vs := let ⟨a, vs, e, h1, h2⟩ := h.tupk; ⟨a, vs, e, h1.sq, h2⟩
theorem RD.rli {l : List D} (h : RD K H (.rl l) v) : ∃ a vs, v = .ref a ∧ FixL K H a vs ∧ RDs K H l vs := by rw [RD] at h; exact h
theorem RD.int {i : Int} : RD K H (.int i) (.int i) := by rw [RD]
theorem RD.bl {b : Bool} : RD K H (.bl b) (.bl b) := by rw [RD]
theorem RD.non : RD K H .non .non := by rw [RD]
theorem RD.str {s : Str} (h : PyData.strOk s = true) : RD K H (.str s) (.str s) := by rw [RD]; exact ⟨rfl, h⟩
theorem RD.ref {a : Addr} : RD K H (.ref a) (.ref a) := by rw [RD]
theorem RD.tup {l : List D} {a : Addr} {vs : List V} (h : TupK K H a vs) (r : RDs K H l vs) : RD K H (.tup l) (.ref a) := by rw [RD]; exact ⟨a, vs, rfl, h, r⟩
theorem RD.tupNew {l : List D} {p : Addr} {o : Obj} {vs : List V} (e : H p = none) (ho : o.dict = none) (r : RDs K H l vs) : RD K (L2.upd H p (.frz o (.tup vs))) (.tup l) (.ref p) := .tup (.inl ⟨o, upd_same, ho⟩) (r.ext (.new e))
end
theorem strOk_append {a b : Str} (ha : PyData.strOk a = true) (hb : PyData.strOk b = true) : PyData.strOk (a ++ b) = true := by
  unfold PyData.strOk at ha hb ⊢
  show ((Str.append a b).cps.all fun x => decide (x < 0x110000)) = true
  unfold Str.append
  simp only [Array.all_append, ha, hb, Bool.and_self]
theorem Rel.lst {K : PySem.W.Frag} {S : Sto} {F H : Hp} {a : Addr} {l : List D} (r : Rel K S F H) (h : S a = some (.lst l)) : ∃ vs, H a = some (.lst vs) ∧ RDs K H l vs := r.cell a _ h
theorem Rel.rls {K : PySem.W.Frag} {S : Sto} {F H : Hp} {a : Addr} {l : List D} (r : Rel K S F H) (h : S a = some (.rls l)) : ∃ o vs, H a = some (.frz o (.lst vs)) ∧ RDs K H l vs := r.cell a _ h
theorem Rel.dct {K : PySem.W.Frag} {S : Sto} {F H : Hp} {a : Addr} {kvs : List (D × D)} (r : Rel K S F H) (h : S a = some (.dct kvs)) : ∃ ws, H a = some (.dK ws) ∧ RK K H kvs ws := r.cell a _ h
theorem Rel.newLst {K : PySem.W.Frag} {S : Sto} {F H : Hp} {l : List D} {vs : List V} {p : Addr} (r : Rel K S F H) (e : H p = none) (h : RDs K H l vs) : Rel K (S.upd p (.lst l)) F (L2.upd H p (.lst vs)) :=
  r.new e ⟨vs, upd_same, h.ext (.new e)⟩
theorem Rel.setLst {K : PySem.W.Frag} {S : Sto} {F H : Hp} {l m : List D} {vs ws : List V} {p : Addr} (r : Rel K S F H) (h : S p = some (.lst l)) (hH : H p = some (.lst vs)) (hm : RDs K H m ws) :
    Ext H (L2.upd H p (.lst ws)) ∧ Rel K (S.upd p (.lst m)) F (L2.upd H p (.lst ws)) := by
  have x : Ext H (L2.upd H p (.lst ws)) := .write hH (fun _ z => nomatch z) fun _ _ z => nomatch z
  exact ⟨x, r.write h x ⟨ws, upd_same, hm.ext x⟩⟩
theorem Inv.laidT {X : Cx} {pins : List (Addr × Obj)} {σ : L2.St} {H : Hp} {s : Shared} {xs : List V} {us : List Value} {h' : Heap} {t' : Nat} (I : L2.Inv X pins σ H s) (k : ∀ b u, s.heap.get? b = some u → h'.get? b = some u) {p : Addr} (hp : s.heap.objs.size ≤ p)
    (e : h'.get? p = some { cls := .type "tuple", data := .seq us.toArray }) (r : Vals xs us) (z : xs.length ≤ sizeLine) :
    L2.Inv X pins σ (L2.upd H p (.frz { cls := .type "tuple", data := .seq us.toArray } (.tup xs))) { s with heap := h', toks := t' } :=
  I.laid k hp (show ObjOk X.prog X.w _ _ _ (.frz _ (.tup xs)) from ⟨e, z, us, r, ⟨_, e, rfl, _, rfl⟩⟩)
section
variable {X : Cx} {es : List PySem.Expr} {t : TA} {pos : Pos}
def NewT (xs : List V) (H : Hp) (Q : VK) : Prop := ∀ p o, H p = none → Obj.dict o = none → Q (.ref p) (L2.upd H p (.frz o (.tup xs)))
def tTupF (t : TA) : TE := fun σ H Q => t σ H fun xs H1 => xs.length ≤ sizeLine ∧ NewT xs H1 Q
theorem pe_tupF {x1} (h : PA X es t) : PE X (.Tuple es x1 pos) (tTupF t) := by
  refine ⟨fun pins s σ H Q I hq => ?_⟩
  refine wpAny_Tuple_spliced (thn (h.run pos pins s σ H _ I hq) fun us s1 ⟨xs, H1, I1, r, z, q⟩ => ⟨by rw [← r.length]; exact z, ?_⟩)
  exact ⟨.ref s1.heap.objs.size, _, Inv.laidT (t' := s1.toks) I1 (fun b u e => Heap.get?_push_of_some _ e) (Nat.le_refl _) (Heap.get?_push_size _ rfl) r z, rfl, q _ _ (I1.hok.fresh (Nat.le_refl _)) rfl⟩
def rCatF (K : PySem.W.Frag) : R2 := fun x y H Q => ∃ a b xs ys, x = .ref a ∧ y = .ref b ∧ SqT K H a xs ∧ SqT K H b ys ∧ xs.length + ys.length ≤ sizeLine ∧
  (xs = [] → Q (.ref b) H) ∧ (xs ≠ [] → ys = [] → Q (.ref a) H) ∧ NewT (xs ++ ys) H Q
theorem op_catF : OpR X (binaryOp .Add) (rCatF X.K) := by
  intro pins s σ H x y v u Q I rx ry h
  obtain ⟨a, b, xs, ys, rfl, rfl, ha, hb, hz, q0, q1, q2⟩ := h
  cases rx
  cases ry
  obtain ⟨its, r1, p1, _⟩ := I.tuple ha
  obtain ⟨its2, r2, p2, _⟩ := I.tuple hb
  by_cases hx : xs = []
  · subst hx
    cases r1
    exact cat_tup0 p1 p2 ⟨.ref b, H, I, rfl, q0 rfl⟩
  · refine HT.cat_tup p1 p2 (fun z => hx (r1.nil_iff.mp z)) (fun z => ⟨.ref a, H, I, rfl, q1 hx (r2.nil_iff.mp z)⟩) (fun z => ?_) (by rw [← r1.length, ← r2.length]; exact hz)
    exact ⟨.ref s.heap.objs.size, _, Inv.laidT (t' := s.toks) I (fun b ob q => Heap.get?_push_of_some _ q) (Nat.le_refl _) (Heap.get?_push_size _ rfl) (r1.append r2) (by rw [List.length_append]; exact hz), rfl, q2 _ _ (I.hok.fresh (Nat.le_refl _)) rfl⟩
def rSlF (K : PySem.W.Frag) : V → Option Int → Option Int → Hp → VK → Prop := fun x lo hi H Q => ∃ a xs, x = .ref a ∧ SqT K H a xs ∧
  (HT.sIx xs.length 0 lo = 0 ∧ HT.sIx xs.length xs.length hi = xs.length → Q (.ref a) H) ∧ NewT (cutV xs lo hi) H Q
theorem sl_tupF : SlR X (rSlF X.K) := by
  intro pins s σ H x v vl vu lo hi sl Q I rx hs pl pu h
  obtain ⟨a, xs, rfl, hx, q1, q2⟩ := h
  by_cases hw : HT.sIx xs.length 0 lo = 0 ∧ HT.sIx xs.length xs.length hi = xs.length
  · exact sl_tupA pins s σ H _ v vl vu lo hi sl Q I rx hs pl pu ⟨a, xs, rfl, hx, q1, fun z => absurd hw z⟩
  · cases rx
    obtain ⟨its, r, ht, hz⟩ := I.tuple hx
    have hlen : its.toArray.size = xs.length := by rw [List.size_toArray]; exact r.length.symm
    refine ⟨"tuple", _, PyProof.Rows.slot_tuple_getitem.lookup, ht.typeIs, ?_⟩
    refine HT.getItem_tuple_cut ht hs pl pu (by rw [hlen]; exact hw) ?_ (by rw [hlen]; exact hz)
    rw [hlen]
    exact ⟨.ref s.heap.objs.size, _, Inv.laidT (t' := s.toks) I (fun b ob q => Heap.get?_push_of_some _ q) (Nat.le_refl _) (Heap.get?_push_size _ rfl) ((r.drop (HT.sIx xs.length 0 lo)).take (HT.sIx xs.length xs.length hi - HT.sIx xs.length 0 lo)) (Nat.le_trans (cutV_length xs lo hi) hz), rfl, q2 _ _ (I.hok.fresh (Nat.le_refl _)) rfl⟩
theorem call_tupleF : CallR X (.type "tuple") (fun xs H Q => ∃ p ys, xs = [.ref p] ∧ SqL X.K H p ys ∧ NewT ys H Q) := by
  intro pins s σ H xs us Q I r h
  obtain ⟨p, ys, rfl, hq, q⟩ := h
  obtain ⟨u, rfl, rx⟩ := vals1 r
  cases rx
  obtain ⟨its, r', pl, hz⟩ := I.list hq
  have hlen := r'.length
  refine call_tuple_list pl.isList (fun h' kp => ?_) (by simp only [List.size_toArray] <;> omega)
  have I1 : L2.Inv X pins σ H { s with heap := h' } := I.kept (t' := s.toks) kp
  exact ⟨.ref h'.objs.size, _, Inv.laidT (t' := s.toks) I1 (fun b o e => Heap.get?_push_of_some _ e) (Nat.le_refl _) (Heap.get?_push_size _ rfl) r' hz, rfl, q _ _ (I1.hok.fresh (Nat.le_refl _)) rfl⟩
end
variable {X : Cx}
def opO : Op → Operator
  | .add => .Add | .sub => .Sub | .mul => .Mult | .fdiv => .FloorDiv | .mod => .Mod | .pow => .Pow
theorem opOf_opO {o : Operator} {p : Op} (h : opOf o = some p) : o = opO p := by
  cases o <;> simp only [opOf, Option.some.injEq, reduceCtorEq] at h <;> subst h <;> rfl
theorem intint {C : Int → Int → Prop} {f : Value → Value → Sem Value} {g : Int → Int → V} {w : D → D → Sto → KD → Prop} (h : OpR X f (rI C g))
    (hw : ∀ d e S Q, w d e S Q → ∃ i j r, d = .int i ∧ e = .int j ∧ C i j ∧ Q r S ∧ ∀ H, RD X.K H r (g i j)) : OpR X f (LO X.K w) := by
  refine opR_imp h fun x y H Q ⟨d, e, S, F, Qd, rel, rd, re, hq, kv⟩ => ?_
  obtain ⟨i, j, r, rfl, rfl, hc, q, hr⟩ := hw d e S Qd hq
  exact ⟨i, j, rd.inti, re.inti, hc, kv _ _ _ _ q .refl rel (hr H)⟩
theorem intint0 {f : Value → Value → Sem Value} {g : Int → Int → V} {w : D → D → Sto → KD → Prop} (h : OpR X f (rI0 g))
    (hw : ∀ d e S Q, w d e S Q → ∃ i j r, d = .int i ∧ e = .int j ∧ Q r S ∧ ∀ H, RD X.K H r (g i j)) : OpR X f (LO X.K w) := by
  refine opR_imp h fun x y H Q ⟨d, e, S, F, Qd, rel, rd, re, hq, kv⟩ => ?_
  obtain ⟨i, j, r, rfl, rfl, q, hr⟩ := hw d e S Qd hq
  exact ⟨i, j, rd.inti, re.inti, kv _ _ _ _ q .refl rel (hr H)⟩
theorem rdInt {K : PySem.W.Frag} {i : Int} : ∀ H, RD K H (.int i) (.int i) := fun _ => .int
theorem RDs.nil_of {K : PySem.W.Frag} {H : Hp} {l : List D} (h : RDs K H l []) : l = [] := List.eq_nil_of_length_eq_zero h.length.symm
theorem add_sound : OpR X (binaryOp .Add) (LO X.K (opR .add)) := by
  intro pins s σ H x y v u Q I rx ry ⟨d, e, S, F, Qd, rel, rd, re, hq, kv⟩
  cases d <;> cases e <;> simp only [opR] at hq
  case int.int i j => exact op_add pins s σ H x y v u Q I rx ry ⟨i, j, rd.inti, re.inti, kv _ _ _ _ hq .refl rel .int⟩
  case str.str a b => exact op_add_str pins s σ H x y v u Q I rx ry ⟨a, b, rd.stri.1, re.stri.1, hq.1, kv _ _ _ _ hq.2 .refl rel (.str (strOk_append rd.stri.2 re.stri.2))⟩
  case tup.tup l m =>
    obtain ⟨a, vs, ea, ha, hl⟩ := rd.tupk
    obtain ⟨b, ws, eb, hb, hm⟩ := re.tupk
    refine op_catF pins s σ H x y v u Q I rx ry ⟨a, b, vs, ws, ea, eb, ha.sq, hb.sq, by rw [hl.length, hm.length]; exact hq.1, fun h0 => ?_, fun h0 h1 => ?_, fun p o hp ho => ?_⟩
    · subst h0
      obtain rfl := hl.nil_of
      exact kv _ _ _ _ hq.2 .refl rel (.tup hb hm)
    · subst h1
      obtain rfl := hm.nil_of
      rw [List.append_nil] at hq
      exact kv _ _ _ _ hq.2 .refl rel (.tup ha hl)
    · exact kv _ _ _ _ hq.2 (.new hp) (rel.tup hp) (.tupNew hp ho (hl.append hm))
  case ref.ref a b =>
    split at hq
    case h_1 l m h1 h2 =>
      obtain ⟨vs, e1, r1⟩ := rel.lst h1
      obtain ⟨ws, e2, r2⟩ := rel.lst h2
      refine op_cat pins s σ H x y v u Q I rx ry ⟨a, b, vs, ws, rd.refi, re.refi, e1, e2, by rw [r1.length, r2.length]; exact hq.1, fun p hp => ?_⟩
      exact kv _ _ _ _ (hq.2 p (rel.free hp)) (.new hp) (rel.newLst hp (r1.append r2)) .ref
    case h_2 => exact hq.elim
theorem sub_sound : OpR X (binaryOp .Sub) (LO X.K (opR .sub)) := intint0 op_sub fun d e S Q h => by
  cases d <;> cases e <;> simp only [opR] at h
  exact ⟨_, _, _, rfl, rfl, h, rdInt⟩
theorem fdiv_sound : OpR X (binaryOp .FloorDiv) (LO X.K (opR .fdiv)) := intint op_fdivW fun d e S Q h => by
  cases d <;> cases e <;> simp only [opR] at h
  exact ⟨_, _, _, rfl, rfl, h.1, h.2, rdInt⟩
theorem mod_sound : OpR X (binaryOp .Mod) (LO X.K (opR .mod)) := intint op_mod fun d e S Q h => by
  cases d <;> cases e <;> simp only [opR] at h
  exact ⟨_, _, _, rfl, rfl, h.1, h.2, rdInt⟩
theorem pow_sound : OpR X (binaryOp .Pow) (LO X.K (opR .pow)) := intint op_pow fun d e S Q h => by
  cases d <;> cases e <;> simp only [opR] at h
  exact ⟨_, _, _, rfl, rfl, h.1, h.2, rdInt⟩
theorem mul_sound : OpR X (binaryOp .Mult) (LO X.K (opR .mul)) := intint op_mulW fun d e S Q h => by
  cases d <;> cases e <;> simp only [opR] at h
  exact ⟨_, _, _, rfl, rfl, h.1, h.2, rdInt⟩
theorem op_sound : ∀ o : Op, OpR X (binaryOp (opO o)) (LO X.K (opR o))
  | .add => add_sound | .sub => sub_sound | .mul => mul_sound | .fdiv => fdiv_sound | .mod => mod_sound | .pow => pow_sound
theorem inplace_eq {o : Op} : True := trivial
end Mi
namespace Mi
open PySem PySem.Spec PyProof.Rows L2
variable {X : Cx}
mutual
theorem RD.dp {K : PySem.W.Frag} {H : Hp} : ∀ (d : D) (v : V), D.pure d = true → RD K H d v → Dp K H v (D.py d) ∧ (D.py d).canLay0 = true
  | .non, v, _, h => by rw [h.noni]; exact ⟨.non, rfl⟩
  | .bl b, v, _, h => by rw [h.bli]; exact ⟨.bl b, rfl⟩
  | .int i, v, _, h => by rw [h.inti]; exact ⟨.int i, rfl⟩
  | .str s, v, _, h => by
    obtain ⟨e, ok⟩ := h.stri
    rw [e]; exact ⟨.str s, ok⟩
  | .ref a, v, p, _ => by simp [D.pure] at p
  | .tup l, v, p, h => by
    obtain ⟨a, vs, e, hs, hl⟩ := h.tupi
    rw [D.pure] at p
    have q := RDs.dp l vs p hl
    rw [e]
    exact ⟨.tup hs q.1, q.2⟩
theorem RDs.dp {K : PySem.W.Frag} {H : Hp} : ∀ (l : List D) (vs : List V), D.pures l = true → RDs K H l vs → DpAll K H vs (D.pys l) ∧ PyData.canLayAll0 (D.pys l) = true
  | [], vs, _, h => by rw [RDs] at h; rw [h]; exact ⟨.nil, rfl⟩
  | d :: l, vs, p, h => by
    rw [RDs] at h
    obtain ⟨v, r, e, h1, h2⟩ := h
    rw [D.pures, Bool.and_eq_true] at p
    have q1 := RD.dp d v p.1 h1
    have q2 := RDs.dp l r p.2 h2
    rw [e]
    refine ⟨.cons q1.1 q2.1, ?_⟩
    show (PyData.canLay0 _ && PyData.canLayAll0 _) = true
    rw [q1.2, q2.2]; rfl
end
def asL : Bool → PyData → PyData
  | true, .tuple l => .list l
  | _, p => p
def LB (K : PySem.W.Frag) (w : D → D → Sto → (Bool → Prop) → Prop) : R2 := fun x y H Q => ∃ d e S F Qb, Rel K S F H ∧ RD K H d x ∧ RD K H e y ∧ w d e S Qb ∧ ∀ b, Qb b → Q (.bl b) H
theorem plain_dp {K : PySem.W.Frag} {S : Sto} {F H : Hp} {d x : D} {v : V} {b : Bool} (rel : Rel K S F H) (rd : RD K H d v) (h : plainR S d = some (b, x)) :
    ∃ p : PyData, Dp K H v p ∧ p.canLay0 = true ∧ D.pure x = true ∧ p = asL b (D.py x) ∧ (b = true → ∃ l, x = .tup l) := by
  cases d with
  | ref a =>
    have e := rd.refi
    unfold plainR at h
    simp only at h
    split at h
    case h_1 l hl =>
      split at h
      case isTrue hp =>
        cases h
        obtain ⟨vs, h1, h2⟩ := rel.lst hl
        have q := RDs.dp l vs hp h2
        rw [e]
        exact ⟨.list (D.pys l), .lst (.inl (.inl h1)) q.1, q.2, hp, rfl, fun _ => ⟨l, rfl⟩⟩
      case isFalse => cases h
    case h_2 l hl =>
      split at h
      case isTrue hp =>
        cases h
        obtain ⟨o, vs, h1, h2⟩ := rel.rls hl
        have q := RDs.dp l vs hp h2
        rw [e]
        exact ⟨.list (D.pys l), .lst (.inl (.inr ⟨o, h1⟩)) q.1, q.2, hp, rfl, fun _ => ⟨l, rfl⟩⟩
      case isFalse => cases h
    case h_3 => cases h
  | _ =>
    unfold plainR at h
    simp only at h
    split at h
    case isTrue hp =>
      cases h
      have q := RD.dp _ v hp rd
      exact ⟨_, q.1, q.2, hp, rfl, fun z => nomatch z⟩
    case isFalse => cases h
theorem depth_list (l : List PyData) : (PyData.list l).depth = (PyData.tuple l).depth := by simp [PyData.depth]
theorem eqv_kinds {b c : Bool} {x y : D} {p q : PyData} (hx : D.pure x = true) (hy : D.pure y = true) (ep : p = asL b (D.py x)) (eq : q = asL c (D.py y))
    (lb : b = true → ∃ l, x = .tup l) (lc : c = true → ∃ l, y = .tup l) : PyData.eqv p q = (b == c && D.eqv x y) ∧ p.depth = x.dep ∧ q.depth = y.dep := by
  have dx := D.dep_py x
  have dy := D.dep_py y
  have e := D.eqv_py x y hx hy
  cases b <;> cases c
  · subst ep eq
    simp only [asL]
    exact ⟨by rw [e]; simp, dx, dy⟩
  · obtain ⟨m, rfl⟩ := lc rfl
    subst ep eq
    simp only [D.py, asL] at dx dy e ⊢
    refine ⟨?_, dx, by rw [depth_list]; exact dy⟩
    cases x <;> simp [D.pure] at hx <;> simp [D.py, PyData.eqv]
  · obtain ⟨m, rfl⟩ := lb rfl
    subst ep eq
    simp only [D.py, asL] at dx dy e ⊢
    refine ⟨?_, by rw [depth_list]; exact dx, dy⟩
    cases y <;> simp [D.pure] at hy <;> simp [D.py, PyData.eqv]
  · obtain ⟨l, rfl⟩ := lb rfl
    obtain ⟨m, rfl⟩ := lc rfl
    subst ep eq
    simp only [D.py, asL] at dx dy e ⊢
    refine ⟨?_, by rw [depth_list]; exact dx, by rw [depth_list]; exact dy⟩
    simp only [PyData.eqv] at e ⊢
    rw [e]; simp
theorem eq_sound (hu : X.A.units + 64 < cLine) : OpR X (compareOp .Eq) (LB X.K eqR) := by
  intro pins s σ H x y v u Q I rx ry ⟨d, e, S, F, Qb, rel, rd, re, hq, kv⟩
  unfold eqR at hq
  split at hq
  case h_1 b x' c y' h1 h2 =>
    obtain ⟨p, dp, cp, px, ep, lp⟩ := plain_dp rel rd h1
    obtain ⟨q, dq, cq, py', eq', lq⟩ := plain_dp rel re h2
    obtain ⟨e1, e2, e3⟩ := eqv_kinds px py' ep eq' lp lq
    obtain ⟨as, r1⟩ := Dp.reads I p x v dp rx
    obtain ⟨bs, r2⟩ := Dp.reads I q y u dq ry
    refine SeqAt.compareEq_reads r1 r2 cp cq (by rw [e2, e3]; have := hq.1; omega) ⟨.bl _, H, I, rfl, ?_⟩
    rw [e1]; exact kv _ hq.2
  case h_2 => exact hq.elim
theorem ne_sound (hu : X.A.units + 64 < cLine) : OpR X (compareOp .NotEq) (LB X.K fun x y S Q => eqR x y S fun b => Q (!b)) := by
  intro pins s σ H x y v u Q I rx ry ⟨d, e, S, F, Qb, rel, rd, re, hq, kv⟩
  have hq : eqR d e S fun b => Qb (!b) := hq
  unfold eqR at hq
  split at hq
  case h_1 b x' c y' h1 h2 =>
    obtain ⟨p, dp, cp, px, ep, lp⟩ := plain_dp rel rd h1
    obtain ⟨q, dq, cq, py', eq', lq⟩ := plain_dp rel re h2
    obtain ⟨e1, e2, e3⟩ := eqv_kinds px py' ep eq' lp lq
    obtain ⟨as, r1⟩ := Dp.reads I p x v dp rx
    obtain ⟨bs, r2⟩ := Dp.reads I q y u dq ry
    refine SeqAt.compareNe_reads r1 r2 cp cq (by rw [e2, e3]; have := hq.1; omega) ⟨.bl _, H, I, rfl, ?_⟩
    rw [e1]; exact kv _ hq.2
  case h_2 => exact hq.elim
end Mi
namespace Mi
open PySem PySem.Spec PyProof.Rows L2
variable {X : Cx}
theorem intcmp {op : CmpOp} {g : Int → Int → Bool} {w : D → D → Sto → (Bool → Prop) → Prop} (h : OpR X (compareOp op) (rI0 fun i j => .bl (g i j)))
    (hw : ∀ d e S Q, w d e S Q → ∃ i j, d = .int i ∧ e = .int j ∧ Q (g i j)) : OpR X (compareOp op) (LB X.K w) := by
  refine opR_imp h fun x y H Q ⟨d, e, S, F, Qb, rel, rd, re, hq, kv⟩ => ?_
  obtain ⟨i, j, rfl, rfl, q⟩ := hw d e S Qb hq
  exact ⟨i, j, rd.inti, re.inti, kv _ q⟩
theorem is_bool_gen {v : V} {u : Value} {b : Bool} {E : Value → Shared → Prop} {s : Shared} {Q : Value → Shared → Prop} {M : Model} {A : Around} (r : RelV v u) (h : Q (.bool (decide (v = .bl b))) s) : wpAny M A (compareOp .Is u (.bool b)) Q E s := by
  cases v with
  | bl c =>
    cases r
    by_cases e : c = b
    · subst e; exact wpAny_is_self rfl (by simpa using h)
    · exact wpAny_is_other rfl (fun z => e (Value.bool.inj z)) (by simpa [e] using h)
  | non => cases r; exact wpAny_is_other rfl (fun z => nomatch z) (by simpa using h)
  | int i => obtain ⟨t, rfl⟩ := r; exact wpAny_is_other rfl (fun z => nomatch z) (by simpa using h)
  | str i => obtain ⟨t, rfl⟩ := r; exact wpAny_is_other rfl (fun z => nomatch z) (by simpa using h)
  | byt i => obtain ⟨t, rfl⟩ := r; exact wpAny_is_other rfl (fun z => nomatch z) (by simpa using h)
  | flt i => obtain ⟨t, rfl⟩ := r; exact wpAny_is_other rfl (fun z => nomatch z) (by simpa using h)
  | ref a => cases r; exact wpAny_is_other rfl (fun z => nomatch z) (by simpa using h)
  | ty n => cases r; exact wpAny_is_other rfl (fun z => nomatch z) (by simpa using h)
end Mi
namespace Mi
open PySem PySem.Spec PyProof.Rows L2
variable {X : Cx}
section
variable {K : PySem.W.Frag} {H : Hp}
theorem flat_of {d : D} {v : V} (h : flatD d = true) (r : RD K H d v) : flatV v = true := by
  cases d with
  | non => rw [r.noni]; rfl
  | bl b => rw [r.bli]; rfl
  | int i => rw [r.inti]; rfl
  | str s => rw [r.stri.1]; rfl
  | tup l => simp [flatD] at h
  | ref a => simp [flatD] at h
  | rl l => simp [flatD] at h
theorem eqV_of {d e : D} {v w : V} (hd : flatD d = true) (he : flatD e = true) (r : RD K H d v) (q : RD K H e w) : eqV v w = D.eqv d e := by
  cases d <;> simp only [flatD, Bool.false_eq_true] at hd <;> cases e <;> simp only [flatD, Bool.false_eq_true] at he <;>
    (first | rw [r.noni] | rw [r.bli] | rw [r.inti] | rw [r.stri.1]) <;> (first | rw [q.noni] | rw [q.bli] | rw [q.inti] | rw [q.stri.1]) <;> simp [eqV, D.eqv]
theorem all_flat : ∀ {l : List D} {vs : List V}, l.all flatD = true → RDs K H l vs → vs.all flatV = true
  | [], vs, _, h => by rw [RDs] at h; rw [h]; rfl
  | d :: l, vs, p, h => by
    rw [RDs] at h
    obtain ⟨v, r, e, h1, h2⟩ := h
    rw [List.all_cons, Bool.and_eq_true] at p
    rw [e, List.all_cons, flat_of p.1 h1, all_flat p.2 h2]; rfl
theorem inV_of {x : D} {xv : V} (hx : flatD x = true) (rx : RD K H x xv) : ∀ {l : List D} {vs : List V}, l.all flatD = true → RDs K H l vs → inV xv vs = inD x l
  | [], vs, _, h => by rw [RDs] at h; rw [h]; rfl
  | d :: l, vs, p, h => by
    rw [RDs] at h
    obtain ⟨v, r, e, h1, h2⟩ := h
    rw [List.all_cons, Bool.and_eq_true] at p
    rw [e]
    show (eqV v xv || inV xv r) = (D.eqv d x || inD x l)
    rw [eqV_of p.1 hx h1 rx, inV_of hx rx p.2 h2]
theorem keyD_kV {d : D} {k : Key} {v : V} (h : keyD d = some k) (r : RD K H d v) : v = kV k := by
  cases d with
  | int i => simp only [keyD, Option.some.injEq] at h; subst h; exact r.inti
  | str s => simp only [keyD, Option.some.injEq] at h; subst h; exact r.stri.1
  | _ => simp [keyD] at h
theorem keyD_inj {d e : D} {k : Key} (h : keyD d = some k) (g : keyD e = some k) : d = e := by
  cases d <;> simp only [keyD, Option.some.injEq, reduceCtorEq] at h <;> cases e <;> simp only [keyD, Option.some.injEq, reduceCtorEq] at g <;> subst h <;> cases g <;> rfl
theorem keyD_eq {d e : D} {k j : Key} (h : keyD d = some k) (g : keyD e = some j) : (k = j) ↔ (d = e) :=
  ⟨fun z => by subst z; exact keyD_inj h g, fun z => by subst z; rw [h] at g; exact Option.some.inj g⟩
theorem RK.get {k : D} {k' : Key} (hk : keyD k = some k') : ∀ {kvs : List (D × D)} {ws : List (Key × V)}, RK K H kvs ws →
    (∀ d, dget kvs k = some d → ∃ v, valV ws k' = some v ∧ RD K H d v) ∧ (dget kvs k = none → valV ws k' = none)
  | [], ws, h => by
    rw [RK] at h; subst h
    exact ⟨fun d e => by simp [dget] at e, fun _ => rfl⟩
  | (j, d) :: l, ws, h => by
    rw [RK] at h
    obtain ⟨j', v, r, e, hj, h1, h2⟩ := h
    subst e
    have ih := RK.get hk h2
    by_cases hjk : j = k
    · have e' : j' = k' := (keyD_eq hj hk).mpr hjk
      have e1 : dget ((j, d) :: l) k = some d := by simp [dget, hjk]
      have e2 : valV ((j', v) :: r) k' = some v := valV_pos e'
      rw [e1, e2]
      exact ⟨fun x z => by cases z; exact ⟨v, rfl, h1⟩, fun z => by cases z⟩
    · have e' : ¬ j' = k' := fun z => hjk ((keyD_eq hj hk).mp z)
      have e1 : dget ((j, d) :: l) k = dget l k := by simp [dget, List.find?_cons, hjk]
      have e2 : valV ((j', v) :: r) k' = valV r k' := valV_neg e'
      rw [e1, e2]
      exact ih
theorem RK.isSome {k : D} {k' : Key} (hk : keyD k = some k') {kvs : List (D × D)} {ws : List (Key × V)} (h : RK K H kvs ws) : (valV ws k').isSome = (dget kvs k).isSome := by
  have q := RK.get hk h
  cases e : dget kvs k with
  | none => rw [q.2 e]; rfl
  | some d => obtain ⟨v, e', _⟩ := q.1 d e; rw [e']; rfl
theorem RK.length : ∀ {kvs : List (D × D)} {ws : List (Key × V)}, RK K H kvs ws → ws.length = kvs.length
  | [], ws, h => by rw [RK] at h; rw [h]; rfl
  | (j, d) :: l, ws, h => by
    rw [RK] at h
    obtain ⟨j', v, r, e, hj, h1, h2⟩ := h
    rw [e, List.length_cons, List.length_cons, RK.length h2]
theorem RK.any {k : D} {k' : Key} (hk : keyD k = some k') : ∀ {kvs : List (D × D)} {ws : List (Key × V)}, RK K H kvs ws → (ws.any fun kv => decide (kv.1 = k')) = (kvs.any fun kv => decide (kv.1 = k))
  | [], ws, h => by rw [RK] at h; rw [h]; rfl
  | (j, d) :: l, ws, h => by
    rw [RK] at h
    obtain ⟨j', v, r, e, hj, h1, h2⟩ := h
    subst e
    rw [List.any_cons, List.any_cons, RK.any hk h2]
    congr 1
    exact decide_eq_decide.mpr (keyD_eq hj hk)
theorem RK.map {k d : D} {k' : Key} {v : V} (hk : keyD k = some k') (hd : RD K H d v) : ∀ {kvs : List (D × D)} {ws : List (Key × V)}, RK K H kvs ws →
    RK K H (kvs.map fun kv => if kv.1 = k then (kv.1, d) else kv) (ws.map fun kv => if kv.1 = k' then (kv.1, v) else kv)
  | [], ws, h => by rw [RK] at h; subst h; rw [List.map_nil, List.map_nil, RK]
  | (j, x) :: l, ws, h => by
    rw [RK] at h
    obtain ⟨j', y, r, e, hj, h1, h2⟩ := h
    subst e
    have ih := RK.map hk hd h2
    rw [List.map_cons, List.map_cons]
    by_cases hjk : j = k
    · have e' : j' = k' := (keyD_eq hj hk).mpr hjk
      simp only [hjk, e', if_true]
      rw [RK]
      exact ⟨k', v, _, rfl, hk, hd, ih⟩
    · have e' : ¬ j' = k' := fun z => hjk ((keyD_eq hj hk).mp z)
      simp only [hjk, e', if_false]
      rw [RK]
      exact ⟨j', y, _, rfl, hj, h1, ih⟩
theorem RK.snoc {k d : D} {k' : Key} {v : V} (hk : keyD k = some k') (hd : RD K H d v) : ∀ {kvs : List (D × D)} {ws : List (Key × V)}, RK K H kvs ws → RK K H (kvs ++ [(k, d)]) (ws ++ [(k', v)])
  | [], ws, h => by
    rw [RK] at h; subst h
    show RK K H [(k, d)] [(k', v)]
    rw [RK]
    exact ⟨k', v, [], rfl, hk, hd, by rw [RK]⟩
  | (j, x) :: l, ws, h => by
    rw [RK] at h
    obtain ⟨j', y, r, e, hj, h1, h2⟩ := h
    subst e
    show RK K H ((j, x) :: (l ++ [(k, d)])) ((j', y) :: (r ++ [(k', v)]))
    rw [RK]
    exact ⟨j', y, _, rfl, hj, h1, RK.snoc hk hd h2⟩
theorem RK.put {k d : D} {k' : Key} {v : V} (hk : keyD k = some k') (hd : RD K H d v) {kvs : List (D × D)} {ws : List (Key × V)} (h : RK K H kvs ws) : RK K H (dput kvs k d) (putK ws k' v) := by
  unfold dput putK
  rw [RK.any hk h]
  split
  · exact RK.map hk hd h
  · exact RK.snoc hk hd h
theorem Rel.setDct {S : Sto} {F : Hp} {l m : List (D × D)} {vs ws : List (Key × V)} {p : Addr} (r : Rel K S F H) (h : S p = some (.dct l)) (hH : H p = some (.dK vs)) (hm : RK K H m ws) :
    Ext H (L2.upd H p (.dK ws)) ∧ Rel K (S.upd p (.dct m)) F (L2.upd H p (.dK ws)) := by
  have x : Ext H (L2.upd H p (.dK ws)) := .write hH (fun _ z => nomatch z) fun _ _ z => nomatch z
  exact ⟨x, r.write h x ⟨ws, upd_same, hm.ext x⟩⟩
end
theorem in_gen (hu : X.A.units + 1 < cLine) (neg : Bool) {op : CmpOp} (hop : op = (if neg then .NotIn else .In)) : OpR X (compareOp op) (LB X.K fun x y S Q => inR x y S fun b => Q (if neg then !b else b)) := by
  intro pins s σ H x y v u Q I rx ry ⟨d, e, S, F, Qb, rel, rd, re, hq, kv⟩
  have hq : inR d e S fun b => Qb (if neg then !b else b) := hq
  cases e with
  | tup l =>
    obtain ⟨f1, f2, q⟩ := hq
    obtain ⟨a, vs, ea, ha, hl⟩ := re.tupi
    have g := kv _ q
    rw [← inV_of f1 rd f2 hl] at g
    cases neg with
    | false => subst hop; exact op_in_seq pins s σ H x y v u Q I rx ry ⟨a, vs, ea, .inr ha, flat_of f1 rd, all_flat f2 hl, g⟩
    | true => subst hop; exact op_notIn_seq pins s σ H x y v u Q I rx ry ⟨a, vs, ea, .inr ha, flat_of f1 rd, all_flat f2 hl, g⟩
  | str t =>
    cases d with
    | str z =>
      have g := kv _ hq
      cases neg with
      | false => subst hop; exact op_in_str pins s σ H x y v u Q I rx ry ⟨z, t, rd.stri.1, re.stri.1, g⟩
      | true => subst hop; exact op_notIn_str pins s σ H x y v u Q I rx ry ⟨z, t, rd.stri.1, re.stri.1, g⟩
    | _ => exact (show False from hq).elim
  | ref a =>
    unfold inR at hq
    simp only at hq
    split at hq
    case h_1 l hl =>
      obtain ⟨f1, f2, q⟩ := hq
      obtain ⟨vs, h1, h2⟩ := rel.lst hl
      have g := kv _ q
      rw [← inV_of f1 rd f2 h2] at g
      cases neg with
      | false => subst hop; exact op_in_seq pins s σ H x y v u Q I rx ry ⟨a, vs, re.refi, .inl (.of h1), flat_of f1 rd, all_flat f2 h2, g⟩
      | true => subst hop; exact op_notIn_seq pins s σ H x y v u Q I rx ry ⟨a, vs, re.refi, .inl (.of h1), flat_of f1 rd, all_flat f2 h2, g⟩
    case h_2 kvs hl =>
      obtain ⟨f1, q⟩ := hq
      obtain ⟨ws, h1, h2⟩ := rel.dct hl
      obtain ⟨k', hk⟩ := Option.isSome_iff_exists.mp (show (keyD d).isSome = true from f1)
      have g := kv _ q
      rw [← RK.isSome hk h2] at g
      have ey := re.refi
      subst ey
      obtain rfl : u = Value.ref a := ry
      have ex := keyD_kV hk rd
      subst ex
      cases neg with
      | false => subst hop; exact d_in hu I (DGet.k h1) rx fun s' I' => ⟨.bl _, H, I', rfl, g⟩
      | true => subst hop; exact d_notIn hu I (DGet.k h1) rx fun s' I' => ⟨.bl _, H, I', rfl, g⟩
    case h_3 => exact hq.elim
  | _ => exact (show False from hq).elim
theorem is_gen (neg : Bool) {op : CmpOp} (hop : op = (if neg then .IsNot else .Is)) : OpR X (compareOp op) (LB X.K fun x y S Q => isR x y fun b => Q (if neg then !b else b)) := by
  intro pins s σ H x y v u Q I rx ry ⟨d, e, S, F, Qb, rel, rd, re, hq, kv⟩
  have hq : isR d e fun b => Qb (if neg then !b else b) := hq
  cases e with
  | bl b =>
    have ey := re.bli
    subst ey
    obtain rfl : u = Value.bool b := ry
    have g : Qb (if neg then !(decide (x = .bl b)) else decide (x = .bl b)) := by
      cases d <;> simp only [isR] at hq
      case bl c => rw [rd.bli]; simpa [Bool.beq_eq_decide_eq] using hq
      case non => rw [rd.noni]; simpa using hq
      case int i => rw [rd.inti]; simpa using hq
      case str i => rw [rd.stri.1]; simpa using hq
      case tup i => obtain ⟨a, vs, e, _⟩ := rd.tupi; rw [e]; simpa using hq
      case ref i => rw [rd.refi]; simpa using hq
      case rl i => obtain ⟨a, vs, e, _⟩ := rd.rli; rw [e]; simpa using hq
    cases neg with
    | false => subst hop; exact is_bool_gen rx ⟨.bl _, H, I, rfl, kv _ g⟩
    | true =>
      subst hop
      cases hx : decide (x = V.bl b) with
      | true =>
        rw [hx] at g
        have e := of_decide_eq_true hx
        subst e
        obtain rfl : v = Value.bool b := rx
        exact wpAny_isNot_self rfl ⟨.bl _, H, I, rfl, kv _ g⟩
      | false =>
        rw [hx] at g
        have e := of_decide_eq_false hx
        refine wpAny_isNot_other (by rcases x with _ | _ | _ | _ | _ | _ | _ | _ <;> first | (cases rx; rfl) | (obtain ⟨t, rfl⟩ := rx; rfl)) (fun z => ?_) ⟨.bl _, H, I, rfl, kv _ g⟩
        subst z
        exact e (rx.inj (show RelV (V.bl b) (Value.bool b) from rfl))
  | non =>
    have ey := re.noni
    subst ey
    have g : Qb (if neg then !(decide (x = .non)) else decide (x = .non)) := by
      cases d <;> simp only [isR] at hq
      case bl c => rw [rd.bli]; simpa using hq
      case non => rw [rd.noni]; simpa using hq
      case int i => rw [rd.inti]; simpa using hq
      case str i => rw [rd.stri.1]; simpa using hq
      case tup i => obtain ⟨a, vs, e, _⟩ := rd.tupi; rw [e]; simpa using hq
      case ref i => rw [rd.refi]; simpa using hq
      case rl i => obtain ⟨a, vs, e, _⟩ := rd.rli; rw [e]; simpa using hq
    cases neg with
    | false => subst hop; exact op_isN pins s σ H x _ v u Q I rx ry ⟨rfl, kv _ g⟩
    | true => subst hop; exact op_notN pins s σ H x _ v u Q I rx ry ⟨rfl, kv _ g⟩
  | _ => exact (show False from hq).elim
theorem cm_sound {k : Nat} (hr : Room k X.A) : ∀ o : CmpOp, OpR X (compareOp o) (LB X.K (cmR (cmOf o)))
  | .Eq => eq_sound hr.units
  | .NotEq => ne_sound hr.units
  | .Lt => intcmp op_lt fun d e S Q h => by
    cases d <;> cases e <;> simp only [cmR, cmOf] at h
    exact ⟨_, _, rfl, rfl, h⟩
  | .LtE => intcmp op_le fun d e S Q h => by
    cases d <;> cases e <;> simp only [cmR, cmOf] at h
    exact ⟨_, _, rfl, rfl, h⟩
  | .Gt => intcmp op_gt fun d e S Q h => by
    cases d <;> cases e <;> simp only [cmR, cmOf] at h
    exact ⟨_, _, rfl, rfl, h⟩
  | .GtE => intcmp op_ge fun d e S Q h => by
    cases d <;> cases e <;> simp only [cmR, cmOf] at h
    exact ⟨_, _, rfl, rfl, h⟩
  | .Is => opR_imp (is_gen false rfl) fun x y H Q h => h
  | .IsNot => opR_imp (is_gen true rfl) fun x y H Q h => h
  | .In => opR_imp (in_gen (hu_of hr) false rfl) fun x y H Q h => h
  | .NotIn => opR_imp (in_gen (hu_of hr) true rfl) fun x y H Q h => h
end Mi
namespace Mi
open PySem PySem.Spec PyProof.Rows L2
variable {X : Cx}
theorem RDs.atI {K : PySem.W.Frag} {H : Hp} {l : List D} {vs : List V} {i : Int} {d : D} (h : RDs K H l vs) (e : L2.atI l i = some d) : ∃ v, L2.atI vs i = some v ∧ RD K H d v := by
  unfold L2.atI at e ⊢
  rw [h.length]
  cases q : ixN l.length i with
  | none => rw [q] at e; cases e
  | some j =>
    rw [q] at e
    exact h.get e
theorem ix_dict {k : Nat} (hr : Room k X.A) : IxR X (fun x y H Q => ∃ a v, x = .ref a ∧ DGet H a y (some v) ∧ Q v H) := by
  intro value slice pins s σ H x y v u Q I rx ry h hs
  obtain ⟨a, w, rfl, g, q⟩ := h
  obtain rfl : v = Value.ref a := rx
  have hT := dict_typeIs I g
  unfold subscriptTail
  refine wpAny_bind ?_
  rw [getitemInPython_of_ne hT.not_modules]
  refine wpAny_bind (wpAny_specialOf hT PySem.F.slot_dict_getitem.lookup ?_)
  have fin : wpAny (model X.prog X.w) X.A (subscripted slice false (.ref a) u) (fun r s₃ => wpAny (model X.prog X.w) X.A (letTemporaryGo value (.ref a) r >>= fun _ => pure r) (EP X pins σ Q) X.xe s₃) X.xe s := by
    rw [hs]
    exact wpAny_operating (d_getItem (hu_of hr) I g ry fun w' s3 I3 rw' => wpAny_bind (wpAny_letTemporaryGo (wpAny_pure ⟨w, H, I3, rw', q⟩)))
  first
    | exact wpAny_pure (wpAny_bind fin)
    | exact wpAny_bind (wpAny_pure (wpAny_bind fin))
    | exact wpAny_bind fin
theorem strOk_at {s : Str} {i : Int} {c : Nat} (h : PyData.strOk s = true) (e : L2.atI s.cps.toList i = some c) : PyData.strOk ⟨#[c]⟩ = true := by
  unfold L2.atI at e
  cases q : ixN s.cps.toList.length i with
  | none => rw [q] at e; cases e
  | some j =>
    rw [q] at e
    have hm : c ∈ s.cps := by
      have : c ∈ s.cps.toList := List.mem_of_getElem? e
      exact Array.mem_toList_iff.mp this
    unfold PyData.strOk at h ⊢
    rw [Array.all_eq_true'] at h
    have := h c hm
    simpa using this
theorem ix_sound {k : Nat} (hr : Room k X.A) : IxR X (LO X.K ixR) := by
  intro value slice pins s σ H x y v u Q I rx ry ⟨d, e, S, F, Qd, rel, rd, re, hq, kv⟩ hs
  cases d with
  | tup l =>
    cases e with
    | int i =>
      simp only [ixR] at hq
      split at hq
      case h_1 w hw =>
        obtain ⟨a, vs, ea, ha, hl⟩ := rd.tupi
        obtain ⟨z, hz, rz⟩ := hl.atI hw
        exact ix_tup value slice pins s σ H x y v u Q I rx ry ⟨a, vs, i, z, ea, re.inti, ha, hz, kv _ _ _ _ hq .refl rel rz⟩ hs
      case h_2 => exact hq.elim
    | _ => exact (show False from hq).elim
  | str t =>
    cases e with
    | int i =>
      simp only [ixR] at hq
      obtain ⟨h1, hq⟩ := hq
      split at hq
      case h_1 w hw => exact ix_str value slice pins s σ H x y v u Q I rx ry ⟨t, i, w, rd.stri.1, re.inti, h1, hw, kv _ _ _ _ hq .refl rel (.str (strOk_at rd.stri.2 hw))⟩ hs
      case h_2 => exact hq.elim
    | _ => exact (show False from hq).elim
  | ref a =>
    simp only [ixR] at hq
    split at hq
    case h_1 l hl =>
      obtain ⟨vs, h1, h2⟩ := rel.lst hl
      split at hq
      case h_1 i =>
        split at hq
        case h_1 w hw =>
          obtain ⟨z, hz, rz⟩ := h2.atI hw
          exact ix_list value slice pins s σ H x y v u Q I rx ry ⟨a, vs, i, z, rd.refi, re.inti, .of h1, hz, kv _ _ _ _ hq .refl rel rz⟩ hs
        case h_2 => exact hq.elim
      case h_2 => exact hq.elim
    case h_2 l hl =>
      obtain ⟨o, vs, h1, h2⟩ := rel.rls hl
      split at hq
      case h_1 i =>
        split at hq
        case h_1 w hw =>
          obtain ⟨z, hz, rz⟩ := h2.atI hw
          exact ix_list value slice pins s σ H x y v u Q I rx ry ⟨a, vs, i, z, rd.refi, re.inti, .inl (.inr ⟨o, h1⟩), hz, kv _ _ _ _ hq .refl rel rz⟩ hs
        case h_2 => exact hq.elim
      case h_2 => exact hq.elim
    case h_3 kvs hl =>
      obtain ⟨f1, hq⟩ := hq
      split at hq
      case h_1 w hw =>
        obtain ⟨ws, h1, h2⟩ := rel.dct hl
        obtain ⟨k', hk⟩ := Option.isSome_iff_exists.mp (show (keyD e).isSome = true from f1)
        obtain ⟨z, hz, rz⟩ := (RK.get hk h2).1 w hw
        have ey := keyD_kV hk re
        subst ey
        have g : DGet H a (kV k') (some z) := by rw [← hz]; exact DGet.k h1
        exact ix_dict hr value slice pins s σ H x _ v u Q I rx ry ⟨a, z, rd.refi, g, kv _ _ _ _ hq .refl rel rz⟩ hs
      case h_2 => exact hq.elim
    case h_4 => exact hq.elim
  | _ => exact (show False from hq).elim
def LSl (K : PySem.W.Frag) : V → Option Int → Option Int → Hp → VK → Prop := fun x lo hi H Q => ∃ d S F Qd, Rel K S F H ∧ RD K H d x ∧ slcR d lo hi S Qd ∧ KV K F H Qd Q
theorem cut_RDs {K : PySem.W.Frag} {H : Hp} {l : List D} {vs : List V} (h : RDs K H l vs) (lo hi : Option Int) : RDs K H (cutD l lo hi) (cutV vs lo hi) := by
  unfold cutD cutV
  rw [h.length]
  exact (h.drop _).take _
theorem cut_all {l : List D} {lo hi : Option Int} (h : HT.sIx l.length 0 lo = 0 ∧ HT.sIx l.length l.length hi = l.length) : cutD l lo hi = l := by
  unfold cutD
  rw [h.1, h.2]
  simp
end Mi
namespace Mi
open PySem PySem.Spec PyProof.Rows L2
variable {X : Cx}
theorem strOk_sub {l : List Nat} {s : Str} (h : PyData.strOk s = true) (hs : ∀ c ∈ l, c ∈ s.cps.toList) : PyData.strOk ⟨l.toArray⟩ = true := by
  unfold PyData.strOk at h ⊢
  rw [Array.all_eq_true'] at h ⊢
  intro c hc
  exact h c (Array.mem_toList_iff.mp (hs c (by simpa using hc)))
theorem cutS_cutD (z : Str) (lo hi : Option Int) : cutS z lo hi = ⟨(cutD z.cps.toList lo hi).toArray⟩ := by
  unfold cutS cutD
  have e : z.cps.toList.length = z.length := by simp [Str.length]
  rw [e]
theorem sl_sound : SlR X (LSl X.K) := by
  intro pins s σ H x v vl vu lo hi sl Q I rx hs pl pu ⟨d, S, F, Qd, rel, rd, hq, kv⟩
  cases d with
  | tup l =>
    obtain ⟨a, vs, ea, ha, hl⟩ := rd.tupk
    simp only [slcR] at hq
    refine sl_tupF pins s σ H x v vl vu lo hi sl Q I rx hs pl pu ⟨a, vs, ea, ha.sq, fun h => ?_, fun p o hp ho => ?_⟩
    · rw [hl.length] at h
      rw [cut_all h] at hq
      exact kv _ _ _ _ hq .refl rel (.tup ha hl)
    · exact kv _ _ _ _ hq (.new hp) (rel.tup hp) (.tupNew hp ho (cut_RDs hl lo hi))
  | str z =>
    simp only [slcR] at hq
    rw [← cutS_cutD] at hq
    refine sl_str pins s σ H x v vl vu lo hi sl Q I rx hs pl pu ⟨z, rd.stri.1, hq.1, kv _ _ _ _ hq.2 .refl rel (.str ?_)⟩
    rw [cutS_cutD]
    exact strOk_sub rd.stri.2 fun c hc => List.mem_of_mem_drop (List.mem_of_mem_take hc)
  | ref a =>
    simp only [slcR] at hq
    split at hq
    case h_1 l hl =>
      obtain ⟨vs, h1, h2⟩ := rel.lst hl
      exact sl_list pins s σ H x v vl vu lo hi sl Q I rx hs pl pu ⟨a, vs, rd.refi, .of h1, fun p hp => kv _ _ _ _ (hq p (rel.free hp)) (.new hp) (rel.newLst hp (cut_RDs h2 lo hi)) .ref⟩
    case h_2 => exact hq.elim
  | _ => exact (show False from hq).elim
def LTr (K : PySem.W.Frag) : V → Hp → (Bool → Hp → Prop) → Prop := fun x H Q => ∃ d S F Qb, Rel K S F H ∧ RD K H d x ∧ truR d S Qb ∧ ∀ b, Qb b → Q b H
theorem isEmpty_RDs {K : PySem.W.Frag} {H : Hp} {l : List D} {vs : List V} (h : RDs K H l vs) : (!vs.isEmpty) = !l.isEmpty := by
  have := h.length
  cases l <;> cases vs <;> simp at this ⊢
theorem isEmpty_RK {K : PySem.W.Frag} {H : Hp} {l : List (D × D)} {vs : List (Key × V)} (h : RK K H l vs) : (!vs.isEmpty) = !l.isEmpty := by
  have := h.length
  cases l <;> cases vs <;> simp at this ⊢
theorem tru_conv {K : PySem.W.Frag} {x : V} {H : Hp} {Q : Bool → Hp → Prop} (h : LTr K x H Q) : ∃ k, TruV K x H k ∧ Q k H := by
  obtain ⟨d, S, F, Qb, rel, rd, hq, kv⟩ := h
  cases d with
  | non => rw [rd.noni]; exact ⟨_, rfl, kv _ hq⟩
  | bl b => rw [rd.bli]; exact ⟨_, rfl, kv _ hq⟩
  | int i => rw [rd.inti]; exact ⟨_, rfl, kv _ hq⟩
  | str s => rw [rd.stri.1]; exact ⟨_, ⟨hq.1, rfl⟩, kv _ hq.2⟩
  | tup l =>
    obtain ⟨a, vs, ea, ha, hl⟩ := rd.tupi
    rw [ea]
    exact ⟨_, .inr (.inl ⟨vs, ha, (isEmpty_RDs hl).symm⟩), kv _ hq⟩
  | rl l => exact (show False from hq).elim
  | ref a =>
    rw [rd.refi]
    simp only [truR] at hq
    split at hq
    case h_1 l hl =>
      obtain ⟨vs, h1, h2⟩ := rel.lst hl
      exact ⟨_, .inl ⟨vs, .of h1, (isEmpty_RDs h2).symm⟩, kv _ hq⟩
    case h_2 l hl =>
      obtain ⟨vs, h1, h2⟩ := rel.dct hl
      exact ⟨_, .inr (.inr ⟨vs, h1, (isEmpty_RK h2).symm⟩), kv _ hq⟩
    case h_3 => exact hq.elim
def LSet (K : PySem.W.Frag) : V → V → V → Hp → (Hp → Prop) → Prop := fun o i v H Q => ∃ x y z S F Qs, Rel K S F H ∧ RD K H x o ∧ RD K H y i ∧ RD K H z v ∧ setR x y z S Qs ∧ ∀ S' H', Qs S' → Ext H H' → Rel K S' F H' → Q H'
theorem ps_setD {k : Nat} (hr : Room k X.A) : PSet X (fun o i v H Q => ∃ a H', o = .ref a ∧ DPut H a i v H' ∧ Q H') := by
  intro pins s σ H o i v ov iv u Q I ro ri rv ⟨a, H', e, g, q⟩
  subst e
  obtain rfl : ov = Value.ref a := ro
  exact d_setItem (hu_of hr) I g ri rv fun s' I' => ⟨H', I', q⟩
theorem set_sound {k : Nat} (hr : Room k X.A) : PSet X (LSet X.K) := by
  intro pins s σ H o i v ov iv u Q I ro ri rv ⟨x, y, z, S, F, Qs, rel, rx, ry, rz, hq, kv⟩
  cases x with
  | ref a =>
    simp only [setR] at hq
    split at hq
    case h_1 l hl =>
      obtain ⟨vs, h1, h2⟩ := rel.lst hl
      split at hq
      case h_1 k =>
        split at hq
        case h_1 j hj =>
          obtain ⟨e1, e2⟩ := rel.setLst hl h1 (RDs.set rz j h2)
          exact set_list pins s σ H o i v ov iv u Q I ro ri rv ⟨a, vs, k, j, rx.refi, ry.inti, h1, by rw [h2.length]; exact hj, kv _ _ hq e1 e2⟩
        case h_2 => exact hq.elim
      case h_2 => exact hq.elim
    case h_2 kvs hl =>
      obtain ⟨f1, hz, hq⟩ := hq
      obtain ⟨ws, h1, h2⟩ := rel.dct hl
      obtain ⟨k', hk⟩ := Option.isSome_iff_exists.mp (show (keyD y).isSome = true from f1)
      have ey := keyD_kV hk ry
      subst ey
      obtain ⟨e1, e2⟩ := rel.setDct hl h1 (RK.put hk rz h2)
      exact ps_setD hr pins s σ H o _ v ov iv u Q I ro ri rv ⟨a, _, rx.refi, DPut.k h1 (by rw [h2.length]; exact hz), kv _ _ hq e1 e2⟩
    case h_3 => exact hq.elim
  | _ => exact (show False from hq).elim
def LM (K : PySem.W.Frag) (m : Mt) : V → List V → Hp → VK → Prop := fun x vs H Q => ∃ d ds S F Qd, Rel K S F H ∧ RD K H d x ∧ RDs K H ds vs ∧ mthR m d ds S Qd ∧ KV K F H Qd Q
theorem RDs.one {K : PySem.W.Frag} {H : Hp} {d : D} {vs : List V} (h : RDs K H [d] vs) : ∃ v, vs = [v] ∧ RD K H d v := by
  rw [RDs] at h
  obtain ⟨v, r, e, h1, h2⟩ := h
  rw [RDs] at h2
  exact ⟨v, by rw [e, h2], h1⟩
theorem RDs.two {K : PySem.W.Frag} {H : Hp} {d e : D} {vs : List V} (h : RDs K H [d, e] vs) : ∃ v w, vs = [v, w] ∧ RD K H d v ∧ RD K H e w := by
  rw [RDs] at h
  obtain ⟨v, r, e, h1, h2⟩ := h
  obtain ⟨w, e2, h3⟩ := h2.one
  exact ⟨v, w, by rw [e, e2], h1, h3⟩
theorem append_sound : MtR X "list.append" (LM X.K .append) := by
  intro pins s σ H x vs v us Q I rx rv ⟨d, ds, S, F, Qd, rel, rd, rds, hq, kv⟩
  match d, ds, hq with
  | .ref a, [e], hq =>
    simp only [mthR] at hq
    split at hq
    case h_1 l hl =>
      obtain ⟨ws, h1, h2⟩ := rel.lst hl
      obtain ⟨w, e1, r1⟩ := rds.one
      obtain ⟨x1, x2⟩ := rel.setLst hl h1 (h2.append (.cons r1 .nil))
      exact mt_append pins s σ H x vs v us Q I rx rv ⟨a, ws, w, rd.refi, e1, h1, by rw [h2.length]; exact hq.1, kv _ _ _ _ hq.2 x1 x2 .non⟩
    case h_2 => exact hq.elim
theorem insert_sound : MtR X "list.insert" (LM X.K .insert) := by
  intro pins s σ H x vs v us Q I rx rv ⟨d, ds, S, F, Qd, rel, rd, rds, hq, kv⟩
  match d, ds, hq with
  | .ref a, [.int i, e], hq =>
    simp only [mthR] at hq
    split at hq
    case h_1 l hl =>
      obtain ⟨ws, h1, h2⟩ := rel.lst hl
      obtain ⟨w1, w2, e1, r1, r2⟩ := rds.two
      obtain ⟨x1, x2⟩ := rel.setLst hl h1 (((h2.take i.toNat).append (.cons r2 .nil)).append (h2.drop i.toNat))
      exact mt_insert pins s σ H x vs v us Q I rx rv ⟨a, ws, i, w2, rd.refi, by rw [e1, r1.inti], h1, by rw [h2.length]; exact hq.1, hq.2.1, hq.2.2.1, kv _ _ _ _ hq.2.2.2 x1 x2 .non⟩
    case h_2 => exact hq.elim
theorem list_extend_tuple (l : Addr) (items : Array Value) (n : Nat) (b : Addr) (items2 : Array Value) (n2 : Nat) (dd : Option Addr) (sl : Array (Option Value)) (hs0 : ¬(!items.isEmpty && Builtin.List.listTooLong (items.size + items2.size)) = true) (hs1 : items.size ≤ sizeLine) (hs2 : items.size + items2.size ≤ sizeLine + 1) :
    Meets (Builtin.«list.extend» ⟨[.ref l, .ref b], []⟩) (fun _ R s => s.heap.get? l = some { cls := .type "list", dict := none, data := .seq items n, slots := #[] } ∧ s.heap.get? b = some { cls := .type "tuple", dict := dd, data := .seq items2 n2, slots := sl } ∧ R (.ok (.ret Value.none)) { s with heap := s.heap.update l (Obj.mapSeq fun x => x ++ items2), toks := s.toks }) :=
  .of_wp fun prog w A R s h => by
    obtain ⟨hp, g, d, tk, os⟩ := s; obtain ⟨hl, hb, h⟩ := h; have f1 := AutoSeq1.idx_int; have f2 := AutoSeq1.sub_tuple_tuple; have f3 := AutoSeq1.sub_list_list; have f4 := AutoSeq1.sub_tuple_list; have f5 := AutoSeq1.sub_list_tuple
    have hz' : (items ++ items2).size ≤ sizeLine + 1 := by rw [Array.size_append]; exact hs2
    wp_walk using (wpAny_updateSeq hl rfl (hz := hs1) (_hz' := hz')), wpAny_loadPart' hl, wpAny_loadPart' hb; exact ⟨_, rfl, h⟩
theorem mt_extendT : MtM X "list.extend" (fun x vs H Q => ∃ l b xs zs, x = .ref l ∧ vs = [.ref b] ∧ H l = some (.lst xs) ∧ SqT X.K H b zs ∧ xs.length + zs.length ≤ sizeLine ∧ Q .non (L2.upd H l (.lst (xs ++ zs)))) := by
  intro pins s σ H x vs v us Q I rx rv h
  obtain ⟨l, b, xs, zs, rfl, rfl, hH, hB, hz, q⟩ := h
  cases rx
  obtain ⟨u, rfl, ru⟩ := rv.one
  cases ru
  obtain ⟨z, its, n, r, hl, e⟩ := I.lstM hH
  obtain ⟨its2, r2, ⟨⟨cls, dd, data, sl⟩, ho, hc, n2, hd⟩, hs⟩ := I.tuple hB
  simp only at hc hd
  subst hc hd
  have hl2 := r2.length
  have hsz : its.toArray.size + its2.toArray.size ≤ sizeLine := by rw [List.size_toArray, List.size_toArray]; omega
  have hlong : ¬ (!its.toArray.isEmpty && Builtin.List.listTooLong (its.toArray.size + its2.toArray.size)) = true := by
    rw [notLongL hsz, Bool.and_false]
    exact Bool.false_ne_true
  refine call_meets F.slot_list_extend ⟨_, e, rfl⟩ F.entry_list_extend (F.args_list_extend_2 _ _)
    (list_extend_tuple l its.toArray n b its2.toArray n2 dd sl hlong (by rw [List.size_toArray]; omega) (by omega)) ⟨e, ho, ?_⟩
  refine ⟨.non, _, I.lset (its' := its ++ its2) hH e (by simp) (r.append r2) ?_, rfl, q⟩
  rw [List.length_append]
  omega
theorem extend_sound : MtR X "list.extend" (LM X.K .extend) := by
  intro pins s σ H x vs v us Q I rx rv ⟨d, ds, S, F, Qd, rel, rd, rds, hq, kv⟩
  match d, ds, hq with
  | .ref a, [.ref b], hq =>
    simp only [mthR] at hq
    split at hq
    case h_1 l m hl hm =>
      obtain ⟨ws, h1, h2⟩ := rel.lst hl
      obtain ⟨zs, h3, h4⟩ := rel.lst hm
      obtain ⟨w, e1, r1⟩ := rds.one
      obtain ⟨x1, x2⟩ := rel.setLst hl h1 (h2.append h4)
      exact mt_extend pins s σ H x vs v us Q I rx rv ⟨a, b, ws, zs, rd.refi, by rw [e1, r1.refi], h1, h3, by rw [h2.length, h4.length]; exact hq.1, kv _ _ _ _ hq.2 x1 x2 .non⟩
    case h_2 => exact hq.elim
  | .ref a, [.tup m], hq =>
    simp only [mthR] at hq
    split at hq
    case h_1 l hl =>
      obtain ⟨ws, h1, h2⟩ := rel.lst hl
      obtain ⟨w, e1, r1⟩ := rds.one
      obtain ⟨b, zs, e2, h3, h4⟩ := r1.tupi
      obtain ⟨x1, x2⟩ := rel.setLst hl h1 (h2.append h4)
      exact mt_extendT pins s σ H x vs v us Q I rx rv ⟨a, b, ws, zs, rd.refi, by rw [e1, e2], h1, h3, by rw [h2.length, h4.length]; exact hq.1, kv _ _ _ _ hq.2 x1 x2 .non⟩
    case h_2 => exact hq.elim
theorem pop_sound : MtR X "list.pop" (LM X.K .pop) := by
  intro pins s σ H x vs v us Q I rx rv ⟨d, ds, S, F, Qd, rel, rd, rds, hq, kv⟩
  match d, ds, hq with
  | .ref a, [], hq =>
    simp only [mthR] at hq
    split at hq
    case h_1 l hl =>
      split at hq
      case h_1 w hw =>
        obtain ⟨ws, h1, h2⟩ := rel.lst hl
        rw [RDs] at rds
        obtain ⟨z, hz, rz⟩ := h2.get hw
        rw [← h2.length] at hz
        obtain ⟨x1, x2⟩ := rel.setLst hl h1 (m := l.dropLast) (ws := ws.dropLast) (by rw [List.dropLast_eq_take, List.dropLast_eq_take, h2.length]; exact h2.take _)
        exact mt_pop pins s σ H x vs v us Q I rx rv ⟨a, ws, z, rd.refi, rds, h1, hz, kv _ _ _ _ hq x1 x2 (rz.ext x1)⟩
      case h_2 => exact hq.elim
    case h_2 => exact hq.elim
theorem get_sound {k : Nat} (hr : Room k X.A) : MtR X "dict.get" (LM X.K .get) := by
  intro pins s σ H x vs v us Q I rx rv ⟨d, ds, S, F, Qd, rel, rd, rds, hq, kv⟩
  match d, ds, hq with
  | .ref a, [k, e], hq =>
    simp only [mthR] at hq
    split at hq
    case h_1 kvs hl =>
      obtain ⟨f1, hq⟩ := hq
      obtain ⟨ws, h1, h2⟩ := rel.dct hl
      obtain ⟨k', hk⟩ := Option.isSome_iff_exists.mp (show (keyD k).isSome = true from f1)
      obtain ⟨y, z, e1, r1, r2⟩ := rds.two
      subst e1
      obtain ⟨u1, u2, rfl, ru1, ru2⟩ := rv.two
      have ex := rd.refi
      subst ex
      obtain rfl : v = Value.ref a := rx
      have ey := keyD_kV hk r1
      subst ey
      refine d_get2 (hu_of hr) I (DGet.k h1) ru1 ru2 fun w' s' I' r' => ⟨_, H, I', r', ?_⟩
      refine kv _ _ _ _ hq .refl rel ?_
      have q := RK.get hk h2
      cases e : dget kvs k with
      | none => rw [q.2 e]; exact r2
      | some d' =>
        obtain ⟨v', e', r'⟩ := q.1 d' e
        rw [e']; exact r'
    case h_2 => exact hq.elim
end Mi
namespace Mi
open PySem PySem.Spec PyProof.Rows L2
variable {X : Cx}
theorem ins_perm (a : Int) : ∀ l, (ins a l).Perm (a :: l)
  | [] => .refl _
  | b :: l => by
    unfold ins
    split
    · exact .refl _
    · exact ((ins_perm a l).cons b).trans (.swap a b l)
theorem srt_perm : ∀ l, (srt l).Perm l
  | [] => .refl _
  | a :: l => (ins_perm a (srt l)).trans ((srt_perm l).cons a)
theorem ins_sorted (a : Int) : ∀ l : List Int, l.Pairwise (· ≤ ·) → (ins a l).Pairwise (· ≤ ·)
  | [], _ => .cons (fun _ h => nomatch h) .nil
  | b :: l, h => by
    unfold ins
    cases h with
    | cons h1 h2 =>
      split
      · rename_i hab
        refine .cons (fun c hc => ?_) (.cons h1 h2)
        rcases List.mem_cons.mp hc with e | hc
        · rw [e]; exact hab
        · exact Int.le_trans hab (h1 c hc)
      · rename_i hab
        refine .cons (fun c hc => ?_) (ins_sorted a l h2)
        rcases List.mem_cons.mp ((ins_perm a l).mem_iff.mp hc) with e | hc
        · rw [e]; omega
        · exact h1 c hc
theorem srt_sorted : ∀ l : List Int, (srt l).Pairwise (· ≤ ·)
  | [] => .nil
  | a :: l => ins_sorted a _ (srt_sorted l)
theorem srt_unique {l m : List Int} (p : m.Perm l) (s : m.Pairwise (· ≤ ·)) : m = srt l := List.Perm.eq_of_pairwise (fun x y _ _ h1 h2 => Int.le_antisymm h1 h2) s (srt_sorted l) (p.trans (srt_perm l).symm)
def LC (K : PySem.W.Frag) (w : List D → Sto → KD → Prop) : List V → Hp → VK → Prop := fun vs H Q => ∃ ds S F Qd, Rel K S F H ∧ RDs K H ds vs ∧ w ds S Qd ∧ KV K F H Qd Q
section
variable {K : PySem.W.Frag} {H : Hp}
theorem asInts_of : ∀ {l : List D} {ns : List Int}, asInts l = some ns → l = ns.map D.int
  | [], ns, h => by simp only [asInts, Option.some.injEq] at h; subst h; rfl
  | .int i :: l, ns, h => by
    simp only [asInts, Option.map_eq_some_iff] at h
    obtain ⟨m, h1, h2⟩ := h
    subst h2
    rw [List.map_cons, ← asInts_of h1]
  | .non :: l, _, h => by simp [asInts] at h
  | .bl _ :: l, _, h => by simp [asInts] at h
  | .str _ :: l, _, h => by simp [asInts] at h
  | .tup _ :: l, _, h => by simp [asInts] at h
  | .ref _ :: l, _, h => by simp [asInts] at h
theorem asBls_of : ∀ {l : List D} {ns : List Bool}, asBls l = some ns → l = ns.map D.bl
  | [], ns, h => by simp only [asBls, Option.some.injEq] at h; subst h; rfl
  | .bl i :: l, ns, h => by
    simp only [asBls, Option.map_eq_some_iff] at h
    obtain ⟨m, h1, h2⟩ := h
    subst h2
    rw [List.map_cons, ← asBls_of h1]
  | .non :: l, _, h => by simp [asBls] at h
  | .int _ :: l, _, h => by simp [asBls] at h
  | .str _ :: l, _, h => by simp [asBls] at h
  | .tup _ :: l, _, h => by simp [asBls] at h
  | .ref _ :: l, _, h => by simp [asBls] at h
theorem RDs.ints : ∀ {ns : List Int} {vs : List V}, RDs K H (ns.map D.int) vs → vs = ns.map V.int
  | [], vs, h => by rw [List.map_nil, RDs] at h; rw [h]; rfl
  | n :: ns, vs, h => by
    rw [List.map_cons, RDs] at h
    obtain ⟨v, r, e, h1, h2⟩ := h
    rw [e, h1.inti, RDs.ints h2]; rfl
theorem RDs.bls : ∀ {ns : List Bool} {vs : List V}, RDs K H (ns.map D.bl) vs → vs = ns.map V.bl
  | [], vs, h => by rw [List.map_nil, RDs] at h; rw [h]; rfl
  | n :: ns, vs, h => by
    rw [List.map_cons, RDs] at h
    obtain ⟨v, r, e, h1, h2⟩ := h
    rw [e, h1.bli, RDs.bls h2]; rfl
theorem RDs.ofInts : ∀ ns : List Int, RDs K H (ns.map D.int) (ns.map V.int)
  | [] => .nil
  | n :: ns => .cons .int (RDs.ofInts ns)
theorem bll_ints {b : Bl} {l : List D} {vs : List V} {ns : List Int} (h : asInts l = some ns) (r : RDs K H l vs) : vs = ns.map V.int := by
  have e := asInts_of h
  subst e
  exact r.ints
theorem RK.keysI : ∀ {kvs : List (D × D)} {ws : List (Key × V)} {ns : List Int}, RK K H kvs ws → kvs.map (·.1) = ns.map D.int → ws.map (·.1) = ns.map Sum.inl
  | [], ws, ns, h, e => by
    rw [RK] at h; subst h
    cases ns with
    | nil => rfl
    | cons n ns => simp at e
  | (k, d) :: l, ws, ns, h, e => by
    rw [RK] at h
    obtain ⟨k', v, r, e1, hk, h1, h2⟩ := h
    subst e1
    cases ns with
    | nil => simp at e
    | cons n ns =>
      simp only [List.map_cons, List.cons.injEq] at e ⊢
      obtain ⟨e2, e3⟩ := e
      subst e2
      simp only [keyD, Option.some.injEq] at hk
      exact ⟨hk.symm, RK.keysI h2 e3⟩
end
def blV : Bl → Value
  | .len => .builtin "len" | .abs => .builtin "abs" | .max => .builtin "max" | .min => .builtin "min" | .sum => .builtin "sum" | .all => .builtin "all" | .any => .builtin "any"
  | .int => .type "int" | .str => .type "str" | .tuple => .type "tuple" | .list => .type "list" | .dict => .type "dict" | .sorted => .builtin "sorted" | .gcd => .builtin "math.gcd" | .lcm => .builtin "math.lcm"
theorem bll_sound (hc : X.calm = true) (b : Bl) : CallR X (blV b) (fun vs H Q => ∃ a l ws S F Qd, vs = [.ref a] ∧ Rel X.K S F H ∧ H a = some (.lst ws) ∧ RDs X.K H l ws ∧ bllR b l S Qd ∧ KV X.K F H Qd Q) := by
  intro pins s σ H vs us Q I rv ⟨a, l, ws, S, F, Qd, ev, rel, hH, hl, hq, kv⟩
  subst ev
  cases b <;> simp only [bllR] at hq
  case len => exact call_len_seq pins s σ H _ us Q I rv ⟨a, ws, rfl, .inl (.of hH), by rw [hl.length]; exact kv _ _ _ _ hq .refl rel .int⟩
  case tuple => exact call_tupleF pins s σ H _ us Q I rv ⟨a, ws, rfl, .of hH, fun p o hp ho => kv _ _ _ _ hq (.new hp) (rel.tup hp) (.tupNew hp ho hl)⟩
  case all =>
    split at hq
    case h_1 bs hb =>
      have e := asBls_of hb
      subst e
      exact cr_all hc pins s σ H _ us Q I rv ⟨a, bs, rfl, .of (by rw [hH, hl.bls]), kv _ _ _ _ hq .refl rel .bl⟩
    case h_2 => exact hq.elim
  case any =>
    split at hq
    case h_1 bs hb =>
      have e := asBls_of hb
      subst e
      exact cr_any hc pins s σ H _ us Q I rv ⟨a, bs, rfl, .of (by rw [hH, hl.bls]), kv _ _ _ _ hq .refl rel .bl⟩
    case h_2 => exact hq.elim
  case sum =>
    split at hq
    case h_1 ns hb =>
      have e := asInts_of hb
      subst e
      exact cr_sum hc pins s σ H _ us Q I rv ⟨a, ns, rfl, .of (by rw [hH, hl.ints]), kv _ _ _ _ hq .refl rel .int⟩
    case h_2 => exact hq.elim
  case max =>
    split at hq
    case h_1 ns hb =>
      have e := asInts_of hb
      subst e
      exact cr_max hc pins s σ H _ us Q I rv ⟨a, ns, rfl, .of (by rw [hH, hl.ints]), hq.1, fun m h1 h2 => kv _ _ _ _ (hq.2 m h1 h2) .refl rel .int⟩
    case h_2 => exact hq.elim
  case min =>
    split at hq
    case h_1 ns hb =>
      have e := asInts_of hb
      subst e
      exact cr_min hc pins s σ H _ us Q I rv ⟨a, ns, rfl, .of (by rw [hH, hl.ints]), hq.1, fun m h1 h2 => kv _ _ _ _ (hq.2 m h1 h2) .refl rel .int⟩
    case h_2 => exact hq.elim
  case sorted =>
    split at hq
    case h_1 ns hb =>
      have e := asInts_of hb
      subst e
      refine cr_sorted pins s σ H _ us Q I rv ⟨a, ns, rfl, .of (by rw [hH, hl.ints]), hq.1, fun ns' p h1 h2 hp => ?_⟩
      rw [srt_unique h1 h2]
      exact kv _ _ _ _ (hq.2 p (rel.free hp)) (.new hp) (rel.newLst hp (RDs.ofInts _)) .ref
    case h_2 => exact hq.elim
theorem RDs.pairs {K : PySem.W.Frag} {H : Hp} : ∀ {l : List D} {kvs : List (D × D)} {vs : List V}, asPairs l = some kvs → kvs.all (fun kv => (keyD kv.1).isSome) = true → RDs K H l vs →
    ∃ (ps : List Addr) (ws : List (Key × V)), vs = ps.map V.ref ∧ RK K H kvs ws ∧ Paired (fun p kv => TupK K H p [kV kv.1, kv.2]) ps ws
  | [], kvs, vs, h, _, r => by
    simp only [asPairs, Option.some.injEq] at h
    subst h
    rw [RDs] at r
    exact ⟨[], [], r, by rw [RK], .nil⟩
  | .tup [k, v] :: l, kvs, vs, h, hk, r => by
    simp only [asPairs, Option.map_eq_some_iff] at h
    obtain ⟨m, h1, h2⟩ := h
    subst h2
    rw [List.all_cons, Bool.and_eq_true] at hk
    rw [RDs] at r
    obtain ⟨w, r', e, r1, r2⟩ := r
    obtain ⟨a, xs, ea, ht, hx⟩ := r1.tupk
    obtain ⟨x, y, ex, q1, q2⟩ := hx.two
    obtain ⟨ps, ws, e1, e2, e3⟩ := RDs.pairs h1 hk.2 r2
    obtain ⟨k', hk'⟩ := Option.isSome_iff_exists.mp hk.1
    have := keyD_kV hk' q1
    subst this ex e ea e1
    refine ⟨a :: ps, (k', y) :: ws, rfl, ?_, .cons ht e3⟩
    rw [RK]
    exact ⟨k', y, ws, rfl, hk', q2, e2⟩
  | .tup [] :: l, _, _, h, _, _ => by simp [asPairs] at h
  | .tup [_] :: l, _, _, h, _, _ => by simp [asPairs] at h
  | .tup (_ :: _ :: _ :: _) :: l, _, _, h, _, _ => by simp [asPairs] at h
  | .non :: l, _, _, h, _, _ => by simp [asPairs] at h
  | .bl _ :: l, _, _, h, _, _ => by simp [asPairs] at h
  | .int _ :: l, _, _, h, _, _ => by simp [asPairs] at h
  | .str _ :: l, _, _, h, _, _ => by simp [asPairs] at h
  | .ref _ :: l, _, _, h, _, _ => by simp [asPairs] at h
theorem RK.merge {K : PySem.W.Frag} {H : Hp} : ∀ {ms : List (D × D)} {ws : List (Key × V)} {kvs : List (D × D)} {xs : List (Key × V)}, RK K H ms ws → RK K H kvs xs → RK K H (dmerge kvs ms) (mergeK xs ws)
  | [], ws, kvs, xs, h, g => by rw [RK] at h; subst h; exact g
  | (k, d) :: l, ws, kvs, xs, h, g => by
    rw [RK] at h
    obtain ⟨k', v, r, e1, hk, h1, h2⟩ := h
    subst e1
    show RK K H (dmerge (dput kvs k d) l) (mergeK (putK xs k' v) r)
    exact RK.merge h2 (RK.put hk h1 g)
theorem tupK_plain {pins : List (Addr × Obj)} {s : Shared} {σ : L2.St} {H : Hp} {a : Addr} {xs : List V} (I : L2.Inv X pins σ H s) (h : TupK X.K H a xs) : ∃ (o : Obj) (its : List Value) (n : Nat), Vals xs its ∧ s.heap.get? a = some o ∧ o.cls = .type "tuple" ∧ o.dict = none ∧ o.data = .seq its.toArray n ∧ xs.length ≤ sizeLine := by
  rcases h with ⟨o, h, d⟩ | ⟨o, its, n, hk, hc, hd, ho, hz, r⟩
  · obtain ⟨e, z, its, r, o', e', c, n, dt⟩ := I.hok a _ h
    rw [e] at e'; cases e'
    exact ⟨o, its, n, r, e, c, d, dt, z⟩
  · refine ⟨o, its.toList, n, r, I.kIn a o hk, hc, hd, by simpa using ho, ?_⟩
    have e := r.length
    simp only [Array.length_toList] at e
    omega
theorem pairsV {pins : List (Addr × Obj)} {σ : L2.St} {H : Hp} {s : Shared} (I : L2.Inv X pins σ H s) : ∀ {ps : List Addr} {kvs : List (Key × V)}, Paired (fun p kv => SqT X.K H p [kV kv.1, kv.2]) ps kvs →
    ∃ (zs : List (Value × Value)) (prs : List (Key × Value)), zs.length = ps.length ∧ L2.KV kvs prs ∧ prs.length = ps.length ∧ ∀ (j : Nat) (u y : Value), zs[j]? = some (u, y) → ∃ (b : Addr) (q : Key × Value), ps[j]? = some b ∧ prs[j]? = some q ∧ q.2 = y ∧ IsTup s.heap b #[u, y] ∧ keyIs q.1 u = true
  | _, _, .nil => ⟨[], [], rfl, .nil, rfl, fun j u y e => by simp at e⟩
  | _, _, .cons (a := p) (b := kv) h t => by
    obtain ⟨zs, prs, hz, r, hl, hp⟩ := pairsV I t
    obtain ⟨its, rv, ht, _⟩ := I.tuple h
    obtain ⟨u, y, ei, ru, ry⟩ := vals2 rv
    subst ei
    refine ⟨(u, y) :: zs, (kv.1, y) :: prs, by rw [List.length_cons, List.length_cons, hz], .cons ⟨rfl, ry⟩ r, by rw [List.length_cons, List.length_cons, hl], fun j u' y' e => ?_⟩
    cases j with
    | zero =>
      have e' : (u, y) = (u', y') := Option.some.inj e
      cases e'
      exact ⟨p, (kv.1, y), rfl, rfl, rfl, ht, kV_is (P := X.prog) (w := X.w) ru⟩
    | succ j =>
      obtain ⟨b, q, e1, e2, e3, e4, e5⟩ := hp j u' y' (by simpa using e)
      exact ⟨b, q, by simpa using e1, by simpa using e2, e3, e4, e5⟩
theorem call_dictT (hcalm : X.calm = true) : CallR X (.type "dict") (fun xs H Q => ∃ (a : Addr) (ps : List Addr) (kvs : List (Key × V)), xs = [.ref a] ∧ TupK X.K H a (ps.map V.ref) ∧ Paired (fun p kv => TupK X.K H p [kV kv.1, kv.2]) ps kvs ∧
    ∀ p, H p = none → Q (.ref p) (L2.upd H p (.dK (mergeK [] kvs)))) := by
  intro pins s σ H xs us Q I r q
  obtain ⟨a, ps, kvs, ex, hq, hp, q⟩ := q
  subst ex
  obtain ⟨u, eu, rx⟩ := vals1 r
  subst eu
  cases rx
  obtain ⟨o, its, n, rv, ho, hcl, hdi, hda, hz⟩ := tupK_plain I hq
  have ei := refs_at rv
  subst ei
  rw [List.length_map] at hz
  obtain ⟨zs, prs, hzl, rel, hl, hpr⟩ := pairsV I (Paired.mapP hp fun _ _ h => h.sq)
  have hsz : prs.length ≤ sizeLine := by rw [hl]; exact hz
  have ok : PlainSeq "tuple" s.heap a (ps.map Value.ref).toArray ∧ PairItems s.heap (ps.map Value.ref).toArray (fun j => ps.getD j 0) zs := by
    refine ⟨⟨o, n, ho, hcl, hdi, hda⟩, by simp [hzl], fun j k v hj => ?_⟩
    obtain ⟨b, q, e1, e2, e3, e4, e5⟩ := hpr j k v hj
    have e1' : ps.getD j 0 = b := by rw [List.getD_eq_getElem?_getD, e1]; rfl
    refine ⟨by simp [e1], ?_⟩
    show PairAt s.heap (ps.getD j 0) k v
    rw [e1', ← e3]
    exact .inl (by rw [e3]; exact e4)
  have P := PairArg.tuple (prog := X.prog) (w := X.w) a (ps.map Value.ref).toArray (fun j => ps.getD j 0) zs
  have hc : PairsHave (mixKind X.prog X.w) zs.length (PairRel zs) prs := by
    refine ⟨by rw [hl, hzl], fun i key v hi => ?_⟩
    obtain ⟨b, q, e1, e2, e3, e4, e5⟩ := hpr i key v hi
    exact ⟨q.1, by rw [e2, ← e3], e5⟩
  refine PySem.call_dict_pairs (knd := mixKind X.prog X.w) (kvs := prs) P (I.ok.hd hcalm) ok hc (by rw [hzl]; exact hz) fun h' tk hd' k => ?_
  have hm : (s.heap.objs.size == sysModules) = false := beq_eq_false_iff_ne.mpr (Nat.ne_of_gt I.big)
  have hlen : (mergeK [] kvs).length ≤ sizeLine := by
    refine Nat.le_trans (length_mergeK kvs []) ?_
    rw [List.length_nil, Nat.zero_add, rel.length]
    exact hsz
  exact ⟨.ref s.heap.objs.size, L2.upd H s.heap.objs.size (.dK (mergeK [] kvs)), I.laid (t' := tk) (fun b u e => k b u (by simp) e) (Nat.le_refl _) (show ObjOk X.prog X.w _ _ _ (.dK (mergeK [] kvs)) from ⟨hlen, hm, merged [] prs, KV.merge rel .nil, hd'⟩), rfl, q _ (I.hok.fresh (Nat.le_refl _))⟩
def rLcm : List V → Hp → VK → Prop := fun vs H Q => ∃ a b : Int, vs = [.int a, .int b] ∧ a.natAbs < 2 ^ 64 ∧ b.natAbs < 2 ^ 64 ∧ Q (.int ((Nat.lcm a.natAbs b.natAbs : Nat) : Int)) H
theorem cr_lcm : CallR X (.builtin "math.lcm") rLcm := by
  intro pins s σ H vs us Q I r h
  obtain ⟨a, b, rfl, ha, hb, q⟩ := h
  obtain ⟨t, u, rfl⟩ := Vals.int2 r
  exact PySem.W.mc_lcm ha hb fun _ => ⟨.int _, H, I.tok _, ⟨_, rfl⟩, q⟩
theorem reads_ints {h : Heap} : ∀ {ns : List Int} {us : List Value}, Vals (ns.map V.int) us → ∃ as, ReadsAll h us (ns.map PyData.int) as
  | [], _, r => by cases r; exact ⟨_, .nil⟩
  | n :: ns, _, r => by
    cases r with
    | cons r1 r2 =>
      obtain ⟨t, rfl⟩ := r1
      obtain ⟨as, h2⟩ := reads_ints r2
      exact ⟨_, .cons (.int n t) h2⟩
theorem alike_ints (ns : List Int) : PySem.W.AlikeAll (ns.map PyData.int) := by
  refine ⟨fun x hx y hy => ?_, fun x hx => ?_⟩
  · obtain ⟨i, _, rfl⟩ := List.mem_map.mp hx
    obtain ⟨j, _, rfl⟩ := List.mem_map.mp hy
    rfl
  · obtain ⟨i, _, rfl⟩ := List.mem_map.mp hx
    exact fun z => nomatch z
theorem foldl_max : ∀ (ns : List Int) (n : Int), (ns.foldl max n = n ∨ ns.foldl max n ∈ ns) ∧ n ≤ ns.foldl max n ∧ ∀ y ∈ ns, y ≤ ns.foldl max n
  | [], n => ⟨.inl rfl, Int.le_refl _, fun _ h => by cases h⟩
  | m :: ns, n => by
    obtain ⟨h1, h2, h3⟩ := foldl_max ns (max n m)
    rw [List.foldl_cons]
    refine ⟨?_, by omega, fun y hy => ?_⟩
    · rcases h1 with h1 | h1
      · rw [h1]
        by_cases q : n < m
        · right; rw [show max n m = m by omega]; exact List.mem_cons_self
        · left; omega
      · exact .inr (List.mem_cons_of_mem _ h1)
    · rcases List.mem_cons.mp hy with rfl | hy
      · omega
      · exact h3 y hy
def rMaxT (K : PySem.W.Frag) : List V → Hp → VK → Prop := fun vs H Q => ∃ (a : Addr) (ns : List Int), vs = [V.ref a] ∧ SqT K H a (ns.map V.int) ∧ 0 < ns.length ∧ ∀ m, m ∈ ns → (∀ y, y ∈ ns → y ≤ m) → Q (.int m) H
theorem cr_maxT {k : Nat} (hc : X.calm = true) (hr : Room k X.A) : CallR X (.builtin "max") (rMaxT X.K) := by
  intro pins s σ H vs us Q I r h
  obtain ⟨a, ns, rfl, hs, hne, q⟩ := h
  obtain ⟨its, rv, p, hz⟩ := I.tuple hs
  rw [Vals.ref1 r]
  cases ns with
  | nil => exact absurd hne (by decide)
  | cons n ns =>
    obtain ⟨as, ra⟩ := reads_ints (h := s.heap) rv
    refine PySem.W.max_tuple_data (x := .int n) (xs := ns.map .int) (I.ok.hd hc) (show s.heap.IsTuple a its.toArray from p) (by simpa using ra) (alike_ints (n :: ns)) (by rw [show PyData.int n :: ns.map PyData.int = (n :: ns).map PyData.int from rfl, PySem.W.ke_depthAll]; exact hu_of hr) fun i v h' tk bs hv hrd hk => ?_
    rw [PySem.W.maxD_ints] at hrd
    obtain ⟨h1, h2, h3⟩ := foldl_max ns n
    cases hrd with
    | int j t =>
      refine ⟨.int _, H, I.kept (t' := tk) hk, ⟨t, rfl⟩, q _ ?_ fun y hy => ?_⟩
      · rcases h1 with h1 | h1
        · rw [h1]; exact List.mem_cons_self
        · exact List.mem_cons_of_mem _ h1
      · rcases List.mem_cons.mp hy with rfl | hy
        · exact h2
        · exact h3 y hy
theorem blt_sound {k : Nat} (hc : X.calm = true) (hroom : Room k X.A) : ∀ b : Bl, CallR X (blV b) (LC X.K (bltR b)) := by
  intro b pins s σ H vs us Q I rv ⟨ds, S, F, Qd, rel, rds, hq, kv⟩
  match ds, rds, hq with
  | [.tup l], rds, hq =>
    obtain ⟨v, e, r⟩ := rds.one
    obtain ⟨a, ws, ea, ha, hl⟩ := r.tupk
    subst e ea
    cases b <;> simp only [bltR] at hq
    case len => exact call_len_seq pins s σ H _ us Q I rv ⟨a, ws, rfl, .inr ha.sq, by rw [hl.length]; exact kv _ _ _ _ hq .refl rel .int⟩
    case tuple => exact call_tupleT pins s σ H _ us Q I rv ⟨a, ws, rfl, ha.sq, kv _ _ _ _ hq .refl rel (.tup ha hl)⟩
    case list => exact call_list_of pins s σ H _ us Q I rv ⟨a, ws, rfl, .inr ha.sq, fun p hp => kv _ _ _ _ (hq p (rel.free hp)) (.new hp) (rel.newLst hp hl) .ref⟩
    case max =>
      simp only [bllR] at hq
      split at hq
      case h_1 ns hb =>
        have e := asInts_of hb
        subst e
        exact cr_maxT hc hroom pins s σ H _ us Q I rv ⟨a, ns, rfl, by rw [← hl.ints]; exact ha.sq, hq.1, fun m h1 h2 => kv _ _ _ _ (hq.2 m h1 h2) .refl rel .int⟩
      case h_2 => exact hq.elim
    case dict =>
      split at hq
      case h_1 kvs hk =>
        obtain ⟨h1, hq⟩ := hq
        obtain ⟨ps, zs, e1, e2, e3⟩ := RDs.pairs hk h1 hl
        subst e1
        refine call_dictT hc pins s σ H _ us Q I rv ⟨a, ps, zs, rfl, ha, e3, fun p hp => ?_⟩
        have e4 : RK X.K H (dmerge [] kvs) (mergeK [] zs) := RK.merge e2 (by rw [RK])
        exact kv _ _ _ _ (hq p (rel.free hp)) (.new hp) (rel.new hp ⟨_, upd_same, e4.ext (.new hp)⟩) .ref
      case h_2 => exact hq.elim
  | [.rl l], rds, hq =>
    obtain ⟨v, e, r⟩ := rds.one
    obtain ⟨a, ws, ea, ha, hl⟩ := r.rli
    subst e ea
    cases b <;> simp only [bltR] at hq
    case len => exact call_len_seq pins s σ H _ us Q I rv ⟨a, ws, rfl, .inl ha.sq, by rw [hl.length]; exact kv _ _ _ _ hq .refl rel .int⟩
    case list => exact call_list_of pins s σ H _ us Q I rv ⟨a, ws, rfl, .inl ha.sq, fun p hp => kv _ _ _ _ (hq p (rel.free hp)) (.new hp) (rel.newLst hp hl) .ref⟩
  | .rl _ :: _ :: _, _, hq => cases b <;> exact (show False from hq).elim
  | .int _ :: .rl _ :: _, _, hq => cases b <;> exact (show False from hq).elim
  | [.str t], rds, hq =>
    obtain ⟨v, e, r⟩ := rds.one
    obtain ⟨ev, ok⟩ := r.stri
    subst e ev
    cases b <;> simp only [bltR] at hq
    case len => exact call_len_str pins s σ H _ us Q I rv ⟨t, rfl, hq.1, kv _ _ _ _ hq.2 .refl rel .int⟩
  | [.int i], rds, hq =>
    obtain ⟨v, e, r⟩ := rds.one
    have ev := r.inti
    subst e ev
    cases b <;> simp only [bltR] at hq
    case abs => exact call_abs pins s σ H _ us Q I rv ⟨i, rfl, kv _ _ _ _ hq .refl rel .int⟩
    case int => exact call_int1 pins s σ H _ us Q I rv (.inl ⟨i, rfl, kv _ _ _ _ hq .refl rel .int⟩)
  | [.int i, .int j], rds, hq =>
    obtain ⟨v, w, e, r1, r2⟩ := rds.two
    have e1 := r1.inti
    have e2 := r2.inti
    subst e e1 e2
    cases b <;> simp only [bltR] at hq
    case max => exact call_max2 hc pins s σ H _ us Q I rv ⟨i, j, rfl, kv _ _ _ _ hq .refl rel .int⟩
    case min => exact call_min2 hc pins s σ H _ us Q I rv ⟨i, j, rfl, kv _ _ _ _ hq .refl rel .int⟩
    case gcd => exact cr_gcd pins s σ H _ us Q I rv ⟨i, j, rfl, kv _ _ _ _ hq .refl rel .int⟩
    case lcm => exact cr_lcm pins s σ H _ us Q I rv ⟨i, j, rfl, hq.1, hq.2.1, kv _ _ _ _ hq.2.2 .refl rel .int⟩
  | [.ref a], rds, hq =>
    obtain ⟨v, e, r⟩ := rds.one
    have ev := r.refi
    subst e ev
    by_cases hb : b = .sorted
    · subst hb
      simp only [bltR] at hq
      split at hq
      case h_1 l hl =>
        obtain ⟨ws, h1, h2⟩ := rel.lst hl
        exact bll_sound hc .sorted pins s σ H _ us Q I rv ⟨a, l, ws, S, F, Qd, rfl, rel, h1, h2, hq, kv⟩
      case h_2 kvs hl =>
        obtain ⟨ws, h1, h2⟩ := rel.dct hl
        simp only [bllR] at hq
        split at hq
        case h_1 ns hn =>
          refine call_sortedDI hc pins s σ H _ us Q I rv ⟨a, ws, ns, rfl, .inl h1, RK.keysI h2 (asInts_of hn), hq.1, fun ys p g1 g2 hp => ?_⟩
          rw [srt_unique g1 g2]
          exact kv _ _ _ _ (hq.2 p (rel.free hp)) (.new hp) (rel.newLst hp (RDs.ofInts _)) .ref
        case h_2 => exact hq.elim
      case h_3 => exact hq.elim
    · by_cases hb2 : b = .list
      · subst hb2
        simp only [bltR] at hq
        split at hq
        case h_1 l hl =>
          obtain ⟨ws, h1, h2⟩ := rel.lst hl
          exact call_list_of pins s σ H _ us Q I rv ⟨a, ws, rfl, .inl (.of h1), fun p hp => kv _ _ _ _ (hq p (rel.free hp)) (.new hp) (rel.newLst hp h2) .ref⟩
        case h_2 l hl =>
          obtain ⟨o, ws, h1, h2⟩ := rel.rls hl
          exact call_list_of pins s σ H _ us Q I rv ⟨a, ws, rfl, .inl (.inl (.inr ⟨o, h1⟩)), fun p hp => kv _ _ _ _ (hq p (rel.free hp)) (.new hp) (rel.newLst hp h2) .ref⟩
        case h_3 => exact hq.elim
      · have hq2 : (match S a with
          | some (.lst l) => bllR b l S Qd
          | some (.rls l) => b = .len ∧ Qd (.int l.length) S
          | _ => False) := by cases b <;> first | exact hq | exact absurd rfl hb | exact absurd rfl hb2
        split at hq2
        case h_1 l hl =>
          obtain ⟨ws, h1, h2⟩ := rel.lst hl
          exact bll_sound hc b pins s σ H _ us Q I rv ⟨a, l, ws, S, F, Qd, rfl, rel, h1, h2, hq2, kv⟩
        case h_2 l hl =>
          obtain ⟨o, ws, h1, h2⟩ := rel.rls hl
          obtain ⟨eb, hq2⟩ := hq2
          subst eb
          exact call_len_seq pins s σ H _ us Q I rv ⟨a, ws, rfl, .inl (.inl (.inr ⟨o, h1⟩)), by rw [h2.length]; exact kv _ _ _ _ hq2 .refl rel .int⟩
        case h_3 => exact hq2.elim
  | [], _, hq => cases b <;> exact (show False from hq).elim
  | .non :: _, _, hq => cases b <;> exact (show False from hq).elim
  | .bl _ :: _, _, hq => cases b <;> exact (show False from hq).elim
  | .str _ :: _ :: _, _, hq => cases b <;> exact (show False from hq).elim
  | .tup _ :: _ :: _, _, hq => cases b <;> exact (show False from hq).elim
  | .ref _ :: _ :: _, _, hq => cases b <;> exact (show False from hq).elim
  | .int _ :: .non :: _, _, hq => cases b <;> exact (show False from hq).elim
  | .int _ :: .bl _ :: _, _, hq => cases b <;> exact (show False from hq).elim
  | .int _ :: .str _ :: _, _, hq => cases b <;> exact (show False from hq).elim
  | .int _ :: .tup _ :: _, _, hq => cases b <;> exact (show False from hq).elim
  | .int _ :: .ref _ :: _, _, hq => cases b <;> exact (show False from hq).elim
  | .int _ :: .int _ :: _ :: _, _, hq => cases b <;> exact (show False from hq).elim
theorem index_sound : MtR X "list.index" (LM X.K .index) := by
  intro pins s σ H x vs v us Q I rx rv ⟨d, ds, S, F, Qd, rel, rd, rds, hq, kv⟩
  match d, ds, hq with
  | .ref a, [.int y], hq =>
    simp only [mthR] at hq
    split at hq
    case h_1 l hl =>
      split at hq
      case h_1 ns hn =>
        have e := asInts_of hn
        subst e
        obtain ⟨j, h0, hno, hq⟩ := hq
        obtain ⟨ws, h1, h2⟩ := rel.lst hl
        obtain ⟨w, e1, r1⟩ := rds.one
        have ew := h2.ints
        subst ew
        refine mt_index pins s σ H x vs v us Q I rx rv ⟨a, ns.map V.int, .int y, j, .int y, rd.refi, by rw [e1, r1.inti], .of h1, rfl, List.all_eq_true.mpr fun z hz => ?_, ?_, ?_, ?_, kv _ _ _ _ hq .refl rel .int⟩
        · obtain ⟨i, _, rfl⟩ := List.mem_map.mp hz
          rfl
        · rw [List.getElem?_map, h0]; rfl
        · show decide (y = y) = true
          simp
        · intro m z hm hz
          rw [List.getElem?_map, Option.map_eq_some_iff] at hz
          obtain ⟨i, hi, rfl⟩ := hz
          have : i ≠ y := fun q => hno m hm (by rw [hi, q])
          show decide (i = y) = false
          simp [this]
      case h_2 => exact hq.elim
    case h_2 => exact hq.elim
end Mi
set_option maxHeartbeats 2000000
namespace Mi
open PySem PySem.Spec PyProof.Rows L2 NdefX
structure NfFacts (P : Program) (K : PySem.W.Frag) (mg : Str → Option Value) (C f : Addr) (F : NF) : Prop where
  T : OexC K C
  hno : PySem.W.findIn K (.ref C) "word" = some none
  lk : ∃ oc od doc pm ctv osl, K.lookup f = some ⟨oc, od, .func (F.fd doc pm ctv), osl⟩
  hcd : PySem.W.codeIn K (.ref F.c) F.qual = true
  cl : ∃ cc ccl ccd ccs, F.cl = [(("__class__" : Str), cc)] ∧ K.lookup cc = some ⟨ccl, ccd, .cell (some (.ref C)), ccs⟩
  code : ∃ vcl vcd vs vcs file tf, K.lookup F.c = some ⟨vcl, vcd, .fields vs, vcs⟩ ∧ vs[2]? = some (.str file tf) ∧ ((P.main.file : Str) == file) = true
  S : NScope ["self", "word", "__class__"] ["self", "word"] ["__class__"] F.scope
  sup : F.scope.names.lookup ("super" : Str) = some .globalImplicit
  htop : (P.main.scope.names.lookup ("super" : Str)).isSome = false
  mgs : mg "super" = none
  opq : PySem.W.nsIn K PySem.cStatics "thirdparty.any" = some none
  ini : PySem.W.ks_superIn K C C "__init__" = some (some (.builtin "ValueError.__init__"))
  subV : PySem.W.subIn K (.ref C) (.type "ValueError") = some true
  mroC : PySem.W.mroIn K C (.ref C) = some true
  body : ∃ (q1 q2 q3 q4 p0 p1 p2 p3 p4 p5 q5 q6 q7 : Pos) (j : Nat) (m : Str), F.body = [.Assign [.Attribute (.Name "self" q1) "word" q2] (.Name "word" q3) q4,
    .Expr (.Call (.Attribute (.Call (.Name "super" p0) [] [] p1) "__init__" p2) [.JoinedStr [.Constant (.str m) j q5, .FormattedValue (.Name "word" q6) (-1) none q7] p3] [] p4) p5] ∧ m.length ≤ 1000 ∧ ∃ pl : Sem Bool, ∀ env : Env, eval (.Call (.Attribute (.Call (.Name "super" p0) [] [] p1) "__init__" p2) [.JoinedStr [.Constant (.str m) j q5, .FormattedValue (.Name "word" q6) (-1) none q7] p3] [] p4) env = (do
      let ov ← attributeBase (.Call (.Name "super" p0) [] [] p1) "__init__" env (eval (.Call (.Name "super" p0) [] [] p1) env)
      standAt p2.atName
      let (f, first) ← holding [ov] (getMethod ov "__init__" pl)
      callWith p4 f first (backTo p4 (starEach [.JoinedStr [.Constant (.str m) j q5, .FormattedValue (.Name "word" q6) (-1) none q7] p3] env)) [])
  par : ∃ ar, (F.params.posonlyargs ++ F.params.args).head? = some ar ∧ ar.arg = ("self" : Str)
  bnd : ∀ (doc pm ctv : Value) (us : List Value), us.length = 2 → bindArgs (F.fd doc pm ctv) ⟨us, []⟩ = pure ((["self", "word"] : List Str).zip us)
theorem lookup1 {k y : Str} {c c' : Addr} (h : [(k, c)].lookup y = some c') : y = k ∧ c' = c := by
  rw [List.lookup_cons] at h
  cases e : y == k with
  | true => rw [e] at h; exact ⟨eq_of_beq e, (Option.some.inj h).symm⟩
  | false => rw [e] at h; cases h
def spNF (C : Addr) : Sp := fun vs H Q _ => ∃ (a : Addr) (z : Str), vs = [.ref a, .str z] ∧ z.length ≤ 1000000 ∧ H a = some (exo a C none) ∧ ∀ dx, H dx = none → dx ≠ a → Q .non (upd (upd H dx (exd dx [("word", .str z)])) a (exo a C (some dx)))
theorem fn_nf {P : Program} {w : World} {K : PySem.W.Frag} {mg : Str → Option Value} {base : Heap} {CX : CXT} {k : Nat} {C f : Addr} {F : NF} (N : NfFacts P K mg C f F) {oc : Value} {od : Option Addr} {doc pm ctv : Value} {osl : Array (Option Value)} (lk : K.lookup f = some ⟨oc, od, .func (F.fd doc pm ctv), osl⟩) :
    FnOk P w K mg base CX (k + 1) f (F.fd doc pm ctv) ["self", "word"] (spNF C) := by
  obtain ⟨cc, ccl, ccd, ccs, hcl, lkc⟩ := N.cl
  obtain ⟨vcl, vcd, cvs, vcs, file, tf, lkv, hvs, hfile⟩ := N.code
  obtain ⟨q1, q2, q3, q4, p0, p1, p2, p3, p4, p5, q5, q6, q7, j, m, hbody, hm, pl, heval⟩ := N.body
  obtain ⟨ar, hpar, harg⟩ := N.par
  refine ⟨fun vs H Q E h => by obtain ⟨a, z, rfl, _⟩ := h; rfl, fun A outer s H args us vs Q E hr e0 hb r hsp => ?_⟩
  obtain ⟨a, z, rfl, hz, ha, hQ⟩ := hsp
  have KX : K.In s.heap := e0.mod.kin.keeps fun b o e => (e0.bs b o e).1
  have lim : s.heap.NoLimit := e0.mod.nolimit.keeps fun b o e => (e0.bs b o e).1
  have bcc := e0.bs cc _ (e0.mod.kin _ _ lkc)
  have Cs : CellsAt F.cl ["__class__"] [some (.ref C)] s.heap H := by
    rw [hcl]
    refine ⟨rfl, fun y c e => ?_, fun x y c e1 e2 => ?_, fun i y e => ?_⟩
    · obtain ⟨_, rfl⟩ := lookup1 e
      exact ⟨bcc.2, _, _, bcc.1, rfl⟩
    · exact (lookup1 e1).1.trans (lookup1 e2).1.symm
    · cases i with
      | zero =>
        simp only [List.getElem?_cons_zero, Option.some.injEq] at e
        subst e
        exact ⟨cc, by simp, fun v ev => by
          simp only [List.getElem?_cons_zero, Option.some.injEq] at ev
          subst ev
          exact ⟨.ref C, rfl, _, bcc.1, rfl⟩⟩
      | succ i => simp at e
  refine PySem.ks_codeAny_call_defAt (fd := F.fd doc pm ctv) (body := F.body) hr.depth (KX _ _ lk) rfl lim (PySem.W.codeRec_of KX N.hcd) rfl hb N.S.nocell (fun x hx => N.S.par x.1 (List.of_mem_zip hx).1) (fun h₁ hns kp => ?_) N.S.co N.S.gen N.S.kind
  have I : L2.Inv (ncx CX P w K mg base ["self", "word", "__class__"] F f A outer s H E) [] (startF ["self", "word", "__class__"] [.ref a, .str z] [some (.ref C)]) H { s with heap := h₁, toks := s.toks + ((["self", "word"] : List Str).zip us).length } :=
    inv_startN N.S hr.hd e0 rfl r Cs hns kp
  rw [hbody]
  have kself : F.scope.names.lookup ("self" : Str) = some .local := N.S.par "self" (by simp)
  have kword : F.scope.names.lookup ("word" : Str) = some .local := N.S.par "word" (by simp)
  refine PySem.ks_wpAt_execs_cons (PySem.ks_wpAt_Assign_Attr (wpAt_of_wpAny (thn ((pe_var (X := ncx CX P w K mg base ["self", "word", "__class__"] F f A outer s H E) (i := 1) (x := "word") (pos := q3) rfl (.inl kword)).run [] _ _ H (fun x H' => x = .str z ∧ H' = H) I ⟨.str z, rfl, rfl, rfl⟩) fun u s1 ⟨x, H1, I1, r1, ex, eH⟩ => ?_)))
  subst ex eH
  refine thn ((pe_var (X := ncx CX P w K mg base ["self", "word", "__class__"] F f A outer s H1 E) (i := 0) (x := "self") (pos := q1) rfl (.inl kself)).run [] _ _ H1 (fun x H' => x = .ref a ∧ H' = H1) I1 ⟨.ref a, rfl, rfl, rfl⟩) fun u2 s2 ⟨x2, H2, I2, r2, ex2, eH2⟩ => ?_
  subst ex2 eH2
  obtain rfl : u2 = Value.ref a := r2
  refine ost_new N.T I2 ha N.hno r1 fun dx s3 hdx hdxa I3 => ?_
  have K3 : K.In s3.heap := I3.kIn
  obtain ⟨nm, qn, Nn, bs, bm, sn, sb, ab, col, dd, k0, k1, k2, k3, k5, hC, hbm⟩ := N.T.cls
  have hD := K3 _ _ hC
  obtain ⟨t1, hx⟩ := exo_at (e := a) I3.hok upd_same
  obtain ⟨mA, ⟨oD, esD, epD, hoD, _⟩, _⟩ := exd_at (dx := dx) I3.hok (by rw [upd_ne hdxa]; exact upd_same)
  have hcd : PySem.W.clsIn K C = some { name := nm, bases := bs, mro := .ref C :: bm, ns := Nn, qualname := qn, hasDict := true, slotNames := sn, subclasses := sb, abstract := ab, collection := col, hasDel := false } := by unfold PySem.W.clsIn; rw [hC] <;> rfl
  refine PySem.ks_wpAt_execs_cons (PySem.ks_wpAt_Expr_any (PySem.ks_wpAt_MethodCall (PySem.ks_wpAt_super_base (f := f) (cc := F.c) N.sup (N.S.frk "__class__" (by simp)) rfl rfl (K3 _ _ lk) rfl hpar rfl (K3 _ _ lkv) rfl hvs hfile N.htop ?_) (heval _)) I3.quiet)
  obtain ⟨mb, hb1, hb2⟩ := I3.mod.blt
  refine PySem.W.ks_loadName_global N.S.kind N.sup (Calls.loadGlobal_builtin (I3.mod.glob.keeps I3.bk) N.mgs (hb1.keeps I3.bk) ((hb2 "super" (by decide)).trans (show bootBuiltins "super" = some (.type "super") by decide +kernel)) ⟨rfl, ?_⟩)
  refine wpAny_loadName_free N.S.kind (N.S.frk "__class__" (by simp)) (c := cc) (v := .ref C) (show F.cl.lookup ("__class__" : Str) = some cc by rw [hcl]; rfl) ⟨_, K3 _ _ lkc, rfl⟩ ?_
  obtain ⟨mL, hnL, hlL⟩ := I3.loc
  obtain ⟨us0, rs0, hs0⟩ := hlL 0 "self" (.ref a) rfl rfl (.inl kself)
  obtain rfl : us0 = Value.ref a := rs0
  have hmL : mL "self" = some (.ref a) := by
    rcases hs0 with ⟨_, h⟩ | ⟨h, _⟩
    · exact h
    · have h : F.scope.names.lookup ("self" : Str) = some .cell ∨ F.scope.names.lookup ("self" : Str) = some .free := h
      rw [kself] at h
      rcases h with h | h <;> cases h
  rw [harg]
  refine wpAny_loadName_local N.S.kind kself hnL hmL ?_
  obtain ⟨hp3, g3, d3, tk3, os3⟩ := s3
  refine PySem.ks_wpAny_isType_cls hD rfl ⟨rfl, ?_⟩
  have hsub : PySem.W.Looks (model P w) hp3 (isSubtype (.ref C) (.ref C)) true := PySem.W.looks_mroIn K3 N.mroC
  refine PySem.ks_wpAny_call_super hD rfl hx rfl (fun c e => by cases e) hsub (fun h4 hso kp4 => ?_)
  have I4 := I3.kept (t' := tk3) kp4
  have K4 : K.In h4 := I4.kIn
  have hx4 := kp4 _ _ hx
  have hxC : a ≠ C := fun e => by
    rw [e] at hx
    have z := hx.symm.trans hD
    cases z
  have hI4 : PySem.W.Looks (model P w) h4 (isInstance (.ref a) (.type "ValueError")) true := by
    have I : PySem.W.InstAt h4 a { cls := .ref C, dict := some dx, data := .fields #[.ref t1, .none, .none, .none, .bool false, .none] } C (some oD) := ⟨hx4, rfl, rfl, kp4 _ _ hoD⟩
    exact I.type.andThen (PySem.W.looks_subIn K4 N.subV)
  refine PySem.W.kxs_getMethod PySem.W.kxs_ValueError hso (PySem.W.looks_opaque K4 N.opq) (l₀ := .ref C :: bm) ?_ rfl K4 (by have := N.ini; unfold PySem.W.ks_superIn at this; rw [hcd] at this; exact this) hI4 hxC rfl ?_
  · exact (PySem.W.looks_clsIn K4 hcd).andThen .now
  have I5 : L2.Inv _ [] _ _ ({ heap := h4.push (PySem.W.kxs_mw "ValueError.__init__" a), gens := g3, drawn := d3, toks := tk3 + 1, os := os3 } : Shared) := I4.kept (t' := tk3 + 1) fun b o e => Heap.get?_push_of_some _ e
  have fp := I4.fpOk (Nat.le_refl _) (I4.hok.fresh (Nat.le_refl h4.objs.size))
  have I6 := I5.pins_of (pins' := [(h4.objs.size, PySem.W.kxs_mw "ValueError.__init__" a)]) (by
    intro p hp
    have e : p = (h4.objs.size, PySem.W.kxs_mw "ValueError.__init__" a) := by simpa using hp
    subst e
    exact ⟨Heap.get?_push_size _ rfl, fp.1, fp.2.1, fp.2.2.1, fun v e => by cases e⟩)
  refine PySem.W.kxs_callWith (i := "ValueError.__init__") (x := a) rfl (Calls.evalArgs_plain ?_)
  have ha4 : (upd (upd H2 dx (exd dx [(("word" : Str), V.str z)])) a (exo a C (some dx))) a = some (exo a C (some dx)) := upd_same
  have pj : PJ (ncx CX P w K mg base ["self", "word", "__class__"] F f A outer s H2 E) [.Constant (.str m) j q5, .FormattedValue (.Name "word" q6) (-1) none q7] [tC (.str m), tFmt (tVar 1)] :=
    .cons pe_str (.cons (pe_fmt (pe_var (i := 1) (x := "word") rfl (.inl kword))) .nil)
  have hmz : (Str.empty ++ m).length ≤ sizeLine := by
    rw [sizeLine_eq]
    show (Str.append Str.empty m).length ≤ _
    unfold Str.append Str.length
    rw [Array.size_append]
    have : m.cps.size ≤ 1000 := hm
    have e : Str.empty.cps.size = 0 := rfl
    omega
  have hmz2 : ((Str.empty ++ m) ++ z).length ≤ sizeLine := by
    rw [sizeLine_eq]
    show (Str.append (Str.append Str.empty m) z).length ≤ _
    unfold Str.append Str.length
    rw [Array.size_append, Array.size_append]
    have h1 : m.cps.size ≤ 1000 := hm
    have h2 : z.cps.size ≤ 1000000 := hz
    have e : Str.empty.cps.size = 0 := rfl
    omega
  have hzl : z.length ≤ sizeLine := by rw [sizeLine_eq]; omega
  refine thn ((pa_cons (pe_joined (pos := p3) pj) pa_nil rfl).run p4 _ _ _ _ (fun vs H' => ∃ out, vs = [.str out] ∧ H' = upd (upd H2 dx (exd dx [(("word" : Str), V.str z)])) a (exo a C (some dx))) I6 ⟨m, rfl, hmz, .str z, rfl, .inl ⟨z, rfl, hzl, z, rfl, hmz2, _, rfl, rfl⟩⟩) fun us6 s6 ⟨vs6, H6, I7, r6, out, ev6, eH6⟩ => ?_
  subst ev6 eH6
  have hmw := (I7.pin (h4.objs.size, PySem.W.kxs_mw "ValueError.__init__" a) (by simp)).1
  refine ⟨hmw, ?_⟩
  obtain ⟨t6, hx6⟩ := exo_at (e := a) I7.hok ha4
  have hus : us6.length ≤ sizeLine := by
    have := r6.length
    rw [← this, sizeLine_eq]
    exact (show (1 : Nat) ≤ 16777216 by decide)
  obtain ⟨h6, g6, d6, tk6, os6⟩ := s6
  refine wpAny_call (codeAny_of_tree ?_)
  show wpAny _ _ (callAny (.ref h4.objs.size) ⟨us6, []⟩) _ _ _
  simp only [callAny]
  refine wpAny_bind (wpAny_load hmw ?_)
  simp only [PySem.W.kxs_mw, show (Value.type "method-wrapper" == Value.type "method" || Value.type "method-wrapper" == Value.type "builtin_function_or_method" || Value.type "method-wrapper" == Value.type "method-wrapper") = true by decide, if_true]
  refine PySem.W.KFB.if_so (by decide) ?_
  have hC6 := I7.kIn _ _ hC
  refine wpAny_bind (PySem.W.check_bound_init PySem.F.excBase_ValueError.toExcCallFacts hC6 hx6 rfl ?_)
  refine wpAny_bind (wpAny_pure (wpAny_pure ?_))
  refine ⟨plainId_quiet PySem.F.excBase_ValueError.init.plain _, codeAny_builtin PySem.F.excBase_ValueError.initEntry ?_⟩
  refine PySem.W.exc_init_tree hx6 hus fun h7 k7 hx7 _ => ?_
  have I8 := I7.write (t' := tk6) (x := a) (e := a) (o := exo a C (some dx)) (by rw [ha4]; exact True.intro) (.inl rfl) k7 ⟨_, hx7⟩ (exo_ok hx7)
  have eu : upd (upd (upd H2 dx (exd dx [(("word" : Str), V.str z)])) a (exo a C (some dx))) a (exo a C (some dx)) = upd (upd H2 dx (exd dx [(("word" : Str), V.str z)])) a (exo a C (some dx)) := by
    funext b
    by_cases hb : b = a
    · rw [hb, upd_same, upd_same]
    · rw [upd_ne hb]
  rw [eu] at I8
  refine wpAt_of_wpAny (wpAny_execs_nil ?_)
  exact ⟨.non, _, I8.os, I8.bare, I8.base, I8.hok, rfl, hQ dx hdx hdxa⟩
theorem pmk_nf {X : Cx} {C fI : Addr} {F : NF} {k : Nat} {x : Str} {e : PySem.Expr} {te : TE} {p pos : Pos} (N : NfFacts X.prog X.K X.mg C fI F) (iC : PySem.W.findIn X.K (.ref C) "__init__" = some (some (.ref fI))) (tI : PySem.W.typeIn X.K (.ref fI) = some (.type "function"))
    (hr : Room (k + 2) X.A) (mono : ∀ σ H (Q Q' : VK), (∀ v H', Q v H' → Q' v H') → te σ H Q → te σ H Q') (hg : Gl X x) (hm : X.mg x = some (.ref C)) (he : PE X e te) (hdb : (x == ("__debug__" : Str)) = false) (hs : starEach [e] X.env = [(false, eval e X.env)]) :
    PMk X (.Call (.Name x p) [e] [] pos) (fun σ H Q => te σ H fun v H1 => ∃ z : Str, v = .str z ∧ z.length ≤ 1000000 ∧ ∀ d, H1 d = none → Q (.ref C) (some d) (upd H1 d (.xd [("word", .str z)]))) := by
  obtain ⟨oc, od, doc, pm, ctv, osl, lk⟩ := N.lk
  have F1 : FnOk X.prog X.w X.K X.mg X.base (L2.CX X.prog X.w) (0 + 1) fI (F.fd doc pm ctv) ["self", "word"] (spNF C) := fn_nf N lk
  have q := pmk_oex (X := X) (CX := L2.CX X.prog X.w) (pos := pos) (p := p) (k := 0 + 1) (ds := []) (dvs := []) N.T iC tI F1 (hr.mono (show 0 + 1 + 1 ≤ k + 2 by omega)) (.all (N.bnd doc pm ctv)) .nil (fun _ _ _ _ _ _ _ c => by
    obtain ⟨_, _, _, _, _, _, _, _, _, _, _, _, z⟩ := c
    exact z.elim) hg hm (pa_cons he pa_nil (by rw [hs]; rfl)) hdb (by rw [hs]; rfl) rfl
  intro pins s σ H Q I h
  refine q pins s σ H Q I ?_
  refine mono _ _ _ _ (fun v H1 ⟨z, hv, hz, hQ⟩ => ?_) h
  refine ⟨by simp, fun a ha => ?_⟩
  refine ⟨a, z, by rw [hv]; rfl, hz, upd_same, fun dx hd hda => ?_⟩
  have hd1 : H1 dx = none := by rw [upd_ne hda] at hd; exact hd
  refine ⟨rfl, dx, [("word", .str z)], upd_same, by rw [upd_ne hda, upd_same], hd1, ?_⟩
  have e : upd (del (upd (upd (upd H1 a (exo a C none)) dx (exd dx [("word", .str z)])) a (exo a C (some dx))) a) dx (.xd [("word", .str z)]) = upd H1 dx (.xd [("word", .str z)]) := by
    funext b
    by_cases hb : b = dx
    · rw [hb, upd_same, upd_same]
    · rw [upd_ne hb, upd_ne hb]
      by_cases hb2 : b = a
      · rw [hb2, del_same, ha]
      · rw [del_ne hb2, upd_ne hb2, upd_ne hb, upd_ne hb2]
  rw [e]
  exact hQ dx hd1
end Mi
set_option maxHeartbeats 2000000
namespace Mi
open PySem PySem.Spec PyProof.Rows L2 NdefX
theorem fn_nfH {P : Program} {w : World} {K : PySem.W.Frag} {mg : Str → Option Value} {base : Heap} {CX : CXT} {k : Nat} {C f : Addr} {F : NF} (N : NfFacts P K mg C f F) {oc : Value} {od : Option Addr} {doc pm ctv : Value} {osl : Array (Option Value)} (lk : K.lookup f = some ⟨oc, od, .func (F.fd doc pm ctv), osl⟩) :
    L2H.FnH P w K mg base CX (k + 1) f (F.fd doc pm ctv) ["self", "word"] (spNF C) := by
  obtain ⟨cc, ccl, ccd, ccs, hcl, lkc⟩ := N.cl
  obtain ⟨vcl, vcd, cvs, vcs, file, tf, lkv, hvs, hfile⟩ := N.code
  obtain ⟨q1, q2, q3, q4, p0, p1, p2, p3, p4, p5, q5, q6, q7, j, m, hbody, hm, pl, heval⟩ := N.body
  obtain ⟨ar, hpar, harg⟩ := N.par
  refine ⟨fun vs H Q E h => by obtain ⟨a, z, rfl, _⟩ := h; rfl, fun A outer s H args us vs Q E pp hr hot hpin e0 hb r hsp => ?_⟩
  obtain ⟨a, z, rfl, hz, ha, hQ⟩ := hsp
  have KX : K.In s.heap := e0.mod.kin.keeps fun b o e => (e0.bs b o e).1
  have lim : s.heap.NoLimit := e0.mod.nolimit.keeps fun b o e => (e0.bs b o e).1
  have bcc := e0.bs cc _ (e0.mod.kin _ _ lkc)
  have Cs : CellsAt F.cl ["__class__"] [some (.ref C)] s.heap H := by
    rw [hcl]
    refine ⟨rfl, fun y c e => ?_, fun x y c e1 e2 => ?_, fun i y e => ?_⟩
    · obtain ⟨_, rfl⟩ := lookup1 e
      exact ⟨bcc.2, _, _, bcc.1, rfl⟩
    · exact (lookup1 e1).1.trans (lookup1 e2).1.symm
    · cases i with
      | zero =>
        simp only [List.getElem?_cons_zero, Option.some.injEq] at e
        subst e
        exact ⟨cc, by simp, fun v ev => by
          simp only [List.getElem?_cons_zero, Option.some.injEq] at ev
          subst ev
          exact ⟨.ref C, rfl, _, bcc.1, rfl⟩⟩
      | succ i => simp at e
  refine PySem.ks_codeAny_call_defAt (fd := F.fd doc pm ctv) (body := F.body) hr.depth (KX _ _ lk) rfl lim (PySem.W.codeRec_of KX N.hcd) rfl hb N.S.nocell (fun x hx => N.S.par x.1 (List.of_mem_zip hx).1) (fun h₁ hns kp => ?_) N.S.co N.S.gen N.S.kind
  have I : L2.Inv (ncxH CX P w K mg base ["self", "word", "__class__"] F f A outer s H E pp) [] (startF ["self", "word", "__class__"] [.ref a, .str z] [some (.ref C)]) H { s with heap := h₁, toks := s.toks + ((["self", "word"] : List Str).zip us).length } :=
    inv_startNH N.S hpin e0 rfl r Cs hns kp
  rw [hbody]
  have kself : F.scope.names.lookup ("self" : Str) = some .local := N.S.par "self" (by simp)
  have kword : F.scope.names.lookup ("word" : Str) = some .local := N.S.par "word" (by simp)
  refine PySem.ks_wpAt_execs_cons (PySem.ks_wpAt_Assign_Attr (wpAt_of_wpAny (thn ((pe_var (X := ncxH CX P w K mg base ["self", "word", "__class__"] F f A outer s H E pp) (i := 1) (x := "word") (pos := q3) rfl (.inl kword)).run [] _ _ H (fun x H' => x = .str z ∧ H' = H) I ⟨.str z, rfl, rfl, rfl⟩) fun u s1 ⟨x, H1, I1, r1, ex, eH⟩ => ?_)))
  subst ex eH
  refine thn ((pe_var (X := ncxH CX P w K mg base ["self", "word", "__class__"] F f A outer s H1 E pp) (i := 0) (x := "self") (pos := q1) rfl (.inl kself)).run [] _ _ H1 (fun x H' => x = .ref a ∧ H' = H1) I1 ⟨.ref a, rfl, rfl, rfl⟩) fun u2 s2 ⟨x2, H2, I2, r2, ex2, eH2⟩ => ?_
  subst ex2 eH2
  obtain rfl : u2 = Value.ref a := r2
  refine ost_new N.T I2 ha N.hno r1 fun dx s3 hdx hdxa I3 => ?_
  have K3 : K.In s3.heap := I3.kIn
  obtain ⟨nm, qn, Nn, bs, bm, sn, sb, ab, col, dd, k0, k1, k2, k3, k5, hC, hbm⟩ := N.T.cls
  have hD := K3 _ _ hC
  obtain ⟨t1, hx⟩ := exo_at (e := a) I3.hok upd_same
  obtain ⟨mA, ⟨oD, esD, epD, hoD, _⟩, _⟩ := exd_at (dx := dx) I3.hok (by rw [upd_ne hdxa]; exact upd_same)
  have hcd : PySem.W.clsIn K C = some { name := nm, bases := bs, mro := .ref C :: bm, ns := Nn, qualname := qn, hasDict := true, slotNames := sn, subclasses := sb, abstract := ab, collection := col, hasDel := false } := by unfold PySem.W.clsIn; rw [hC] <;> rfl
  refine PySem.ks_wpAt_execs_cons (PySem.ks_wpAt_Expr_any (PySem.ks_wpAt_MethodCall (PySem.ks_wpAt_super_base (f := f) (cc := F.c) N.sup (N.S.frk "__class__" (by simp)) rfl rfl (K3 _ _ lk) rfl hpar rfl (K3 _ _ lkv) rfl hvs hfile N.htop ?_) (heval _)) I3.quiet)
  obtain ⟨mb, hb1, hb2⟩ := I3.mod.blt
  refine PySem.W.ks_loadName_global N.S.kind N.sup (Calls.loadGlobal_builtin (I3.mod.glob.keeps I3.bk) N.mgs (hb1.keeps I3.bk) ((hb2 "super" (by decide)).trans (show bootBuiltins "super" = some (.type "super") by decide +kernel)) ⟨rfl, ?_⟩)
  refine wpAny_loadName_free N.S.kind (N.S.frk "__class__" (by simp)) (c := cc) (v := .ref C) (show F.cl.lookup ("__class__" : Str) = some cc by rw [hcl]; rfl) ⟨_, K3 _ _ lkc, rfl⟩ ?_
  obtain ⟨mL, hnL, hlL⟩ := I3.loc
  obtain ⟨us0, rs0, hs0⟩ := hlL 0 "self" (.ref a) rfl rfl (.inl kself)
  obtain rfl : us0 = Value.ref a := rs0
  have hmL : mL "self" = some (.ref a) := by
    rcases hs0 with ⟨_, h⟩ | ⟨h, _⟩
    · exact h
    · have h : F.scope.names.lookup ("self" : Str) = some .cell ∨ F.scope.names.lookup ("self" : Str) = some .free := h
      rw [kself] at h
      rcases h with h | h <;> cases h
  rw [harg]
  refine wpAny_loadName_local N.S.kind kself hnL hmL ?_
  obtain ⟨hp3, g3, d3, tk3, os3⟩ := s3
  refine PySem.ks_wpAny_isType_cls hD rfl ⟨rfl, ?_⟩
  have hsub : PySem.W.Looks (model P w) hp3 (isSubtype (.ref C) (.ref C)) true := PySem.W.looks_mroIn K3 N.mroC
  refine PySem.ks_wpAny_call_super hD rfl hx rfl (fun c e => by cases e) hsub (fun h4 hso kp4 => ?_)
  have I4 := I3.kept (t' := tk3) kp4
  have K4 : K.In h4 := I4.kIn
  have hx4 := kp4 _ _ hx
  have hxC : a ≠ C := fun e => by
    rw [e] at hx
    have z := hx.symm.trans hD
    cases z
  have hI4 : PySem.W.Looks (model P w) h4 (isInstance (.ref a) (.type "ValueError")) true := by
    have I : PySem.W.InstAt h4 a { cls := .ref C, dict := some dx, data := .fields #[.ref t1, .none, .none, .none, .bool false, .none] } C (some oD) := ⟨hx4, rfl, rfl, kp4 _ _ hoD⟩
    exact I.type.andThen (PySem.W.looks_subIn K4 N.subV)
  refine PySem.W.kxs_getMethod PySem.W.kxs_ValueError hso (PySem.W.looks_opaque K4 N.opq) (l₀ := .ref C :: bm) ?_ rfl K4 (by have := N.ini; unfold PySem.W.ks_superIn at this; rw [hcd] at this; exact this) hI4 hxC rfl ?_
  · exact (PySem.W.looks_clsIn K4 hcd).andThen .now
  have I5 : L2.Inv _ [] _ _ ({ heap := h4.push (PySem.W.kxs_mw "ValueError.__init__" a), gens := g3, drawn := d3, toks := tk3 + 1, os := os3 } : Shared) := I4.kept (t' := tk3 + 1) fun b o e => Heap.get?_push_of_some _ e
  have fp := I4.fpOk (Nat.le_refl _) (I4.hok.fresh (Nat.le_refl h4.objs.size))
  have I6 := I5.pins_of (pins' := [(h4.objs.size, PySem.W.kxs_mw "ValueError.__init__" a)]) (by
    intro p hp
    have e : p = (h4.objs.size, PySem.W.kxs_mw "ValueError.__init__" a) := by simpa using hp
    subst e
    exact ⟨Heap.get?_push_size _ rfl, fp.1, fp.2.1, fp.2.2.1, fun v e => by cases e⟩)
  refine PySem.W.kxs_callWith (i := "ValueError.__init__") (x := a) rfl (Calls.evalArgs_plain ?_)
  have ha4 : (upd (upd H2 dx (exd dx [(("word" : Str), V.str z)])) a (exo a C (some dx))) a = some (exo a C (some dx)) := upd_same
  have pj : PJ (ncxH CX P w K mg base ["self", "word", "__class__"] F f A outer s H2 E pp) [.Constant (.str m) j q5, .FormattedValue (.Name "word" q6) (-1) none q7] [tC (.str m), tFmt (tVar 1)] :=
    .cons pe_str (.cons (pe_fmt (pe_var (i := 1) (x := "word") rfl (.inl kword))) .nil)
  have hmz : (Str.empty ++ m).length ≤ sizeLine := by
    rw [sizeLine_eq]
    show (Str.append Str.empty m).length ≤ _
    unfold Str.append Str.length
    rw [Array.size_append]
    have : m.cps.size ≤ 1000 := hm
    have e : Str.empty.cps.size = 0 := rfl
    omega
  have hmz2 : ((Str.empty ++ m) ++ z).length ≤ sizeLine := by
    rw [sizeLine_eq]
    show (Str.append (Str.append Str.empty m) z).length ≤ _
    unfold Str.append Str.length
    rw [Array.size_append, Array.size_append]
    have h1 : m.cps.size ≤ 1000 := hm
    have h2 : z.cps.size ≤ 1000000 := hz
    have e : Str.empty.cps.size = 0 := rfl
    omega
  have hzl : z.length ≤ sizeLine := by rw [sizeLine_eq]; omega
  refine thn ((pa_cons (pe_joined (pos := p3) pj) pa_nil rfl).run p4 _ _ _ _ (fun vs H' => ∃ out, vs = [.str out] ∧ H' = upd (upd H2 dx (exd dx [(("word" : Str), V.str z)])) a (exo a C (some dx))) I6 ⟨m, rfl, hmz, .str z, rfl, .inl ⟨z, rfl, hzl, z, rfl, hmz2, _, rfl, rfl⟩⟩) fun us6 s6 ⟨vs6, H6, I7, r6, out, ev6, eH6⟩ => ?_
  subst ev6 eH6
  have hmw := (I7.pin (h4.objs.size, PySem.W.kxs_mw "ValueError.__init__" a) (by simp)).1
  refine ⟨hmw, ?_⟩
  obtain ⟨t6, hx6⟩ := exo_at (e := a) I7.hok ha4
  have hus : us6.length ≤ sizeLine := by
    have := r6.length
    rw [← this, sizeLine_eq]
    exact (show (1 : Nat) ≤ 16777216 by decide)
  obtain ⟨h6, g6, d6, tk6, os6⟩ := s6
  refine wpAny_call (codeAny_of_tree ?_)
  show wpAny _ _ (callAny (.ref h4.objs.size) ⟨us6, []⟩) _ _ _
  simp only [callAny]
  refine wpAny_bind (wpAny_load hmw ?_)
  simp only [PySem.W.kxs_mw, show (Value.type "method-wrapper" == Value.type "method" || Value.type "method-wrapper" == Value.type "builtin_function_or_method" || Value.type "method-wrapper" == Value.type "method-wrapper") = true by decide, if_true]
  refine PySem.W.KFB.if_so (by decide) ?_
  have hC6 := I7.kIn _ _ hC
  refine wpAny_bind (PySem.W.check_bound_init PySem.F.excBase_ValueError.toExcCallFacts hC6 hx6 rfl ?_)
  refine wpAny_bind (wpAny_pure (wpAny_pure ?_))
  refine ⟨plainId_quiet PySem.F.excBase_ValueError.init.plain _, codeAny_builtin PySem.F.excBase_ValueError.initEntry ?_⟩
  refine PySem.W.exc_init_tree hx6 hus fun h7 k7 hx7 _ => ?_
  have I8 := I7.write (t' := tk6) (x := a) (e := a) (o := exo a C (some dx)) (by rw [ha4]; exact True.intro) (.inl rfl) k7 ⟨_, hx7⟩ (exo_ok hx7)
  have eu : upd (upd (upd H2 dx (exd dx [(("word" : Str), V.str z)])) a (exo a C (some dx))) a (exo a C (some dx)) = upd (upd H2 dx (exd dx [(("word" : Str), V.str z)])) a (exo a C (some dx)) := by
    funext b
    by_cases hb : b = a
    · rw [hb, upd_same, upd_same]
    · rw [upd_ne hb]
  rw [eu] at I8
  refine wpAt_of_wpAny (wpAny_execs_nil ?_)
  exact ⟨.non, _, I8.os, I8.bare, I8.base, I8.hok, rfl, hQ dx hdx hdxa⟩
theorem pmk_oexN {Y : Cx} {cxt : CXT} {nm : Str} {C g : Addr} {n : Nat} {fu : FuncData} {pl : List Str} {spec : Sp} {e1 : PySem.Expr} {er : List PySem.Expr} {tArgs : TA} {p0 ps0 : Pos} (oc : OexC Y.K C) (iN : PySem.W.findIn Y.K (.ref C) "__init__" = some (some (.ref g))) (tN : PySem.W.typeIn Y.K (.ref g) = some (.type "function"))
    (fo : FnOk Y.prog Y.w Y.K Y.mg Y.base cxt n g fu pl spec) (ro : Room (n + 1) Y.A) (bi : Binds Y.K fu pl []) (no : Passes cxt Y (fun _ _ _ => False)) (gl : Gl Y nm) (mgC : Y.mg nm = some (.ref C)) (pa : PA Y (e1 :: er) tArgs)
    (dbg : (nm == ("__debug__" : Str)) = false) (st1 : starEach (e1 :: er) Y.env = (false, eval e1 Y.env) :: starEach er Y.env) (st2 : (backTo ps0 (starEach er Y.env)).any (·.1) = false) :
    L2N.PMk Y (.Call (.Name nm p0) (e1 :: er) [] ps0) (tMkO C spec [] tArgs) := by
  intro pinned sh st hp0 QQ Iv hh
  obtain ⟨cn, cq, cN, cbs, cbm, csn, csub, cab, ccol, cdd, c0, c1, c2, c3, c5, hCls, hBm⟩ := oc.cls
  refine wpAny_Call_Name_kw (ld_glob Iv gl mgC ?_ dbg)
  refine PySem.W.callWith_K (h₀ := Y.base) Iv.ok.mod.kin oc.kC (thn (pa.run ps0 pinned sh st hp0 _ Iv hh) fun uu sh1 ⟨vv, hpA, IA, rA, _, qA⟩ => ⟨IA.kIn, ?_⟩) st1 st2
  show wpAny _ _ (call (.ref C) uu) _ _ _
  obtain ⟨hea, gns, drw, tks, oss⟩ := sh1
  have big : hea.objs.size ≤ hea.objs.size + 1 := Nat.le_add_right _ 1
  have free1 : hpA (hea.objs.size + 1) = none := IA.hok.fresh big
  have qB := qA (hea.objs.size + 1) free1
  rw [List.append_nil] at qB
  have keep : ∀ b o, hea.get? b = some o → ((hea.push (PySem.W.kdv_tup uu)).push (PySem.HandSPX.excO C hea.objs.size)).get? b = some o := fun b o z => Heap.get?_push_of_some _ (Heap.get?_push_of_some _ z)
  have atN : ((hea.push (PySem.W.kdv_tup uu)).push (PySem.HandSPX.excO C hea.objs.size)).get? (hea.objs.size + 1) = some (PySem.HandSPX.excO C hea.objs.size) := by heap_get
  have IB : L2.Inv Y pinned st (upd hpA (hea.objs.size + 1) (exo (hea.objs.size + 1) C none)) ⟨(hea.push (PySem.W.kdv_tup uu)).push (PySem.HandSPX.excO C hea.objs.size), gns, drw, tks, oss⟩ :=
    IA.laid (t' := tks) (a := hea.objs.size + 1) (o := exo (hea.objs.size + 1) C none) (h' := (hea.push (PySem.W.kdv_tup uu)).push (PySem.HandSPX.excO C hea.objs.size)) keep big (exo_ok atN)
  have rB : Vals (V.ref (hea.objs.size + 1) :: vv) (Value.ref (hea.objs.size + 1) :: uu) := .cons rfl rA
  have lenB : (Value.ref (hea.objs.size + 1) :: uu ++ []).length = pl.length := by
    have z := rB.length
    rw [fo.len _ _ _ _ qB] at z
    rw [List.append_nil]
    exact z.symm
  have small : uu.length ≤ sizeLine := by
    rw [← Paired.length rA, sizeLine_eq]
    omega
  have bnd2 := bi _ (Value.ref (hea.objs.size + 1) :: uu) IB.kIn lenB
  rw [List.append_nil] at bnd2
  refine wpAny_call (PySem.HandSPX.call_own F.excBase_ValueError (fun Z => PySem.HandSPX.refsVE_contains Z cbm hBm) (IA.kIn _ _ hCls) (PySem.W.looks_findIn IA.kIn iN) (fun me => PySem.W.bind_fn IA.kIn me tN) small
    (codeAny_mono (fo.run _ Y.stack _ _ ⟨Value.ref (hea.objs.size + 1) :: uu, []⟩ (Value.ref (hea.objs.size + 1) :: uu) _ _ (fun _ _ _ => False) (ro.make C uu []) (IB.env0.make C uu []) bnd2 rB qB) fun r s' hq' => ?_))
  cases r with
  | error er => exact no pinned st _ _ er s' IB hq'
  | ok fl =>
    cases fl with
    | ret u =>
      obtain ⟨v, hp2, os2, bar2, un2, hok2, rv, ev, dd, flds, ea, ed, fresh2, q2⟩ := hq'
      subst ev
      obtain ⟨h2, g2, d2, t2, os'⟩ := s'
      obtain ⟨t0, GG, JJ, kG, gone, hoe, na⟩ := mk_end0 (d2 := d2) (t2 := t2) IA big keep un2 hok2 os2 bar2 ea ed fresh2
      refine ⟨rv, hea.objs.size + 1, _, _, ⟨GG, g2, d2, t2, os'⟩, _, .ref C, some dd, rfl, JJ, kG, gone, hoe, ⟨rfl, rfl, fun vs hv => ?_⟩, rfl, rfl, na, rfl, bar2, raises_own oc.exC oc.tyC, q2⟩
      cases hv
      rfl
    | next => exact False.elim hq'
    | brk => exact False.elim hq'
    | cont => exact False.elim hq'
theorem nf_clean {H1 : Hp} {a dx C : Addr} {z : Str} (ha : H1 a = none) : upd (del (upd (upd (upd H1 a (exo a C none)) dx (exd dx [("word", .str z)])) a (exo a C (some dx))) a) dx (.xd [("word", .str z)]) = upd H1 dx (.xd [("word", .str z)]) := by
  funext b
  by_cases hb : b = dx
  · rw [hb, upd_same, upd_same]
  · rw [upd_ne hb, upd_ne hb]
    by_cases hb2 : b = a
    · rw [hb2, del_same, ha]
    · rw [del_ne hb2, upd_ne hb2, upd_ne hb, upd_ne hb2]
theorem tmk_nf {C : Addr} {te : TE} {ta : TA} {σ : L2.St} {H : Hp} {Q : XK} (h : te σ H fun v H1 => ∃ z : Str, v = .str z ∧ z.length ≤ 1000000 ∧ ∀ d, H1 d = none → Q (.ref C) (some d) (upd H1 d (.xd [("word", .str z)])))
    (mono : ∀ σ H (Q Q' : VK), (∀ v H', Q v H' → Q' v H') → te σ H Q → te σ H Q') (hta : ∀ Qa : List V → Hp → Prop, te σ H (fun v H1 => Qa [v] H1) → ta σ H Qa) : tMkO C (spNF C) [] ta σ H Q := by
  refine hta _ (mono _ _ _ _ (fun v H1 ⟨z, hv, hz, hQ⟩ => ?_) h)
  refine ⟨by simp, fun a ha => ?_⟩
  refine ⟨a, z, by rw [hv]; rfl, hz, upd_same, fun dx hd hda => ?_⟩
  have hd1 : H1 dx = none := by rw [upd_ne hda] at hd; exact hd
  refine ⟨rfl, dx, [("word", .str z)], upd_same, by rw [upd_ne hda, upd_same], hd1, ?_⟩
  rw [nf_clean ha]
  exact hQ dx hd1
theorem pmk_nfN {X : Cx} {C fI : Addr} {F : NF} {k : Nat} {x : Str} {e : PySem.Expr} {te : TE} {p pos : Pos} (N : NfFacts X.prog X.K X.mg C fI F) (iC : PySem.W.findIn X.K (.ref C) "__init__" = some (some (.ref fI))) (tI : PySem.W.typeIn X.K (.ref fI) = some (.type "function"))
    (hr : Room (k + 2) X.A) (mono : ∀ σ H (Q Q' : VK), (∀ v H', Q v H' → Q' v H') → te σ H Q → te σ H Q') (hg : Gl X x) (hm : X.mg x = some (.ref C)) (he : PE X e te) (hdb : (x == ("__debug__" : Str)) = false) (hs : starEach [e] X.env = [(false, eval e X.env)]) :
    L2N.PMk X (.Call (.Name x p) [e] [] pos) (fun σ H Q => te σ H fun v H1 => ∃ z : Str, v = .str z ∧ z.length ≤ 1000000 ∧ ∀ d, H1 d = none → Q (.ref C) (some d) (upd H1 d (.xd [("word", .str z)]))) := by
  obtain ⟨oc, od, doc, pm, ctv, osl, lk⟩ := N.lk
  have F1 : FnOk X.prog X.w X.K X.mg X.base (L2.CX X.prog X.w) (0 + 1) fI (F.fd doc pm ctv) ["self", "word"] (spNF C) := fn_nf N lk
  have q := pmk_oexN (Y := X) (cxt := L2.CX X.prog X.w) (ps0 := pos) (p0 := p) (n := 0 + 1) N.T iC tI F1 (hr.mono (show 0 + 1 + 1 ≤ k + 2 by omega)) (.all (N.bnd doc pm ctv)) (fun _ _ _ _ _ _ _ c => by
    obtain ⟨_, _, _, _, _, _, _, _, _, _, _, _, z⟩ := c
    exact z.elim) hg hm (pa_cons he pa_nil (by rw [hs]; rfl)) hdb (by rw [hs]; rfl) rfl
  exact fun pins s σ H Q I h => q pins s σ H Q I (tmk_nf h mono fun Qa w => w)
theorem pmk5_nfH {X : Cx} {C fI : Addr} {F : NF} {k : Nat} {x : Str} {e : PySem.Expr} {te : TE} {p pos : Pos} (N : NfFacts X.prog X.K X.mg C fI F) (iC : PySem.W.findIn X.K (.ref C) "__init__" = some (some (.ref fI))) (tI : PySem.W.typeIn X.K (.ref fI) = some (.type "function"))
    (hr : L2H.RoomH (k + 2) X.A) (hot : L2H.HotC X) (mono : ∀ σ H (Q Q' : VK), (∀ v H', Q v H' → Q' v H') → te σ H Q → te σ H Q') (hg : Gl X x) (hm : X.mg x = some (.ref C)) (he : PE X e te) (hdb : (x == ("__debug__" : Str)) = false) (hs : starEach [e] X.env = [(false, eval e X.env)]) :
    L2H.PMk5 X (.Call (.Name x p) [e] [] pos) (fun σ H Q => te σ H fun v H1 => ∃ z : Str, v = .str z ∧ z.length ≤ 1000000 ∧ ∀ d, H1 d = none → Q (.ref C) (some d) (upd H1 d (.xd [("word", .str z)]))) := by
  obtain ⟨oc, od, doc, pm, ctv, osl, lk⟩ := N.lk
  have F1 : L2H.FnH X.prog X.w X.K X.mg X.base (L2.CX X.prog X.w) (0 + 1) fI (F.fd doc pm ctv) ["self", "word"] (spNF C) := fn_nfH N lk
  have q := L2H.pmk5_oexH (X := X) (CX := L2.CX X.prog X.w) (pos := pos) (p := p) (k := 0 + 1) N.T iC tI F1 (hr.mono (show 0 + 1 + 1 ≤ k + 2 by omega)) hot (.all (N.bnd doc pm ctv)) (fun _ _ _ _ _ _ _ c => by
    obtain ⟨_, _, _, _, _, _, _, _, _, _, _, _, z⟩ := c
    exact z.elim) hg hm (pa_cons he pa_nil (by rw [hs]; rfl)) hdb (by rw [hs]; rfl) rfl
  exact fun pins s σ H Q I h => q pins s σ H Q I (tmk_nf h mono fun Qa w => w)
end Mi
namespace Mi
open PySem PySem.Spec PyProof.Rows L2
def RX (K : PySem.W.Frag) (H : Hp) (x : Exc) (c : Value) (dx : Option Addr) : Prop := c = .ref (gAd K x.cls) ∧ (match dx with
  | none => x.fs = []
  | some d => ∃ ws, H d = some (.xd ws) ∧ RF K H x.fs ws)
def KXs (K : PySem.W.Frag) (F H : Hp) (Xd : KX) (E : XK) : Prop := ∀ x S' c dx H', Xd x S' → Ext H H' → Rel K S' F H' → RX K H' x c dx → E c dx H'
theorem KXs.ext {K : PySem.W.Frag} {F H H1 : Hp} {Xd : KX} {E : XK} (h : KXs K F H Xd E) (e : Ext H H1) : KXs K F H1 Xd E := fun x S' c dx H' q e' r rx => h x S' c dx H' q (e.trans e') r rx
theorem KXs.no {K : PySem.W.Frag} {F H : Hp} {E : XK} : KXs K F H (fun _ _ => False) E := fun _ _ _ _ _ q => q.elim
abbrev WE1 := En → Sto → KD → KX → Prop
def LE (K : PySem.W.Frag) (W : WX) (w : WE1) : TE := fun τ H Q => ∃ σ S F Qd Xd, Rel K S F H ∧ RS K H σ τ ∧ w σ S Qd Xd ∧ KV K F H Qd Q ∧ KXs K F H Xd (WE W τ)
def LT (K : PySem.W.Frag) (W : WX) (w : En → Sto → (Bool → Sto → Prop) → KX → Prop) : TT := fun τ H Q => ∃ σ S F Qd Xd, Rel K S F H ∧ RS K H σ τ ∧ w σ S Qd Xd ∧ (∀ b S' H', Qd b S' → Ext H H' → Rel K S' F H' → Q b H') ∧ KXs K F H Xd (WE W τ)
def LA (K : PySem.W.Frag) (W : WX) (w : En → Sto → (List D → Sto → Prop) → KX → Prop) : TA := fun τ H Q => ∃ σ S F Qd Xd, Rel K S F H ∧ RS K H σ τ ∧ w σ S Qd Xd ∧ (∀ ds S' vs H', Qd ds S' → Ext H H' → Rel K S' F H' → RDs K H' ds vs → Q vs H') ∧ KXs K F H Xd (WE W τ)
def LOp (K : PySem.W.Frag) (W : WX) (w : En → Sto → (Option Int → Sto → Prop) → KX → Prop) : TO := fun τ H Q => ∃ σ S F Qd Xd, Rel K S F H ∧ RS K H σ τ ∧ w σ S Qd Xd ∧ (∀ o S' H', Qd o S' → Ext H H' → Rel K S' F H' → Q o H') ∧ KXs K F H Xd (WE W τ)
def RDw (K : PySem.W.Frag) (H : Hp) (wk : Bool) (d : D) (v : V) : Prop := match wk with
  | false => RD K H d v
  | true => ∃ l a vs, d = .tup l ∧ v = .ref a ∧ SqT K H a vs ∧ RDs K H l vs
def Off (sl : List Nat) (τ τ' : L2.St) : Prop := τ'.length = τ.length ∧ ∀ i, i ∉ sl → τ'[i]? = τ[i]?
theorem Off.refl {sl : List Nat} {τ : L2.St} : Off sl τ τ := ⟨rfl, fun _ _ => rfl⟩
theorem Off.trans {a b : List Nat} {τ τ1 τ2 : L2.St} (h : Off a τ τ1) (g : Off b τ1 τ2) : Off (a ++ b) τ τ2 := ⟨g.1.trans h.1, fun i hi => by
  rw [List.mem_append, not_or] at hi
  rw [g.2 i hi.2, h.2 i hi.1]⟩
theorem Off.set {i : Nat} {τ : L2.St} {v : Option V} : Off [i] τ (τ.set i v) := ⟨by simp, fun j hj => by
  rw [List.getElem?_set_ne]
  intro e; subst e; simp at hj⟩
def LG (K : PySem.W.Frag) (wk : Bool) (sl : List Nat) (w : D → En → (En → Prop) → Prop) : TG := fun v τ H Q => ∃ d σ Qd, RDw K H wk d v ∧ RS K H σ τ ∧ w d σ Qd ∧ ∀ σ' τ', Qd σ' → RS K H σ' τ' → Off sl τ τ' → Q τ' H
def LGs (K : PySem.W.Frag) (sl : List Nat) (w : List D → En → (En → Prop) → Prop) : TGs := fun vs τ H Q => ∃ ds σ Qd, RDs K H ds vs ∧ RS K H σ τ ∧ w ds σ Qd ∧ ∀ σ' τ', Qd σ' → RS K H σ' τ' → Off sl τ τ' → Q τ' H
structure WalkOk (K : PySem.W.Frag) (wk : Bool) (H0 : Hp) (J : It) (l : List D) (chk : Sto → Prop) : Prop where
  go : ∀ (F : Hp) (i : Nat) (d : D) (S : Sto) (H : Hp), l[i]? = some d → Rel K S F H → chk S → Ext H0 H → J.go i H ∧ ∀ x H', J.yld i H x H' → Ext H H' ∧ Rel K S F H' ∧ RDw K H' wk d x
  stop : ∀ (F : Hp) (S : Sto) (H : Hp), Rel K S F H → chk S → Ext H0 H → J.stop l.length H
def LI (K : PySem.W.Frag) (wk : Bool) (W : WX) (w : En → Sto → KI → KX → Prop) : TI := fun τ H R => ∃ σ S F Qd Xd, Rel K S F H ∧ RS K H σ τ ∧ w σ S Qd Xd ∧ (∀ l chk S' J H', Qd l chk S' → Ext H H' → Rel K S' F H' → WalkOk K wk H' J l chk → R J H') ∧ KXs K F H Xd (WE W τ)
structure Lk (K : PySem.W.Frag) (W : WX) (F H : Hp) (N : De) (D : Ends) : Prop where
  nx : ∀ σ S τ H', N.nx σ S → Ext H H' → Rel K S F H' → RS K H' σ τ → D.nx τ H'
  rt : ∀ d S v H', N.rt d S → Ext H H' → Rel K S F H' → RD K H' d v → D.rt v H'
  bk : ∀ σ S τ H', N.bk σ S → Ext H H' → Rel K S F H' → RS K H' σ τ → D.bk τ H'
  ct : ∀ σ S τ H', N.ct σ S → Ext H H' → Rel K S F H' → RS K H' σ τ → D.ct τ H'
  xr : ∀ x σ S τ c dx H', N.xr x σ S → Ext H H' → Rel K S F H' → RS K H' σ τ → RX K H' x c dx → W c dx τ H'
theorem Lk.ext {K : PySem.W.Frag} {W : WX} {F H H1 : Hp} {N : De} {D : Ends} (h : Lk K W F H N D) (e : Ext H H1) : Lk K W F H1 N D :=
  ⟨fun σ S τ H' q e' => h.nx σ S τ H' q (e.trans e'), fun d S v H' q e' => h.rt d S v H' q (e.trans e'), fun σ S τ H' q e' => h.bk σ S τ H' q (e.trans e'), fun σ S τ H' q e' => h.ct σ S τ H' q (e.trans e'),
   fun x σ S τ c dx H' q e' => h.xr x σ S τ c dx H' q (e.trans e')⟩
def LS (K : PySem.W.Frag) (W : WX) (w : De → En → Sto → Prop) : TS := fun D τ H => ∃ σ S F N, Rel K S F H ∧ RS K H σ τ ∧ w N σ S ∧ Lk K W F H N D
def LF (K : PySem.W.Frag) (g : FS) : Sp := fun vs H Q E => ∃ ds S F Qd Xd, Rel K S F H ∧ RDs K H ds vs ∧ g ds S Qd Xd ∧ KV K F H Qd Q ∧ KXs K F H Xd E
def cvOf (mg : Str → Option Value) (c : Str) : Value := match mg c with
  | some v => v
  | none => (bootBuiltins c).getD .none
structure SubC (K : PySem.W.Frag) (C : Addr) : Prop where
  ec : ExcC K C
  xf : XfC K C
  hno : PySem.W.findIn K (.ref C) "word" = some none
structure SubF (K : PySem.W.Frag) (mg : Str → Option Value) (x c : Str) (b : Bool) : Prop where
  nm : mg c = some (cvOf mg c) ∨ (mg c = none ∧ bootBuiltins c = some (cvOf mg c))
  rel : ∃ v, RelV v (cvOf mg c) ∧ ∀ u, RelV v u → u = cvOf mg c
  exm : PySem.W.exmOne K (.ref (gAd K x)) (cvOf mg c) = some b
  kit : PySem.W.kitOne K (.ref (gAd K x)) (cvOf mg c) = some b
  sc : SubC K (gAd K x)
structure ExcF (P : Program) (K : PySem.W.Frag) (mg : Str → Option Value) (x : Str) : Prop where
  mgx : mg x = some (.ref (gAd K x))
  ini : ∃ fI F, NfFacts P K mg (gAd K x) fI F ∧ PySem.W.findIn K (.ref (gAd K x)) "__init__" = some (some (.ref fI)) ∧ PySem.W.typeIn K (.ref fI) = some (.type "function")
def TkM (md : Bool) (X : Cx) (W : WX) : Prop := match md with
  | true => L2N.Takes X W
  | false => L2.Takes X W
def CXM (md : Bool) (P : Program) (w : World) : CXT := match md with
  | true => L2N.CX P w
  | false => L2.CX P w
theorem passM {md : Bool} {X : Cx} {W : WX} (tk : TkM md X W) (σ : L2.St) : PassesAt (CXM md X.prog X.w) X σ (WE W σ) := by
  cases md
  · exact passAt tk σ
  · exact L2N.passAt tk σ
theorem tk0 {md : Bool} {X : Cx} : TkM md X (fun _ _ _ _ => False) := by
  cases md
  · exact takes0
  · intro _ _ x
    obtain ⟨_, _, _, _, _, _, _, _, _, _, _, _, _, _, _, _, z⟩ := x
    exact z.elim
structure Link (P : Program) (w : World) (K : PySem.W.Frag) (mg : Str → Option Value) (base : Heap) (T : Tb) (Γ : Str → FS) (G : Str → Option D) (k : Nat) : Prop where
  free : ∀ x : Str, T.free.contains x = true → mg x = none
  mfn : ∀ (x : Str) (b : Bl), T.mfn.contains x = true → mfOf x = some b → mg x = some (blV b)
  glob : ∀ (x : Str) (d : D), T.glob.contains x = true → G x = some d → ∃ v u, mg x = some u ∧ RelV v u ∧ ∀ H, RD K H d v
  fns : ∀ x : Str, T.fns.contains x = true → ∃ f fd ps, mg x = some (.ref f) ∧ PySem.W.keepIn K (.ref f) = true ∧ Binds K fd ps [] ∧ FnOk P w K mg base (CXM T.md P w) k f fd ps (LF K (Γ x))
  cln : ∀ x : Str, T.cln.contains x = true → ∃ f fd ps, mg x = some (.ref f) ∧ PySem.W.keepIn K (.ref f) = true ∧ Binds K fd ps [] ∧ FnOk P w K mg base (L2N.CX P w) k f fd ps (LF K (Γ x))
  exc : ∀ x : Str, T.exc.contains x = true → ExcF P K mg x
  sub : ∀ (x c : Str) (b : Bool), (x, c, b) ∈ T.sub → SubF K mg x c b
structure Gd (T : Tb) (N : List Str) (Γ : Str → FS) (G : Str → Option D) (X : Cx) (W : WX) (sc : Scope) (own : Str → Bool) (k : Nat) : Prop where
  N_eq : X.N = N
  sc_eq : X.env.scope = sc
  nd : N.Nodup
  kd : sc.kind = .function
  room : Room k X.A
  k2 : 2 ≤ k
  calm : X.calm = true
  tk : TkM T.md X W
  po : PassesOwn (model X.prog X.w) X.A X.env X.xe
  own : ∀ x, own x = true → X.fn x = true
  lk : Link X.prog X.w X.K X.mg X.base T Γ G k
structure Stk (X : Cx) : Prop where
  stk : X.stack = X.env :: X.outer
  frm : X.env.frame = some X.env.locals
def PoA (X : Cx) : Prop := ∀ hd : Option Value, PassesOwnAt (model X.prog X.w) (X.A.mark hd) X.A X.env X.xe
end Mi
namespace Mi
open PySem PySem.Spec PyProof.Rows L2
variable {X : Cx} {T : Tb} {N : List Str} {Γ : Str → FS} {G : Str → Option D} {W : WX} {sc : Scope} {own : Str → Bool} {k : Nat}
theorem locIx_ok {fnc : Str → Bool} {x : Str} {i : Nat} (h : locIx N sc fnc x = some i) : N[i]? = some x ∧ (sc.names.lookup x = some .local ∨ (sc.names.lookup x = some .cell ∧ fnc x = true)) := by
  unfold locIx at h
  split at h
  case h_1 e => exact ⟨ixOf_get h, .inl e⟩
  case h_2 e =>
    split at h
    case isTrue f => exact ⟨ixOf_get h, .inr ⟨e, f⟩⟩
    case isFalse => cases h
  case h_3 => cases h
theorem cG_plain {n : Nat} {fnc : Str → Bool} {e : PySem.Expr} {t : Tg} (h : cG N n sc fnc e = some t) {env : Env} {es : List PySem.Expr} : assignEach (e :: es) env = (false, assign e env) :: assignEach es env := by
  cases n with
  | zero => simp [cG] at h
  | succ n => cases e <;> first | rfl | simp [cG] at h
theorem cGs_each {env : Env} : ∀ {n : Nat} {fnc : Str → Bool} {es : List PySem.Expr} {ts : Tgs}, cGs N n sc fnc es = some ts → (assignEach es env).length = es.length ∧ (assignEach es env).findIdx? (·.1) = none
  | 0, _, _, _, h => by simp [cGs] at h
  | _ + 1, _, [], _, h => ⟨rfl, rfl⟩
  | n + 1, fnc, e :: es, _, h => by
    simp only [cGs, bind, Option.bind_eq_some_iff, pure, Option.some.injEq] at h
    obtain ⟨t, h1, ts, h2, h3⟩ := h
    have ih := cGs_each (env := env) h2
    rw [cG_plain h1]
    exact ⟨by rw [List.length_cons, ih.1, List.length_cons], by rw [List.findIdx?_cons]; simp [ih.2]⟩
mutual
theorem sG (g : Gd T N Γ G X W sc own k) : ∀ (n : Nat) (e : PySem.Expr) (t : Tg) (wk : Bool), cG N n sc own e = some t → (wk = true → ∃ ts, t = .tup ts) → PG X e (LG X.K wk (tgSlots t) (wG t))
  | 0, _, _, _, h, _ => by simp [cG] at h
  | n + 1, e, t, wk, h, hw => by
    cases e with
    | Name x p =>
      simp only [cG, Option.map_eq_some_iff] at h
      obtain ⟨i, hi, rfl⟩ := h
      cases wk with
      | true => obtain ⟨ts, e⟩ := hw rfl; cases e
      | false =>
        obtain ⟨h1, h2⟩ := locIx_ok hi
        have hx : Loc X.env.scope x := by rw [g.sc_eq]; rcases h2 with h2 | h2; exact .inl h2; exact .inr h2.1
        have hf : X.fn x = true ∨ X.env.scope.names.lookup x = some .local := by
          rw [g.sc_eq]; rcases h2 with h2 | h2; exact .inr h2; exact .inl (g.own x h2.2)
        have q := pg_name (X := X) (pos := p) (i := i) (x := x) (by rw [g.N_eq]; exact g.nd) (by rw [g.N_eq]; exact h1) hx hf
        refine ⟨fun pins s τ H v u Q I r hq => q.run pins s τ H v u Q I r ?_⟩
        obtain ⟨d, σ, Qd, rd, rs, hw', fin⟩ := hq
        exact fin _ _ hw' (rs.set i rd) .set
    | Tuple es kk p =>
      simp only [cG, Option.map_eq_some_iff] at h
      obtain ⟨ts, hts, rfl⟩ := h
      have q := pg_tup (k := kk) (pos := p) g.calm (sGs g n es ts hts) (cGs_each hts).1 (cGs_each hts).2
      refine ⟨fun pins s τ H v u Q I r hq => q.run pins s τ H v u Q I r ?_⟩
      obtain ⟨d, σ, Qd, rd, rs, hw', fin⟩ := hq
      obtain ⟨l, a, vs, ed, ev, hs, hl⟩ : ∃ l a vs, d = .tup l ∧ v = .ref a ∧ SqT X.K H a vs ∧ RDs X.K H l vs := by
        cases wk with
        | true => exact rd
        | false =>
          have rd : RD X.K H d v := rd
          cases d with
          | tup l => obtain ⟨a, vs, e1, e2, e3⟩ := rd.tupi; exact ⟨l, a, vs, rfl, e1, e2, e3⟩
          | _ => exact (show False from hw').elim
      subst ed ev
      have hw' : wGs ts l σ Qd := hw'
      refine ⟨a, vs, rfl, hs, ?_, l, σ, Qd, hl, rs, hw', fin⟩
      rw [hl.length]
      exact wGs_len hts hw'
    | _ => simp [cG] at h
theorem sGs (g : Gd T N Γ G X W sc own k) : ∀ (n : Nat) (es : List PySem.Expr) (ts : Tgs), cGs N n sc own es = some ts → PGs X es (LGs X.K (tgsSlots ts) (wGs ts))
  | 0, _, _, h => by simp [cGs] at h
  | n + 1, es, ts, h => by
    cases es with
    | nil =>
      simp only [cGs, Option.some.injEq] at h
      subst h
      refine ⟨fun pins s τ H vs us Q I r hq => pgs_nil.run pins s τ H vs us Q I r ?_⟩
      obtain ⟨ds, σ, Qd, rd, rs, hw', fin⟩ := hq
      cases ds with
      | nil => rw [RDs] at rd; exact ⟨rd, fin _ _ hw' rs .refl⟩
      | cons d ds => exact (show False from hw').elim
    | cons e es =>
      simp only [cGs, bind, Option.bind_eq_some_iff, pure, Option.some.injEq] at h
      obtain ⟨t, h1, ts', h2, rfl⟩ := h
      have q := pgs_cons (sG g n e t false h1 (fun z => nomatch z)) (sGs g n es ts' h2) (by rw [cG_plain h1]; rfl)
      refine ⟨fun pins s τ H vs us Q I r hq => q.run pins s τ H vs us Q I r ?_⟩
      obtain ⟨ds, σ, Qd, rd, rs, hw', fin⟩ := hq
      cases ds with
      | nil => exact (show False from hw').elim
      | cons d ds =>
        rw [RDs] at rd
        obtain ⟨v, r', e1, r1, r2⟩ := rd
        have hw' : wG t d σ fun σ' => wGs ts' ds σ' Qd := hw'
        exact ⟨v, r', e1, d, σ, _, r1, rs, hw', fun σ' τ' q' rs' o => ⟨ds, σ', Qd, r2, rs', q', fun σ2 τ2 q2 r2 o2 => fin σ2 τ2 q2 r2 (o.trans o2)⟩⟩
theorem wGs_len : ∀ {n : Nat} {es : List PySem.Expr} {ts : Tgs} {l : List D} {σ : En} {Q : En → Prop}, cGs N n sc own es = some ts → wGs ts l σ Q → l.length = es.length
  | 0, _, _, _, _, _, h, _ => by simp [cGs] at h
  | n + 1, [], _, l, σ, Q, h, w => by
    simp only [cGs, Option.some.injEq] at h
    subst h
    cases l with
    | nil => rfl
    | cons d l => exact (show False from w).elim
  | n + 1, e :: es, _, l, σ, Q, h, w => by
    simp only [cGs, bind, Option.bind_eq_some_iff, pure, Option.some.injEq] at h
    obtain ⟨t, h1, ts', h2, rfl⟩ := h
    cases l with
    | nil => exact (show False from w).elim
    | cons d l =>
      have w : wG t d σ fun σ' => wGs ts' l σ' Q := w
      obtain ⟨σ', w'⟩ := wG_ex w
      rw [List.length_cons, List.length_cons, wGs_len h2 w']
theorem wG_ex : ∀ {t : Tg} {d : D} {σ : En} {Q : En → Prop}, wG t d σ Q → ∃ σ', Q σ'
  | .nm i, _, _, _, w => ⟨_, w⟩
  | .tup ts, d, σ, Q, w => by
    cases d with
    | tup l => exact wGs_ex (show wGs ts l σ Q from w)
    | _ => exact (show False from w).elim
theorem wGs_ex : ∀ {ts : Tgs} {l : List D} {σ : En} {Q : En → Prop}, wGs ts l σ Q → ∃ σ', Q σ'
  | .nil, l, σ, Q, w => by
    cases l with
    | nil => exact ⟨_, w⟩
    | cons d l => exact (show False from w).elim
  | .cons t ts, l, σ, Q, w => by
    cases l with
    | nil => exact (show False from w).elim
    | cons d l =>
      have w : wG t d σ fun σ' => wGs ts l σ' Q := w
      obtain ⟨σ', w'⟩ := wG_ex w
      exact wGs_ex w'
end
end Mi
namespace Mi
open PySem PySem.Spec PyProof.Rows L2
variable {X : Cx} {T : Tb} {N : List Str} {Γ : Str → FS} {G : Str → Option D} {W : WX} {sc : Scope} {own : Str → Bool} {k : Nat} {K : PySem.W.Frag} {F H0 : Hp}
theorem rdw {H : Hp} {d : D} {v : V} (h : RD K H d v) : RDw K H false d v := h
theorem walkL {a : Addr} {l : List D} : WalkOk K false H0 (Itl K a) l (fun S => S a = some (.lst l)) where
  go := fun F i d S H e rel chk ext => by
    obtain ⟨vs, h1, h2⟩ := rel.lst chk
    obtain ⟨v, e1, e2⟩ := h2.get e
    refine ⟨⟨vs, v, .of h1, e1⟩, fun x H' y => ?_⟩
    obtain ⟨rfl, y⟩ := y
    have := y vs (.of h1)
    rw [e1] at this
    cases this
    exact ⟨.refl, rel, e2⟩
  stop := fun F S H rel chk ext => by
    obtain ⟨vs, h1, h2⟩ := rel.lst chk
    exact ⟨vs, .of h1, by rw [h2.length]; exact Nat.le_refl _⟩
theorem walkR {a : Addr} {l : List D} : WalkOk K false H0 (Itl K a) l (fun S => S a = some (.rls l)) where
  go := fun F i d S H e rel chk ext => by
    obtain ⟨o, vs, h1, h2⟩ := rel.rls chk
    obtain ⟨v, e1, e2⟩ := h2.get e
    have hs : SqL K H a vs := .inl (.inr ⟨o, h1⟩)
    refine ⟨⟨vs, v, hs, e1⟩, fun x H' y => ?_⟩
    obtain ⟨rfl, y⟩ := y
    have := y vs hs
    rw [e1] at this
    cases this
    exact ⟨.refl, rel, e2⟩
  stop := fun F S H rel chk ext => by
    obtain ⟨o, vs, h1, h2⟩ := rel.rls chk
    exact ⟨vs, .inl (.inr ⟨o, h1⟩), by rw [h2.length]; exact Nat.le_refl _⟩
theorem walkT {a : Addr} {l : List D} {vs : List V} (hs : SqT K H0 a vs) (hl : RDs K H0 l vs) : WalkOk K false H0 (Itt K a) l (fun _ => True) where
  go := fun F i d S H e rel chk ext => by
    obtain ⟨v, e1, e2⟩ := hl.get e
    refine ⟨⟨vs, v, ext.sqT hs, e1⟩, fun x H' y => ?_⟩
    obtain ⟨rfl, y⟩ := y
    have := y vs (ext.sqT hs)
    rw [e1] at this
    cases this
    exact ⟨.refl, rel, e2.ext ext⟩
  stop := fun F S H rel chk ext => ⟨vs, ext.sqT hs, by rw [hl.length]; exact Nat.le_refl _⟩
theorem walkS {z : Str} (hz : PyData.strOk z = true) : WalkOk K false H0 (Its z) (z.cps.toList.map fun c => D.str ⟨#[c]⟩) (fun _ => True) where
  go := fun F i d S H e rel chk ext => by
    rw [List.getElem?_map, Option.map_eq_some_iff] at e
    obtain ⟨c, e1, e2⟩ := e
    subst e2
    have hi : i < z.cps.size := by simpa using (List.getElem?_eq_some_iff.mp e1).1
    refine ⟨hi, fun x H' y => ?_⟩
    obtain ⟨rfl, c', y1, rfl⟩ := y
    have : c' = c := by
      rw [Array.getElem?_toList] at e1
      rw [e1] at y1
      exact (Option.some.inj y1).symm
    subst this
    exact ⟨.refl, rel, rdw (.str <| strOk_sub hz fun d hd => by
      have : d = c' := by simpa using hd
      subst this
      exact List.mem_of_getElem? e1)⟩
  stop := fun F S H rel chk ext => by
    show z.cps.size ≤ _
    simp
theorem walkN {lo : Int} {n : Nat} : WalkOk K false H0 (Itr lo n) (rngD lo n) (fun _ => True) where
  go := fun F i d S H e rel chk ext => by
    unfold rngD at e
    rw [List.getElem?_map, Option.map_eq_some_iff] at e
    obtain ⟨j, e1, e2⟩ := e
    subst e2
    have hi : i < n := by simpa using (List.getElem?_eq_some_iff.mp e1).1
    rw [List.getElem?_range hi] at e1
    cases e1
    refine ⟨hi, fun x H' y => ?_⟩
    obtain ⟨rfl, rfl⟩ := y
    exact ⟨.refl, rel, rdw .int⟩
  stop := fun F S H rel chk ext => by
    show n ≤ _
    unfold rngD
    simp
theorem RDs.of_idx {K : PySem.W.Frag} {H : Hp} {i : Int} {d : D} {v : V} (h : RD K H d v) : RDs K H [.int i, d] [.int i, v] := .cons .int (.cons h .nil)
theorem enumD_get {l : List D} {i : Nat} {d : D} (h : (enumD l)[i]? = some d) : ∃ hi : i < l.length, d = .tup [.int i, l[i]] := by
  unfold enumD at h
  have hi : i < l.length := by
    have := (List.getElem?_eq_some_iff.mp h).1
    simpa using this
  refine ⟨hi, ?_⟩
  rw [List.getElem?_zipWith, List.getElem?_range hi, List.getElem?_eq_getElem hi] at h
  exact (Option.some.inj h).symm
theorem enumD_len {l : List D} : (enumD l).length = l.length := by
  unfold enumD
  simp
theorem walkE {a : Addr} {l : List D} : WalkOk K true H0 (Ite K a) (enumD l) (fun S => S a = some (.lst l)) where
  go := fun F i d S H e rel chk ext => by
    obtain ⟨vs, h1, h2⟩ := rel.lst chk
    obtain ⟨hi, rfl⟩ := enumD_get e
    obtain ⟨v, e1, e2⟩ := h2.get (List.getElem?_eq_getElem hi)
    refine ⟨⟨vs, v, .of h1, e1⟩, fun x H' y => ?_⟩
    obtain ⟨T, z, rfl, hT, rfl, y⟩ := y
    have := y vs (.of h1)
    rw [e1] at this
    cases this
    exact ⟨.new hT, rel.tup hT, _, T, _, rfl, rfl, .inl (.inl upd_same), (RDs.of_idx e2).ext (.new hT)⟩
  stop := fun F S H rel chk ext => by
    obtain ⟨vs, h1, h2⟩ := rel.lst chk
    exact ⟨vs, .of h1, by rw [h2.length, enumD_len]; exact Nat.le_refl _⟩
theorem walkER {a : Addr} {l : List D} : WalkOk K true H0 (Ite K a) (enumD l) (fun S => S a = some (.rls l)) where
  go := fun F i d S H e rel chk ext => by
    obtain ⟨o, vs, h1, h2⟩ := rel.rls chk
    obtain ⟨hi, rfl⟩ := enumD_get e
    obtain ⟨v, e1, e2⟩ := h2.get (List.getElem?_eq_getElem hi)
    have hs : SqL K H a vs := .inl (.inr ⟨o, h1⟩)
    refine ⟨⟨vs, v, hs, e1⟩, fun x H' y => ?_⟩
    obtain ⟨T, z, rfl, hT, rfl, y⟩ := y
    have := y vs hs
    rw [e1] at this
    cases this
    exact ⟨.new hT, rel.tup hT, _, T, _, rfl, rfl, .inl (.inl upd_same), (RDs.of_idx e2).ext (.new hT)⟩
  stop := fun F S H rel chk ext => by
    obtain ⟨o, vs, h1, h2⟩ := rel.rls chk
    exact ⟨vs, .inl (.inr ⟨o, h1⟩), by rw [h2.length, enumD_len]; exact Nat.le_refl _⟩
def iOf (K : PySem.W.Frag) (te : TE) : TI := fun σ H R => te σ H fun x H1 => (∃ a, x = .ref a ∧ (∃ xs, SqL K H1 a xs) ∧ R (Itl K a) H1) ∨ (∃ a, x = .ref a ∧ (∃ xs, SqT K H1 a xs) ∧ R (Itt K a) H1) ∨ ∃ z, x = .str z ∧ R (Its z) H1
theorem pi_of {tg l : PySem.Expr} {tl : TE} (hl : PE X l tl) : PI X tg l (iOf X.K tl) := by
  refine ⟨fun pins s σ H R I h => ?_⟩
  refine thn (hl.run pins s σ H _ I h) fun v s1 ⟨x, H1, I1, r1, q1⟩ => ?_
  rcases q1 with ⟨a, e, ⟨xs, hq⟩, q⟩ | ⟨a, e, ⟨xs, hq⟩, q⟩ | ⟨z, e, q⟩
  · subst e
    cases r1
    obtain ⟨its, rv, p, hz⟩ := I1.list hq
    refine wpAny_pyIter_list p.isList ?_
    refine ⟨s1.heap.objs.size, [s1.heap.objs.size], _, _, H1, rfl, I1.kept (t' := s1.toks) fun b o e => Heap.get?_push_of_some _ e, turn_list a _, ⟨_, Heap.get?_push_size _ rfl, rfl, rfl⟩, fun b hb => ?_, q⟩
    have e : b = s1.heap.objs.size := by simpa using hb
    subst e
    exact I1.fpOk (Nat.le_refl _) (I1.hok.fresh (Nat.le_refl _))
  · subst e
    cases r1
    obtain ⟨its, rv, p, hz⟩ := I1.tuple hq
    refine wpAny_pyIter_tuple (show s1.heap.IsTuple a its.toArray from p) ?_
    refine ⟨s1.heap.objs.size, [s1.heap.objs.size], _, _, H1, rfl, I1.kept (t' := s1.toks) fun b o e => Heap.get?_push_of_some _ e, turn_tuple a _, ⟨_, Heap.get?_push_size _ rfl, rfl, rfl⟩, fun b hb => ?_, q⟩
    have e : b = s1.heap.objs.size := by simpa using hb
    subst e
    exact I1.fpOk (Nat.le_refl _) (I1.hok.fresh (Nat.le_refl _))
  · subst e
    obtain ⟨t, rfl⟩ := r1
    cases ha : z.cps.all (· < 128)
    · exact wpAny_pyIter_wide ha (pi_one (tk := s1.toks) I1 _ (turn_str _ z t "str_iterator" (.inr rfl)) ⟨_, Heap.get?_push_size _ rfl, rfl, rfl⟩ q)
    · exact wpAny_pyIter_ascii ha (pi_one (tk := s1.toks) I1 _ (turn_str _ z t "str_ascii_iterator" (.inl rfl)) ⟨_, Heap.get?_push_size _ rfl, rfl, rfl⟩ q)
theorem PI.imp {tg e : PySem.Expr} {t t' : TI} (h : PI X tg e t) (i : ∀ σ H Q, t' σ H Q → t σ H Q) : PI X tg e t' := ⟨fun pins s σ H Q I q => h.run pins s σ H Q I (i σ H Q q)⟩
theorem itR_of {d : D} {S : Sto} {Q : KI} {x : V} {H : Hp} {R : It → Hp → Prop} (rel : Rel K S F H) (rd : RD K H d x) (h : itR d S Q) (kr : ∀ l chk S' J H', Q l chk S' → Ext H H' → Rel K S' F H' → WalkOk K false H' J l chk → R J H') :
    (∃ a, x = .ref a ∧ (∃ xs, SqL K H a xs) ∧ R (Itl K a) H) ∨ (∃ a, x = .ref a ∧ (∃ xs, SqT K H a xs) ∧ R (Itt K a) H) ∨ ∃ z, x = .str z ∧ R (Its z) H := by
  cases d with
  | tup l =>
    obtain ⟨a, vs, e, hs, hl⟩ := rd.tupi
    exact .inr (.inl ⟨a, e, ⟨vs, hs⟩, kr _ _ _ _ _ h .refl rel (walkT hs hl)⟩)
  | str z =>
    obtain ⟨e, ok⟩ := rd.stri
    exact .inr (.inr ⟨z, e, kr _ _ _ _ _ h .refl rel (walkS ok)⟩)
  | ref a =>
    have e := rd.refi
    simp only [itR] at h
    split at h
    case h_1 l hl =>
      obtain ⟨vs, h1, h2⟩ := rel.lst hl
      exact .inl ⟨a, e, ⟨vs, .of h1⟩, kr _ _ _ _ _ h .refl rel walkL⟩
    case h_2 l hl =>
      obtain ⟨o, vs, h1, h2⟩ := rel.rls hl
      exact .inl ⟨a, e, ⟨vs, .inl (.inr ⟨o, h1⟩)⟩, kr _ _ _ _ _ h .refl rel walkR⟩
    case h_3 => exact h.elim
  | _ => exact (show False from h).elim
end Mi
namespace Mi
open PySem PySem.Spec PyProof.Rows L2
variable {X : Cx} {T : Tb} {N : List Str} {Γ : Str → FS} {G : Str → Option D} {W : WX} {sc : Scope} {own : Str → Bool} {k : Nat}
def plainX : PySem.Expr → Bool
  | .Starred .. => false | .Slice .. => false | .Set .. => false | .NamedExpr .. => false
  | _ => true
theorem cB_plain : ∀ {n : Nat} {op : PySem.BoolOp} {es : List PySem.Expr} {c : E}, cB T N n sc op es = some c → True := fun _ => trivial
theorem cE_plain {n : Nat} {e : PySem.Expr} {c : E} (h : cE T N n sc e = some c) : plainX e = true := by
  cases n with
  | zero => simp [cE] at h
  | succ n => cases e <;> first | rfl | simp [cE] at h
theorem plain_star {e : PySem.Expr} (h : plainX e = true) (es : List PySem.Expr) (env : Env) : starEach (e :: es) env = (false, eval e env) :: starEach es env := by
  cases e <;> first | rfl | simp [plainX] at h
theorem plain_ix {e : PySem.Expr} (h : plainX e = true) : PlainIx e := by
  intro o i
  cases e <;> first | rfl | simp [plainX] at h
theorem plain_fold {e : PySem.Expr} (h : plainX e = true) (env : Env) (x : Value) : foldedSetIterable e env x = pure x := by
  cases e <;> first | rfl | simp [plainX] at h
theorem plain_mark {e : PySem.Expr} (h : plainX e = true) (op : CmpOp) : behindInMarks op e = false := by
  cases e <;> first | rfl | simp [plainX] at h
theorem cEs_star {env : Env} {pos : Pos} : ∀ {n : Nat} {es : List PySem.Expr} {cs : Es}, cEs T N n sc es = some cs → ((backTo pos (starEach es env)).any (·.1)) = false
  | 0, _, _, h => by simp [cEs] at h
  | _ + 1, [], _, _ => rfl
  | n + 1, e :: es, _, h => by
    simp only [cEs, bind, Option.bind_eq_some_iff, pure, Option.some.injEq] at h
    obtain ⟨t, h1, ts, h2, h3⟩ := h
    have ih := cEs_star (env := env) (pos := pos) h2
    rw [plain_star (cE_plain h1)]
    unfold backTo at ih ⊢
    rw [List.map_cons, List.any_cons, ih]
    rfl
theorem okN_1 {x : Str} (h : okN x = true) : (x == ("__debug__" : Str)) = false ∧ (x == ("__classdict__" : Str)) = false ∧ x ≠ ("__name__" : Str) := by
  unfold okN at h
  simp only [Bool.and_eq_true, Bool.not_eq_true'] at h
  refine ⟨h.1.1, h.1.2, fun e => ?_⟩
  have := h.2
  rw [e] at this
  simp at this
theorem visIx_ok {x : Str} {i : Nat} (h : visIx N sc x = some i) : N[i]? = some x ∧ Vis sc x ∧ okN x = true := by
  unfold visIx at h
  split at h
  case h_1 e => split at h; case isTrue f => exact ⟨ixOf_get h, .inl e, f⟩
                case isFalse => cases h
  case h_2 e => split at h; case isTrue f => exact ⟨ixOf_get h, .inr (.inl e), f⟩
                case isFalse => cases h
  case h_3 e => split at h; case isTrue f => exact ⟨ixOf_get h, .inr (.inr e), f⟩
                case isFalse => cases h
  case h_4 => cases h
theorem glB_ok {x : Str} (h : glB sc x = true) : sc.names.lookup x = some .globalImplicit ∧ okN x = true := by
  unfold glB at h
  rw [Bool.and_eq_true, decide_eq_true_eq] at h
  exact h
theorem Gd.gl (g : Gd T N Γ G X W sc own k) {x : Str} (h : glB sc x = true) : Gl X x := by
  have := (glB_ok h).1
  unfold Gl
  rw [← g.sc_eq] at this
  exact this
theorem LE.mk {K : PySem.W.Frag} {w : WE1} {τ : L2.St} {H : Hp} {Q : VK} {σ : En} {S : Sto} {F : Hp} {Qd : KD} {Xd : KX} (rel : Rel K S F H) (rs : RS K H σ τ) (h : w σ S Qd Xd) (kv : KV K F H Qd Q) (kx : KXs K F H Xd (WE W τ)) : LE K W w τ H Q :=
  ⟨σ, S, F, Qd, Xd, rel, rs, h, kv, kx⟩
theorem le_op {K : PySem.W.Frag} {w1 w2 : WE1} {r : D → D → Sto → KD → Prop} {τ : L2.St} {H : Hp} {Q : VK} (h : LE K W (fun σ S Q X => w1 σ S (fun x S1 => w2 σ S1 (fun y S2 => r x y S2 Q) X) X) τ H Q) : tOp (LO K r) (LE K W w1) (LE K W w2) τ H Q := by
  obtain ⟨σ, S, F, Qd, Xd, rel, rs, hw, kv, kx⟩ := h
  refine ⟨σ, S, F, _, Xd, rel, rs, hw, fun d S1 x H1 q1 e1 rel1 rd1 => ?_, kx⟩
  refine ⟨σ, S1, F, _, Xd, rel1, rs.ext e1, q1, fun d2 S2 y H2 q2 e2 rel2 rd2 => ?_, kx.ext e1⟩
  exact ⟨d, d2, S2, F, Qd, rel2, RD.ext e2 _ _ rd1, rd2, q2, kv.ext (e1.trans e2)⟩
theorem le_cmp {K : PySem.W.Frag} {w1 w2 : WE1} {r : D → D → Sto → (Bool → Prop) → Prop} {τ : L2.St} {H : Hp} {Q : VK} (h : LE K W (fun σ S Q X => w1 σ S (fun x S1 => w2 σ S1 (fun y S2 => r x y S2 fun b => Q (.bl b) S2) X) X) τ H Q) : tOp (LB K r) (LE K W w1) (LE K W w2) τ H Q := by
  obtain ⟨σ, S, F, Qd, Xd, rel, rs, hw, kv, kx⟩ := h
  refine ⟨σ, S, F, _, Xd, rel, rs, hw, fun d S1 x H1 q1 e1 rel1 rd1 => ?_, kx⟩
  refine ⟨σ, S1, F, _, Xd, rel1, rs.ext e1, q1, fun d2 S2 y H2 q2 e2 rel2 rd2 => ?_, kx.ext e1⟩
  exact ⟨d, d2, S2, F, _, rel2, RD.ext e2 _ _ rd1, rd2, q2, fun b qb => kv _ _ _ _ qb (e1.trans e2) rel2 .bl⟩
theorem lt_cmp {K : PySem.W.Frag} {w1 w2 : WE1} {r : D → D → Sto → (Bool → Prop) → Prop} {τ : L2.St} {H : Hp} {Q : Bool → Hp → Prop} (h : LT K W (fun σ S Q X => w1 σ S (fun x S1 => w2 σ S1 (fun y S2 => r x y S2 fun b => Q b S2) X) X) τ H Q) : tTest (tOp (LB K r) (LE K W w1) (LE K W w2)) τ H Q := by
  obtain ⟨σ, S, F, Qd, Xd, rel, rs, hw, kv, kx⟩ := h
  refine ⟨σ, S, F, _, Xd, rel, rs, hw, fun d S1 x H1 q1 e1 rel1 rd1 => ?_, kx⟩
  refine ⟨σ, S1, F, _, Xd, rel1, rs.ext e1, q1, fun d2 S2 y H2 q2 e2 rel2 rd2 => ?_, kx.ext e1⟩
  exact ⟨d, d2, S2, F, _, rel2, RD.ext e2 _ _ rd1, rd2, q2, fun b qb => ⟨b, rfl, kv _ _ _ qb (e1.trans e2) rel2⟩⟩
theorem la_args {K : PySem.W.Frag} {w : En → Sto → (List D → Sto → Prop) → KX → Prop} {r : List D → Sto → KD → Prop} {τ : L2.St} {H : Hp} {Q : VK} (h : LE K W (fun σ S Q X => w σ S (fun ds S1 => r ds S1 Q) X) τ H Q) : tCB (LC K r) (LA K W w) τ H Q := by
  obtain ⟨σ, S, F, Qd, Xd, rel, rs, hw, kv, kx⟩ := h
  exact ⟨σ, S, F, _, Xd, rel, rs, hw, fun ds S1 vs H1 q1 e1 rel1 rd1 => ⟨ds, S1, F, Qd, rel1, rd1, q1, kv.ext e1⟩, kx⟩
theorem la_call {K : PySem.W.Frag} {w : En → Sto → (List D → Sto → Prop) → KX → Prop} {gf : FS} {τ : L2.St} {H : Hp} {Q : VK} (h : LE K W (fun σ S Q X => w σ S (fun ds S1 => gf ds S1 Q X) X) τ H Q) : tCallS (LF K gf) (WE W) (LA K W w) τ H Q := by
  obtain ⟨σ, S, F, Qd, Xd, rel, rs, hw, kv, kx⟩ := h
  exact ⟨σ, S, F, _, Xd, rel, rs, hw, fun ds S1 vs H1 q1 e1 rel1 rd1 => ⟨ds, S1, F, Qd, Xd, rel1, rd1, q1, kv.ext e1, kx.ext e1⟩, kx⟩
theorem la_cons {K : PySem.W.Frag} {w1 : WE1} {w : En → Sto → (List D → Sto → Prop) → KX → Prop} {τ : L2.St} {H : Hp} {Q : List V → Hp → Prop} (h : LA K W (fun σ S Q X => w1 σ S (fun d S1 => w σ S1 (fun ds S2 => Q (d :: ds) S2) X) X) τ H Q) : tCons (LE K W w1) (LA K W w) τ H Q := by
  obtain ⟨σ, S, F, Qd, Xd, rel, rs, hw, kv, kx⟩ := h
  refine ⟨σ, S, F, _, Xd, rel, rs, hw, fun d S1 x H1 q1 e1 rel1 rd1 => ?_, kx⟩
  exact ⟨σ, S1, F, _, Xd, rel1, rs.ext e1, q1, fun ds S2 vs H2 q2 e2 rel2 rd2 => kv _ _ _ _ q2 (e1.trans e2) rel2 (.cons (RD.ext e2 _ _ rd1) rd2), kx.ext e1⟩
theorem la_nil {K : PySem.W.Frag} {τ : L2.St} {H : Hp} {Q : List V → Hp → Prop} (h : LA K W (fun _ S Q _ => Q [] S) τ H Q) : tNil τ H Q := by
  obtain ⟨σ, S, F, Qd, Xd, rel, rs, hw, kv, kx⟩ := h
  exact kv _ _ _ _ hw .refl rel .nil
theorem lt_tru {K : PySem.W.Frag} {w : WE1} {τ : L2.St} {H : Hp} {Q : Bool → Hp → Prop} (h : LT K W (fun σ S Q X => w σ S (fun d S' => truR d S' fun b => Q b S') X) τ H Q) : LE K W w τ H fun x H' => ∃ k, TruV K x H' k ∧ Q k H' := by
  obtain ⟨σ, S, F, Qd, Xd, rel, rs, hw, kv, kx⟩ := h
  refine ⟨σ, S, F, _, Xd, rel, rs, hw, fun d S1 x H1 q1 e1 rel1 rd1 => ?_, kx⟩
  exact tru_conv ⟨d, S1, F, _, rel1, rd1, q1, fun b qb => kv _ _ _ qb e1 rel1⟩
theorem LT.imp {K : PySem.W.Frag} {w w' : En → Sto → (Bool → Sto → Prop) → KX → Prop} {τ : L2.St} {H : Hp} {Q : Bool → Hp → Prop} (h : LT K W w τ H Q) (i : ∀ σ S Q X, w σ S Q X → w' σ S Q X) : LT K W w' τ H Q := by
  obtain ⟨σ, S, F, Qd, Xd, rel, rs, hw, kv, kx⟩ := h
  exact ⟨σ, S, F, Qd, Xd, rel, rs, i _ _ _ _ hw, kv, kx⟩
theorem LE.imp {K : PySem.W.Frag} {w w' : WE1} {τ : L2.St} {H : Hp} {Q : VK} (h : LE K W w τ H Q) (i : ∀ σ S Q X, w σ S Q X → w' σ S Q X) : LE K W w' τ H Q := by
  obtain ⟨σ, S, F, Qd, Xd, rel, rs, hw, kv, kx⟩ := h
  exact ⟨σ, S, F, Qd, Xd, rel, rs, i _ _ _ _ hw, kv, kx⟩
theorem pe_callS0 {f : Addr} {fd : FuncData} {ps : List Str} {sp : Sp} {E : L2.St → XK} {x : Str} {p pos : Pos} {CX : CXT} (F : FnOk X.prog X.w X.K X.mg X.base CX k f fd ps sp) (hr : Room k X.A) (hg : Gl X x) (hm : X.mg x = some (.ref f)) (hk : PySem.W.keepIn X.K (.ref f) = true) (hb : Binds X.K fd ps []) (hx : ∀ σ, PassesAt CX X σ (E σ))
    (hdb : (x == ("__debug__" : Str)) = false) : PE X (.Call (.Name x p) [] [] pos) (tCallS sp E tNil) := by
  refine ⟨fun pins s σ H Q I h => ?_⟩
  refine wpAny_Call_Name_kw (ld_glob I hg hm ?_ hdb)
  exact PySem.W.callWith_K0 I.kIn hk (run_fnS (us := []) F hr hb (hx σ) I .nil h)
def tyS : Ty → String
  | .int => "int" | .bool => "bool" | .str => "str" | .tuple => "tuple" | .list => "list"
theorem isT_ok {K : PySem.W.Frag} {S : Sto} {F H : Hp} {d : D} {v : V} {t : Ty} {b : Bool} (rel : Rel K S F H) (rd : RD K H d v) (h : isT t d S = some b) : ∃ ty, TyX K H v ty ∧ PySem.W.kitOne K ty (.type (tyS t)) = some b := by
  cases d with
  | non =>
    have e := rd.noni; subst e
    refine ⟨_, .base .non, kit_ty ?_⟩
    cases t <;> simp only [isT, Option.some.injEq] at h <;> subst h <;> decide +kernel
  | bl c =>
    have e := rd.bli; subst e
    refine ⟨_, .base (.bl c), kit_ty ?_⟩
    cases t <;> simp only [isT, Option.some.injEq] at h <;> subst h <;> decide +kernel
  | int i =>
    have e := rd.inti; subst e
    refine ⟨_, .base (.int i), kit_ty ?_⟩
    cases t <;> simp only [isT, Option.some.injEq] at h <;> subst h <;> decide +kernel
  | str z =>
    obtain ⟨e, _⟩ := rd.stri; subst e
    refine ⟨_, .base (.str z), kit_ty ?_⟩
    cases t <;> simp only [isT, Option.some.injEq] at h <;> subst h <;> decide +kernel
  | tup l =>
    obtain ⟨a, vs, e, hs, hl⟩ := rd.tupk; subst e
    have ty : TyX K H (.ref a) (.type "tuple") := by
      rcases hs with ⟨o, h1, h2⟩ | ⟨o, its, n, h1, h2, _⟩
      · exact .fTuple h1
      · exact .kTuple h1 h2
    refine ⟨_, ty, kit_ty ?_⟩
    cases t <;> simp only [isT, Option.some.injEq] at h <;> subst h <;> decide +kernel
  | rl l => cases t <;> simp [isT] at h
  | ref a =>
    have e := rd.refi; subst e
    simp only [isT] at h
    split at h
    case h_1 l hl =>
      obtain ⟨vs, h1, h2⟩ := rel.lst hl
      simp only [Option.some.injEq] at h
      refine ⟨_, .base (.lst h1), kit_ty ?_⟩
      cases t <;> subst h <;> decide +kernel
    case h_2 l hl =>
      obtain ⟨vs, h1, h2⟩ := rel.dct hl
      simp only [Option.some.injEq] at h
      refine ⟨_, .base (.dK h1), kit_ty ?_⟩
      cases t <;> subst h <;> decide +kernel
    case h_3 => cases h
def isTyB : Bl → Bool
  | .int => true | .str => true | .tuple => true | .list => true | .dict => true
  | .len => false | .abs => false | .max => false | .min => false | .sum => false | .all => false | .any => false | .sorted => false | .gcd => false | .lcm => false
theorem ite_some {β : Type} {c : Prop} [Decidable c] {a b : β} {r : Option β} (h : (if c then some a else r) = some b) : (c ∧ a = b) ∨ r = some b := by
  by_cases hc : c
  · rw [if_pos hc] at h; exact .inl ⟨hc, Option.some.inj h⟩
  · rw [if_neg hc] at h; exact .inr h
theorem bltOf_boot {x : Str} {b : Bl} (h : bltOf x = some b) : bootBuiltins x = some (blV b) := by
  unfold bltOf at h
  rcases ite_some h with ⟨rfl, rfl⟩ | h; exact boot_len
  rcases ite_some h with ⟨rfl, rfl⟩ | h; exact (by decide +kernel : bootBuiltins "abs" = some (.builtin "abs"))
  rcases ite_some h with ⟨rfl, rfl⟩ | h; exact (by decide +kernel : bootBuiltins "max" = some (.builtin "max"))
  rcases ite_some h with ⟨rfl, rfl⟩ | h; exact (by decide +kernel : bootBuiltins "min" = some (.builtin "min"))
  rcases ite_some h with ⟨rfl, rfl⟩ | h; exact (by decide +kernel : bootBuiltins "sum" = some (.builtin "sum"))
  rcases ite_some h with ⟨rfl, rfl⟩ | h; exact (by decide +kernel : bootBuiltins "all" = some (.builtin "all"))
  rcases ite_some h with ⟨rfl, rfl⟩ | h; exact (by decide +kernel : bootBuiltins "any" = some (.builtin "any"))
  rcases ite_some h with ⟨rfl, rfl⟩ | h; exact (by decide +kernel : bootBuiltins "int" = some (.type "int"))
  rcases ite_some h with ⟨rfl, rfl⟩ | h; exact (by decide +kernel : bootBuiltins "tuple" = some (.type "tuple"))
  rcases ite_some h with ⟨rfl, rfl⟩ | h; exact (by decide +kernel : bootBuiltins "list" = some (.type "list"))
  rcases ite_some h with ⟨rfl, rfl⟩ | h; exact (by decide +kernel : bootBuiltins "dict" = some (.type "dict"))
  rcases ite_some h with ⟨rfl, rfl⟩ | h; exact (by decide +kernel : bootBuiltins "sorted" = some (.builtin "sorted"))
  cases h
theorem blV_kind : ∀ b : Bl, (∃ id, blV b = .builtin id) ∨ ∃ id, blV b = .type id
  | .len => .inl ⟨_, rfl⟩ | .abs => .inl ⟨_, rfl⟩ | .max => .inl ⟨_, rfl⟩ | .min => .inl ⟨_, rfl⟩ | .sum => .inl ⟨_, rfl⟩ | .all => .inl ⟨_, rfl⟩ | .any => .inl ⟨_, rfl⟩ | .sorted => .inl ⟨_, rfl⟩ | .gcd => .inl ⟨_, rfl⟩ | .lcm => .inl ⟨_, rfl⟩
  | .int => .inr ⟨_, rfl⟩ | .str => .inr ⟨_, rfl⟩ | .tuple => .inr ⟨_, rfl⟩ | .list => .inr ⟨_, rfl⟩ | .dict => .inr ⟨_, rfl⟩
theorem pe_blt {x : Str} {b : Bl} {r : List V → Hp → VK → Prop} {e : PySem.Expr} {es : List PySem.Expr} {t : TA} {p pos : Pos} (h : bltOf x = some b) (hc : CallR X (blV b) r) (hg : Gl X x) (hm : X.mg x = none) (ha : PA X (e :: es) t) (ok : okN x = true)
    (he : starEach (e :: es) X.env = (false, eval e X.env) :: starEach es X.env) (hpl : (backTo pos (starEach es X.env)).any (·.1) = false) : PE X (.Call (.Name x p) (e :: es) [] pos) (tCB r t) := by
  have hv := bltOf_boot h
  obtain ⟨n1, n2, n3⟩ := okN_1 ok
  rcases blV_kind b with ⟨id, z⟩ | ⟨id, z⟩
  · rw [z] at hc hv
    exact pe_callB hc hg hm hv ha n3 n1 he hpl
  · rw [z] at hc hv
    exact pe_callTy hc hg hm hv ha n3 n1 he hpl
end Mi
namespace Mi
open PySem PySem.Spec PyProof.Rows L2
variable {K : PySem.W.Frag} {W : WX}
theorem Rel.lessF {S : Sto} {F F' H : Hp} (r : Rel K S F' H) (h : ∀ a o, F a = some o → F' a = some o) : Rel K S F H := ⟨r.cell, fun a o e => r.frm a o (h a o e), fun a o e => r.sep a o (h a o e)⟩
theorem upd_sub {F : Hp} {p : Addr} {o : HO} (h : F p = none) : ∀ a u, F a = some u → L2.upd F p o a = some u := fun a u e => by rw [upd_ne (ne_of_none e h)]; exact e
theorem Rel.frame {S : Sto} {F H : Hp} {p : Addr} {xs ys : List V} (r : Rel K S (L2.upd F p (.lst xs)) H) : Ext H (L2.upd H p (.lst ys)) ∧ Rel K S (L2.upd F p (.lst ys)) (L2.upd H p (.lst ys)) := by
  have hp : H p = some (.lst xs) := r.frm p _ upd_same
  have sp : S p = none := r.sep p _ upd_same
  have x : Ext H (L2.upd H p (.lst ys)) := .write hp (fun _ z => nomatch z) fun _ _ z => nomatch z
  refine ⟨x, fun a c q => ?_, fun a o q => ?_, fun a o q => ?_⟩
  · have ne : a ≠ p := fun z => by subst z; rw [sp] at q; cases q
    exact (r.cell a c q).ext x (upd_ne ne)
  · by_cases ha : a = p
    · subst ha; rw [upd_same] at q ⊢; exact q
    · rw [upd_ne ha] at q ⊢
      exact r.frm a o (by rw [upd_ne ha]; exact q)
  · by_cases ha : a = p
    · subst ha; exact sp
    · rw [upd_ne ha] at q
      exact r.sep a o (by rw [upd_ne ha]; exact q)
theorem Rel.hide {S : Sto} {F H : Hp} {p : Addr} {o : HO} (r : Rel K S F H) (e : H p = none) : Rel K S (L2.upd F p o) (L2.upd H p o) := by
  have q := r.tup (o := o) e
  refine ⟨q.cell, fun a u h => ?_, fun a u h => ?_⟩
  · by_cases ha : a = p
    · subst ha; rw [upd_same] at h ⊢; exact h
    · rw [upd_ne ha] at h; exact q.frm a u h
  · by_cases ha : a = p
    · subst ha; exact r.free e
    · rw [upd_ne ha] at h; exact r.sep a u h
theorem Rel.show {S : Sto} {F H : Hp} {p : Addr} {vs : List V} {l : List D} (r : Rel K S (L2.upd F p (.lst vs)) H) (f : F p = none) (h : RDs K H l vs) : Rel K (S.upd p (.lst l)) F H := by
  refine ⟨fun a c q => ?_, fun a o q => r.frm a o (upd_sub f a o q), fun a o q => ?_⟩
  · by_cases ha : a = p
    · subst ha; rw [Sto.upd_same] at q; cases q; exact ⟨vs, r.frm _ _ upd_same, h⟩
    · rw [Sto.upd_ne ha] at q; exact r.cell a c q
  · have ha : a ≠ p := fun z => by subst z; rw [f] at q; cases q
    rw [Sto.upd_ne ha]
    exact r.sep a o (upd_sub f a o q)
def LL (K : PySem.W.Frag) (W : WX) (w : En → Sto → (List D → Sto → Prop) → KX → Prop) : TE := fun τ H Q => ∃ σ S F Ql Xd, Rel K S F H ∧ RS K H σ τ ∧ w σ S Ql Xd ∧
  (∀ ds S' a vs H', Ql ds S' → Ext H H' → F a = none → Rel K S' (L2.upd F a (.lst vs)) H' → RDs K H' ds vs → Q (.ref a) H') ∧ KXs K F H Xd (WE W τ)
theorem wipe_len (σ : L2.St) : ∀ vs : List Nat, (wipe σ vs).length = σ.length := wipe_length σ
theorem wipe_get (σ : L2.St) (i : Nat) : ∀ vs : List Nat, (wipe σ vs)[i]? = if i ∈ vs ∧ i < σ.length then some none else σ[i]?
  | [] => by simp [wipe]
  | v :: vs => by
    unfold wipe
    by_cases hv : v = i
    · subst hv
      by_cases hl : v < σ.length
      · rw [List.getElem?_set_self (by rw [wipe_len]; exact hl), if_pos ⟨List.mem_cons_self .., hl⟩]
      · rw [if_neg (fun z => hl z.2), List.getElem?_eq_none (by rw [List.length_set, wipe_len]; omega), List.getElem?_eq_none (by omega)]
    · rw [List.getElem?_set_ne hv, wipe_get σ i vs]
      simp only [List.mem_cons]
      have : i ≠ v := fun e => hv e.symm
      simp [this]
theorem wipe_off {τ τ' : L2.St} {sl vs : List Nat} (h : Off sl τ τ') (hs : ∀ i ∈ sl, i ∈ vs) : wipe τ' vs = wipe τ vs := by
  refine List.ext_getElem? fun i => ?_
  rw [wipe_get, wipe_get, h.1]
  by_cases hi : i ∈ vs ∧ i < τ.length
  · rw [if_pos hi, if_pos hi]
  · rw [if_neg hi, if_neg hi]
    by_cases h2 : i ∈ vs
    · have : ¬ i < τ.length := fun z => hi ⟨h2, z⟩
      have e1 := h.1
      rw [List.getElem?_eq_none (by omega), List.getElem?_eq_none (by omega)]
    · exact h.2 i fun z => h2 (hs i z)
theorem wipe_wipe (τ : L2.St) (vs : List Nat) : wipe (wipe τ vs) vs = wipe τ vs := by
  refine List.ext_getElem? fun i => ?_
  rw [wipe_get, wipe_get, wipe_len]
  by_cases hi : i ∈ vs ∧ i < τ.length
  · rw [if_pos hi, if_pos hi]
  · rw [if_neg hi, if_neg hi]
theorem RS.wipe {H : Hp} {σ : En} {τ : L2.St} (r : RS K H σ τ) : ∀ vs : List Nat, RS K H (wipeD σ vs) (L2.wipe τ vs)
  | [] => r
  | v :: vs => (RS.wipe r vs).unset v
abbrev W0 : WX := fun _ _ _ _ => False
theorem lc_conv {b : Bool} {wi : En → Sto → KI → KX → Prop} {tg : Tg} {wc : En → Sto → (Bool → Sto → Prop) → KX → Prop} {we : WE1} {vs : List Nat} {τ : L2.St} {H : Hp} {Q : VK} (hs : ∀ i ∈ tgSlots tg, i ∈ vs)
    (h : LL K W (fun σ S Q X => wi σ S (fun l chk S1 => l.length ≤ sizeLine ∧ cmpL tg (fun σ' S' Q' => wc σ' S' Q' fun _ _ => False) (fun σ' S' Q' => we σ' S' Q' fun _ _ => False) chk l (wipeD σ vs) S1 Q) X) τ H Q) :
    tLc (LI K b W wi) (LG K b (tgSlots tg) (wG tg)) (LT K W0 wc) (LE K W0 we) vs τ H Q := by
  obtain ⟨σ, S, F, Ql, Xd, rel, rs, hw, fin, kx⟩ := h
  refine ⟨σ, S, F, _, Xd, rel, rs, hw, fun l chk S1 J H1 ⟨hz, q⟩ e1 rel1 wk D hD => ?_, kx⟩
  have fD : F D = none := rel1.freeF hD
  refine ⟨fun i m H2 => i ≤ l.length ∧ m = l.length - i ∧ ∃ S2 ws acc, Ext H1 H2 ∧ Rel K S2 (L2.upd F D (.lst ws)) H2 ∧ RDs K H2 acc ws ∧ acc.length ≤ i ∧
    cmpL tg (fun σ' S' Q' => wc σ' S' Q' fun _ _ => False) (fun σ' S' Q' => we σ' S' Q' fun _ _ => False) chk (l.drop i) (wipeD σ vs) S2 (fun r S' => Ql (acc ++ r) S'), ?_, ?_⟩
  · exact ⟨l.length - 0, Nat.zero_le _, rfl, S1, [], [], .new hD, rel1.hide hD, .nil, Nat.le_refl _, q⟩
  rintro i m H2 ⟨hi, rfl, S2, ws, acc, x2, rel2, rd2, hacc, q2⟩
  by_cases hl : i < l.length
  · refine .inr ?_
    have hd : l[i]? = some l[i] := by simp [hl]
    rw [List.drop_eq_getElem_cons hl] at q2
    obtain ⟨hchk, q2⟩ : chk S2 ∧ wG tg l[i] (wipeD σ vs) fun σ' => wc σ' S2 (fun b S3 => if b = true then we σ' S3 (fun v S4 => cmpL tg (fun σ' S' Q' => wc σ' S' Q' fun _ _ => False) (fun σ' S' Q' => we σ' S' Q' fun _ _ => False) chk (l.drop (i + 1)) (wipeD σ vs) S4 (fun rr S' => Ql (acc ++ (v :: rr)) S')) (fun _ _ => False)
      else cmpL tg (fun σ' S' Q' => wc σ' S' Q' fun _ _ => False) (fun σ' S' Q' => we σ' S' Q' fun _ _ => False) chk (l.drop (i + 1)) (wipeD σ vs) S3 (fun rr S' => Ql (acc ++ rr) S')) (fun _ _ => False) := q2
    obtain ⟨go, yl⟩ := wk.go _ i _ S2 H2 hd rel2 hchk x2
    refine ⟨go, fun H' => ∃ m', m' < l.length - i ∧ (i + 1 ≤ l.length ∧ m' = l.length - (i + 1) ∧ ∃ S2 ws acc, Ext H1 H' ∧ Rel K S2 (L2.upd F D (.lst ws)) H' ∧ RDs K H' acc ws ∧ acc.length ≤ i + 1 ∧
      cmpL tg (fun σ' S' Q' => wc σ' S' Q' fun _ _ => False) (fun σ' S' Q' => we σ' S' Q' fun _ _ => False) chk (l.drop (i + 1)) (wipeD σ vs) S2 (fun r S' => Ql (acc ++ r) S')), fun H' z => z, fun x H3 y => ?_⟩
    obtain ⟨x3, rel3, rx⟩ := yl x H3 y
    refine ⟨l[i], wipeD σ vs, _, rx, (rs.ext ((e1.trans x2).trans x3)).wipe vs, q2, fun σ3 τ3 q3 rs3 off => ⟨(wipe_off off hs).trans (wipe_wipe τ vs), ?_⟩⟩
    refine ⟨σ3, S2, _, _, _, rel3, rs3, q3, fun b S4 H4 q4 e4 rel4 => ?_, .no⟩
    cases b with
    | false =>
      simp only [Bool.false_eq_true, if_false] at q4 ⊢
      exact ⟨l.length - (i + 1), by omega, hl, rfl, S4, ws, acc, (x2.trans x3).trans e4, rel4, rd2.ext (x3.trans e4), by omega, q4⟩
    | true =>
      simp only [if_true] at q4 ⊢
      refine ⟨σ3, S4, _, _, _, rel4, rs3.ext e4, q4, fun d S5 y5 H5 q5 e5 rel5 rd5 => ?_, .no⟩
      have hD5 : H5 D = some (.lst ws) := rel5.frm D _ upd_same
      have rl : ws.length = acc.length := rd2.length
      obtain ⟨x6, rel6⟩ := rel5.frame (ys := ws ++ [y5])
      refine ⟨ws, hD5, by omega, l.length - (i + 1), by omega, hl, rfl, S5, ws ++ [y5], acc ++ [d], (((x2.trans x3).trans e4).trans e5).trans x6, rel6, ?_, by simp; omega, ?_⟩
      · exact (rd2.ext (((x3.trans e4).trans e5).trans x6)).append (.cons (RD.ext x6 _ _ rd5) .nil)
      · simpa using q5
  · have e : i = l.length := by omega
    subst e
    rw [List.drop_length] at q2
    obtain ⟨hchk, q2⟩ : chk S2 ∧ Ql (acc ++ []) S2 := q2
    rw [List.append_nil] at q2
    exact .inl ⟨wk.stop _ S2 H2 rel2 hchk x2, fin acc S2 D ws H2 q2 (e1.trans x2) fD rel2 rd2⟩
end Mi
namespace Mi
open PySem PySem.Spec PyProof.Rows L2
variable (T : Tb) (N : List Str) (Γ : Str → FS) (G : Str → Option D) (k : Nat)
def SE (n : Nat) : Prop := ∀ (X : Cx) (W : WX) (sc : Scope) (own : Str → Bool), Gd T N Γ G X W sc own k → ∀ (e : PySem.Expr) (c : E), cE T N n sc e = some c → PE X e (LE X.K W (wE Γ G c))
def ST (n : Nat) : Prop := ∀ (X : Cx) (W : WX) (sc : Scope) (own : Str → Bool), Gd T N Γ G X W sc own k → ∀ (e : PySem.Expr) (c : E), cE T N n sc e = some c → PT X e (LT X.K W (wT Γ G c))
def SB (n : Nat) : Prop := ∀ (X : Cx) (W : WX) (sc : Scope) (own : Str → Bool), Gd T N Γ G X W sc own k → ∀ (op : PySem.BoolOp) (es : List PySem.Expr) (c : E) (pos : Pos), cB T N n sc op es = some c → PE X (.BoolOp op es pos) (LE X.K W (wE Γ G c)) ∧ PW X (.BoolOp op es pos) (LT X.K W (wT Γ G c))
def SA (n : Nat) : Prop := ∀ (X : Cx) (W : WX) (sc : Scope) (own : Str → Bool), Gd T N Γ G X W sc own k → ∀ (es : List PySem.Expr) (cs : Es), cEs T N n sc es = some cs → PA X es (LA X.K W (wEs Γ G cs))
def SO (n : Nat) : Prop := ∀ (X : Cx) (W : WX) (sc : Scope) (own : Str → Bool), Gd T N Γ G X W sc own k → ∀ (e : Option PySem.Expr) (c : Eo), cO T N n sc e = some c → PO X e (LOp X.K W (wO Γ G c))
def SI (n : Nat) : Prop := ∀ (X : Cx) (W : WX) (sc : Scope) (own : Str → Bool), Gd T N Γ G X W sc own k → ∀ (tg e : PySem.Expr) (c : I), cI T N n sc e = some c → (wkI c = true → tupX tg = true) → PI X tg e (LI X.K (wkI c) W (wI Γ G c))
def wL (e : E) (tg : Tg) (it : I) (c : Eo) (vs : List Nat) : En → Sto → (List D → Sto → Prop) → KX → Prop := fun σ S Q X => wI Γ G it σ S (fun l chk S1 => l.length ≤ sizeLine ∧ cmpL tg (fun σ' S' Q' => wC Γ G c σ' S' Q' fun _ _ => False) (fun σ' S' Q' => wE Γ G e σ' S' Q' fun _ _ => False) chk l (wipeD σ vs) S1 Q) X
def SC (n : Nat) : Prop := ∀ (X : Cx) (W : WX) (sc : Scope) (own : Str → Bool), Gd T N Γ G X W sc own k → ∀ (b : Option Bl) (e tg it : PySem.Expr) (ifs : List PySem.Expr) (scope : Scope) (c : E), cC T N n sc b e tg it ifs scope = some c →
  ∃ e' tg' it' c' vs, c = .comp b e' tg' it' c' vs ∧ (∀ pos, PE X (.ListComp e [⟨tg, it, ifs, 0⟩] scope pos) (LL X.K W (wL Γ G e' tg' it' c' vs))) ∧
    ∀ pos spos i y py, X.N[i]? = some y → X.env.scope.names.lookup y = some .local → swapsWith (.ListComp e [⟨tg, it, ifs, 0⟩] scope pos) (some (.Name y py)) spos.line X.env = pure true →
      PS X (.Assign [.Name y py] (.ListComp e [⟨tg, it, ifs, 0⟩] scope pos) spos) (tAsg (LL X.K W (wL Γ G e' tg' it' c' vs)) (gName i))
variable {T N Γ G k}
theorem stepA {n : Nat} (hE : SE T N Γ G k n) (hA : SA T N Γ G k n) : SA T N Γ G k (n + 1) := by
  intro X W sc own g es cs h
  cases es with
  | nil =>
    simp only [cEs, Option.some.injEq] at h
    subst h
    exact PA.imp pa_nil fun σ H Q q => la_nil q
  | cons e es =>
    simp only [cEs, bind, Option.bind_eq_some_iff, pure, Option.some.injEq] at h
    obtain ⟨e', h1, es', h2, rfl⟩ := h
    exact PA.imp (pa_cons (hE X W sc own g e e' h1) (hA X W sc own g es es' h2) (plain_star (cE_plain h1) es X.env)) fun σ H Q q => la_cons q
theorem stepO {n : Nat} (hE : SE T N Γ G k n) : SO T N Γ G k (n + 1) := by
  intro X W sc own g e c h
  cases e with
  | none =>
    simp only [cO, Option.some.injEq] at h
    subst h
    refine ⟨fun pins s σ H Q I q => po_none.run pins s σ H Q I ?_⟩
    obtain ⟨σ', S, F, Qd, Xd, rel, rs, hw, kv, kx⟩ := q
    exact kv _ _ _ hw .refl rel
  | some e =>
    simp only [cO, Option.map_eq_some_iff] at h
    obtain ⟨c', h1, rfl⟩ := h
    refine ⟨fun pins s σ H Q I q => (po_some (hE X W sc own g e c' h1)).run pins s σ H Q I ?_⟩
    obtain ⟨σ', S, F, Qd, Xd, rel, rs, hw, kv, kx⟩ := q
    refine ⟨σ', S, F, _, Xd, rel, rs, hw, fun d S1 x H1 q1 e1 rel1 rd1 => ?_, kx⟩
    cases d <;> first | exact (show False from q1).elim | skip
    exact ⟨_, rd1.inti, kv _ _ _ q1 e1 rel1⟩
theorem stepI {n : Nat} (hE : SE T N Γ G k n) : SI T N Γ G k (n + 1) := by
  intro X W sc own g tg e c h hwk
  simp only [cI] at h
  split at h
  case h_1 a hr =>
    simp only [Option.map_eq_some_iff] at h
    obtain ⟨c', h1, rfl⟩ := h
    obtain ⟨p, pos, rfl, hg, hf⟩ : ∃ p pos, e = .Call (.Name "range" p) [a] [] pos ∧ glB sc "range" = true ∧ T.free.contains "range" = true := by
      unfold isRng at hr
      split at hr
      case h_1 f p es pos =>
        split at hr
        case isTrue hh =>
          cases hr
          rw [Bool.and_eq_true, Bool.and_eq_true, decide_eq_true_eq] at hh
          obtain ⟨⟨h1, h2⟩, rfl⟩ := hh
          exact ⟨p, pos, rfl, h1, h2⟩
        case isFalse => cases hr
      case h_2 => cases hr
    have pl := plain_star (cE_plain h1) [] X.env
    refine PI.imp (pi_range1 (tg := tg) (p := p) (pos := pos) (g.gl hg) (g.lk.free _ hf) (pa_cons (hE X W sc own g a c' h1) pa_nil pl) (by rw [pl]; rfl)) fun τ H R q => ?_
    obtain ⟨σ', S, F, Qd, Xd, rel, rs, hw, kv, kx⟩ := q
    refine ⟨σ', S, F, _, Xd, rel, rs, hw, fun d S1 x H1 q1 e1 rel1 rd1 => ?_, kx⟩
    cases d <;> first | exact (show False from q1).elim | skip
    rename_i j
    obtain ⟨⟨b1, b2⟩, q1⟩ : inB j ∧ Qd (rngD 0 j.toNat) (fun _ => True) S1 := q1
    exact ⟨j, by rw [rd1.inti], b1, b2, kv _ _ _ _ _ q1 e1 rel1 walkN⟩
  case h_2 a b hr =>
    simp only [bind, Option.bind_eq_some_iff, pure, Option.some.injEq] at h
    obtain ⟨a', h1, b', h2, rfl⟩ := h
    obtain ⟨p, pos, rfl, hg, hf⟩ : ∃ p pos, e = .Call (.Name "range" p) [a, b] [] pos ∧ glB sc "range" = true ∧ T.free.contains "range" = true := by
      unfold isRng at hr
      split at hr
      case h_1 f p es pos =>
        split at hr
        case isTrue hh =>
          cases hr
          rw [Bool.and_eq_true, Bool.and_eq_true, decide_eq_true_eq] at hh
          obtain ⟨⟨h1, h2⟩, rfl⟩ := hh
          exact ⟨p, pos, rfl, h1, h2⟩
        case isFalse => cases hr
      case h_2 => cases hr
    have pb := plain_star (cE_plain h2) [] X.env
    have pl := plain_star (cE_plain h1) [b] X.env
    refine PI.imp (pi_range2 (tg := tg) (p := p) (pos := pos) (g.gl hg) (g.lk.free _ hf) (pa_cons (hE X W sc own g a a' h1) (pa_cons (hE X W sc own g b b' h2) pa_nil pb) pl) (by rw [pl, pb]; rfl) (by rw [pb]; rfl)) fun τ H R q => ?_
    obtain ⟨σ', S, F, Qd, Xd, rel, rs, hw, kv, kx⟩ := q
    refine ⟨σ', S, F, _, Xd, rel, rs, hw, fun d S1 x H1 q1 e1 rel1 rd1 => ?_, kx⟩
    refine ⟨σ', S1, F, _, Xd, rel1, rs.ext e1, q1, fun d2 S2 y H2 q2 e2 rel2 rd2 => ?_, kx.ext e1⟩
    cases d <;> cases d2 <;> first | exact (show False from q2).elim | skip
    rename_i i j
    obtain ⟨⟨b1, b2⟩, ⟨b3, b4⟩, q2⟩ : inB i ∧ inB j ∧ Qd (rngD i (j - i).toNat) (fun _ => True) S2 := q2
    exact ⟨i, j, by rw [rd1.inti, rd2.inti], ⟨b1, b2, b3, b4⟩, kv _ _ _ _ _ q2 (e1.trans e2) rel2 walkN⟩
  case h_3 => cases h
  case h_4 =>
   split at h
   case h_1 a hr =>
    simp only [Option.map_eq_some_iff] at h
    obtain ⟨c', h1, rfl⟩ := h
    obtain ⟨p, pos, rfl, hg, hf⟩ : ∃ p pos, e = .Call (.Name "enumerate" p) [a] [] pos ∧ glB sc "enumerate" = true ∧ T.free.contains "enumerate" = true := by
      unfold isEn at hr
      split at hr
      case h_1 f p1 e1 pos1 =>
        split at hr
        case isTrue hh =>
          cases hr
          rw [Bool.and_eq_true, Bool.and_eq_true, decide_eq_true_eq] at hh
          obtain ⟨⟨h1, h2⟩, h3⟩ := hh
          subst h3
          exact ⟨_, _, rfl, h1, h2⟩
        case isFalse => cases hr
      case h_2 => cases hr
    have htg := hwk rfl
    obtain ⟨es, kk, tp, rfl⟩ : ∃ es kk tp, tg = .Tuple es kk tp := by
      cases tg <;> first | exact ⟨_, _, _, rfl⟩ | cases htg
    have pl := plain_star (cE_plain h1) [] X.env
    refine PI.imp (pi_enum (tpos := tp) (kk := kk) (elts := es) (g.gl hg) (g.lk.free _ hf) (pa_cons (hE X W sc own g a c' h1) pa_nil pl) (by rw [pl]; rfl)) fun τ H R q => ?_
    obtain ⟨σ', S, F, Qd, Xd, rel, rs, hw, kv, kx⟩ := q
    refine ⟨σ', S, F, _, Xd, rel, rs, hw, fun d S1 x H1 q1 e1 rel1 rd1 => ?_, kx⟩
    cases d <;> first | exact (show False from q1).elim | skip
    rename_i b
    have eb := rd1.refi
    subst eb
    have q1 : itR (.ref b) S1 (fun l => Qd (enumD l)) := q1
    simp only [itR] at q1
    split at q1
    case h_1 l hl =>
      obtain ⟨vs, h1, h2⟩ := rel1.lst hl
      exact ⟨b, vs, rfl, .of h1, kv _ _ _ _ _ q1 e1 rel1 walkE⟩
    case h_2 l hl =>
      obtain ⟨o, vs, h1, h2⟩ := rel1.rls hl
      exact ⟨b, vs, rfl, .inl (.inr ⟨o, h1⟩), kv _ _ _ _ _ q1 e1 rel1 walkER⟩
    case h_3 => exact q1.elim
   case h_2 =>
    simp only [Option.map_eq_some_iff] at h
    obtain ⟨c', h1, rfl⟩ := h
    refine PI.imp (pi_of (tg := tg) (hE X W sc own g e c' h1)) fun τ H R q => ?_
    obtain ⟨σ', S, F, Qd, Xd, rel, rs, hw, kv, kx⟩ := q
    refine ⟨σ', S, F, _, Xd, rel, rs, hw, fun d S1 x H1 q1 e1 rel1 rd1 => ?_, kx⟩
    exact itR_of rel1 rd1 q1 fun l chk S' J H' q' e' rel' wk => kv l chk S' J H' q' (e1.trans e') rel' wk
theorem stepB {n : Nat} (hE : SE T N Γ G k n) (hT : ST T N Γ G k n) (hB : SB T N Γ G k n) : SB T N Γ G k (n + 1) := by
  intro X W sc own g op es c pos h0
  match es, h0 with
  | [], h => simp [cB] at h
  | [a], h =>
    simp only [cB] at h
    refine ⟨pe_one (hE X W sc own g a c h), ?_⟩
    cases op
    · exact pw_and1 (hT X W sc own g a c h)
    · exact pw_or1 (hT X W sc own g a c h)
  | a :: b :: r, h =>
    simp only [cB, bind, Option.bind_eq_some_iff, pure, Option.some.injEq] at h
    obtain ⟨a', h1, b', h2, rfl⟩ := h
    obtain ⟨h3, h4⟩ := hB X W sc own g op (b :: r) b' pos h2
    cases op
    · constructor
      · refine PE.imp (pe_and (hE X W sc own g a a' h1) h3) fun τ H Q q => ?_
        obtain ⟨σ', S, F, Qd, Xd, rel, rs, hw, kv, kx⟩ := q
        refine ⟨σ', S, F, _, Xd, rel, rs, hw, fun d S1 x H1 q1 e1 rel1 rd1 => ?_, kx⟩
        cases d <;> first | exact (show False from q1).elim | skip
        rename_i c
        have q1 : if c = true then wE Γ G b' σ' S1 Qd Xd else Qd (.bl false) S1 := q1
        refine ⟨c, rd1.bli, ?_⟩
        cases c with
        | true => exact ⟨σ', S1, F, Qd, Xd, rel1, rs.ext e1, q1, kv.ext e1, kx.ext e1⟩
        | false => exact kv _ _ _ _ q1 e1 rel1 .bl
      · refine ⟨fun wh pins s τ H Q I q => (pw_and (hT X W sc own g a a' h1) h4).run wh pins s τ H Q I ?_⟩
        obtain ⟨σ', S, F, Qd, Xd, rel, rs, hw, kv, kx⟩ := q
        refine ⟨σ', S, F, _, Xd, rel, rs, hw, fun c S1 H1 q1 e1 rel1 => ?_, kx⟩
        cases c with
        | true => exact ⟨σ', S1, F, Qd, Xd, rel1, rs.ext e1, q1, fun b S' H' q e => kv b S' H' q (e1.trans e), kx.ext e1⟩
        | false => exact kv _ _ _ q1 e1 rel1
    · constructor
      · refine PE.imp (pe_or (hE X W sc own g a a' h1) h3) fun τ H Q q => ?_
        obtain ⟨σ', S, F, Qd, Xd, rel, rs, hw, kv, kx⟩ := q
        refine ⟨σ', S, F, _, Xd, rel, rs, hw, fun d S1 x H1 q1 e1 rel1 rd1 => ?_, kx⟩
        cases d <;> first | exact (show False from q1).elim | skip
        rename_i c
        have q1 : if c = true then Qd (.bl true) S1 else wE Γ G b' σ' S1 Qd Xd := q1
        refine ⟨c, rd1.bli, ?_⟩
        cases c with
        | false => exact ⟨σ', S1, F, Qd, Xd, rel1, rs.ext e1, q1, kv.ext e1, kx.ext e1⟩
        | true => exact kv _ _ _ _ q1 e1 rel1 .bl
      · refine ⟨fun wh pins s τ H Q I q => (pw_or (hT X W sc own g a a' h1) h4).run wh pins s τ H Q I ?_⟩
        obtain ⟨σ', S, F, Qd, Xd, rel, rs, hw, kv, kx⟩ := q
        refine ⟨σ', S, F, _, Xd, rel, rs, hw, fun c S1 H1 q1 e1 rel1 => ?_, kx⟩
        cases c with
        | false => exact ⟨σ', S1, F, Qd, Xd, rel1, rs.ext e1, q1, fun b S' H' q e => kv b S' H' q (e1.trans e), kx.ext e1⟩
        | true => exact kv _ _ _ q1 e1 rel1
theorem stepC {n : Nat} (hE : SE T N Γ G k n) (hT : ST T N Γ G k n) (hI : SI T N Γ G k n) : SC T N Γ G k (n + 1) := by
  intro X W sc own g b e tg it ifs scope c h
  simp only [cC, bind, Option.bind_eq_some_iff, pure, Option.some.injEq] at h
  obtain ⟨_, h1, it', h2, _, h7, tg', h3, _, h4, e', h5, c', h6, rfl⟩ := h
  rw [gd_some] at h1 h4 h7
  have hwk : wkI it' = true → tupX tg = true := fun q => by
    rw [q] at h7
    exact h7
  have hwg : wkI it' = true → ∃ ts, tg' = .tup ts := fun q => by
    have h8 := hwk q
    cases n with
    | zero => simp [cG] at h3
    | succ n =>
      cases tg <;> first | (cases h8; done) | skip
      simp only [cG, Option.map_eq_some_iff] at h3
      obtain ⟨ts, _, e⟩ := h3
      exact ⟨ts, e.symm⟩
  have ok := blkOk_by h1
  have ok' : BlkOk X.N X.env.scope scope (ownOf N scope) := by rw [g.N_eq, g.sc_eq]; exact ok
  have gin : ∀ (s : Shared) (H : Hp) (C : Addr) (cl : List (Str × Addr)) (fp : List Addr), Gd T N Γ G (X.blk s H scope (compEnvC scope cl C X.env) fp) W0 (relS scope sc) (fun x => scope.names.lookup x == some .cell) k := fun s H C cl fp =>
    ⟨g.N_eq, by rw [← g.sc_eq]; rfl, g.nd, ok.kind, g.room, g.k2, g.calm, tk0, .never, fun _ hx => hx, g.lk⟩
  have hi : PI X tg it (LI X.K (wkI it') W (wI Γ G it')) := hI X W sc own g tg it it' h2 hwk
  have hN : X.N.Nodup := by rw [g.N_eq]; exact g.nd
  have hg : ∀ (s : Shared) (H : Hp) (C : Addr) (cl : List (Str × Addr)) (fp : List Addr), PG (X.blk s H scope (compEnvC scope cl C X.env) fp) tg (LG X.K (wkI it') (tgSlots tg') (wG tg')) := fun s H C cl fp => sG (gin s H C cl fp) n tg tg' _ h3 hwg
  have he : ∀ (s : Shared) (H : Hp) (C : Addr) (cl : List (Str × Addr)) (fp : List Addr), PE (X.blk s H scope (compEnvC scope cl C X.env) fp) e (LE X.K W0 (wE Γ G e')) := fun s H C cl fp => hE _ _ _ _ (gin s H C cl fp) e e' h5
  have ht : ∀ (s : Shared) (H : Hp) (C : Addr) (cl : List (Str × Addr)) (fp : List Addr), PTs (X.blk s H scope (compEnvC scope cl C X.env) fp) ifs (LT X.K W0 (wC Γ G c')) := by
    intro s H C cl fp
    match ifs, h6 with
    | [], h6 =>
      cases h6
      refine ⟨fun pins s σ H Q I q => pts_nil.run pins s σ H Q I ?_⟩
      obtain ⟨σ', S, F, Qd, Xd, rel, rs, hw, kv, kx⟩ := q
      exact kv _ _ _ hw .refl rel
    | [t], h6 =>
      simp only [Option.map_eq_some_iff] at h6
      obtain ⟨t', h7, h8⟩ := h6
      rw [← h8]
      exact pts_one (hT _ _ _ _ (gin s H C cl fp) t t' h7)
    | _ :: _ :: _, h6 => cases h6
  have hs : ∀ x, foldedSetIterable it X.env x = pure x := by
    intro x
    refine plain_fold ?_ _ _
    cases n with
    | zero => simp [cI] at h2
    | succ n =>
      simp only [cI] at h2
      cases it <;> first | rfl | (simp [isRng, isEn] at h2; obtain ⟨c, h2, _⟩ := h2; exact cE_plain h2)
  have hsl : ∀ i ∈ tgSlots tg', i ∈ (ownOf N scope).map (·.2) := by
    intro i hi
    have := List.all_eq_true.mp h4 i hi
    simpa using this
  refine ⟨e', tg', it', c', _, rfl, fun pos => ?_, fun pos spos i y py hy hyl hsw => ?_⟩
  · exact PE.imp (pe_lc (pos := pos) (own := ownOf N scope) g.calm hN hi ok' hg ht he hs) fun τ H Q q => lc_conv hsl q
  · exact PS.imp (ps_setLc (pos := pos) (own := ownOf N scope) g.calm hN hy hyl hsw hi ok' hg ht he hs) fun D τ H q => lc_conv hsl q
end Mi
namespace Mi
open PySem PySem.Spec PyProof.Rows L2
variable {T : Tb} {N : List Str} {Γ : Str → FS} {G : Str → Option D} {k : Nat}
theorem Rel.lit {K : PySem.W.Frag} {S : Sto} {F H : Hp} {p : Addr} {o o' : HO} {c : Cell} (r : Rel K S (L2.upd F p o) H) (f : F p = none) (nt : ∀ xs, o ≠ .tup xs) (nf : ∀ ob x, o ≠ .frz ob x) (h : RC K (L2.upd H p o') p c) : Ext H (L2.upd H p o') ∧ Rel K (S.upd p c) F (L2.upd H p o') := by
  have hp : H p = some o := r.frm p _ upd_same
  have sp : S p = none := r.sep p _ upd_same
  have x : Ext H (L2.upd H p o') := .write hp nt nf
  refine ⟨x, fun a d q => ?_, fun a u q => ?_, fun a u q => ?_⟩
  · by_cases ha : a = p
    · subst ha; rw [Sto.upd_same] at q; cases q; exact h
    · rw [Sto.upd_ne ha] at q; exact (r.cell a d q).ext x (upd_ne ha)
  · have ha : a ≠ p := fun z => by subst z; rw [f] at q; cases q
    rw [upd_ne ha]; exact r.frm a u (upd_sub f a u q)
  · have ha : a ≠ p := fun z => by subst z; rw [f] at q; cases q
    rw [Sto.upd_ne ha]; exact r.sep a u (upd_sub f a u q)
theorem cEs_len {sc : Scope} : ∀ {n : Nat} {es : List PySem.Expr} {cs : Es}, cEs T N n sc es = some cs → True := fun _ => trivial
theorem cEs_few {sc : Scope} {env : Env} {pos : Pos} {n : Nat} {e : PySem.Expr} {es : List PySem.Expr} {cs : Es} (h : cEs T N n sc (e :: es) = some cs) (hl : (e :: es).length < 20) :
    ((backTo pos (starEach (e :: es) env)).all (fun x => !x.1) && (backToKw pos (keywordEach [] env)).all (fun x => x.1.isSome) && decide ((e :: es).length + ([] : List Keyword).length + (if ([] : List Keyword).isEmpty then 0 else 1) < 30)) = true := by
  have h1 := cEs_star (env := env) (pos := pos) h
  have h2 : (backTo pos (starEach (e :: es) env)).all (fun x => !x.1) = true := by
    rw [List.all_eq_true]
    intro x hx
    have := List.any_eq_false.mp h1 x hx
    simpa using this
  rw [h2]
  simp only [Bool.true_and, Bool.and_eq_true, decide_eq_true_eq]
  refine ⟨rfl, ?_⟩
  show (e :: es).length + 0 + 0 < 30
  omega
def mtyS : Mt → String
  | .get => "dict" | .append => "list" | .extend => "list" | .pop => "list" | .insert => "list" | .find => "str" | .index => "list" | .startswith => "str" | .join => "str" | .zfill => "str"
theorem ty_of {K : PySem.W.Frag} {S : Sto} {F H : Hp} {m : Mt} {d : D} {x : V} (rel : Rel K S F H) (rd : RD K H d x) (h : mtyR m d S = true) : tyV K (mtyS m) x H := by
  cases m <;> cases d <;> simp only [mtyR, Bool.false_eq_true] at h
  case get.ref a =>
    have e := rd.refi; subst e
    split at h
    case h_1 kvs hk =>
      obtain ⟨ws, h1, h2⟩ := rel.dct hk
      exact .inr (.inr (.inl ⟨rfl, .inl ⟨ws, h1⟩⟩))
    case h_2 => cases h
  all_goals
    (have e := rd.refi; subst e
     split at h
     case h_1 l hl =>
       obtain ⟨ws, h1, h2⟩ := rel.lst hl
       exact .inl ⟨rfl, ws, .of h1⟩
     case h_2 => cases h)
theorem le_mth {K : PySem.W.Frag} {W : WX} {m : Mt} {w1 : WE1} {w2 : En → Sto → (List D → Sto → Prop) → KX → Prop} {τ : L2.St} {H : Hp} {Q : VK} (h : LE K W (fun σ S Q X => w1 σ S (fun x S1 => mtyR m x S1 = true ∧ w2 σ S1 (fun ds S2 => mthR m x ds S2 Q) X) X) τ H Q) :
    tBM K (mtyS m) (LM K m) (LE K W w1) (LA K W w2) τ H Q := by
  obtain ⟨σ, S, F, Qd, Xd, rel, rs, hw, kv, kx⟩ := h
  refine ⟨σ, S, F, _, Xd, rel, rs, hw, fun d S1 x H1 ⟨ht, q1⟩ e1 rel1 rd1 => ⟨ty_of rel1 rd1 ht, ?_⟩, kx⟩
  exact ⟨σ, S1, F, _, Xd, rel1, rs.ext e1, q1, fun ds S2 vs H2 q2 e2 rel2 rd2 => ⟨d, ds, S2, F, Qd, rel2, RD.ext e2 _ _ rd1, rd2, q2, kv.ext (e1.trans e2)⟩, kx.ext e1⟩
theorem le_mth0 {K : PySem.W.Frag} {W : WX} {m : Mt} {w1 : WE1} {τ : L2.St} {H : Hp} {Q : VK} (h : LE K W (fun σ S Q X => w1 σ S (fun x S1 => mtyR m x S1 = true ∧ mthR m x [] S1 Q) X) τ H Q) :
    tBM0 K (mtyS m) (LM K m) (LE K W w1) τ H Q := by
  obtain ⟨σ, S, F, Qd, Xd, rel, rs, hw, kv, kx⟩ := h
  refine ⟨σ, S, F, _, Xd, rel, rs, hw, fun d S1 x H1 ⟨ht, q1⟩ e1 rel1 rd1 => ⟨ty_of rel1 rd1 ht, ?_⟩, kx⟩
  exact ⟨d, [], S1, F, Qd, rel1, rd1, .nil, q1, kv.ext e1⟩
theorem base_ok {o : PySem.Expr} {name : Str} {env : Env} {wh : Sem Value} (h : (match o with | .Call .. => false | _ => true) = true) : attributeBase o name env wh = wh := by
  cases o <;> first | rfl | cases h
theorem mthOf_cases {x : Str} {m : Mt} (h : mthOf x = some m) : (x = ("append" : Str) ∧ m = .append) ∨ (x = ("extend" : Str) ∧ m = .extend) ∨ (x = ("get" : Str) ∧ m = .get) ∨ (x = ("pop" : Str) ∧ m = .pop) ∨ (x = ("insert" : Str) ∧ m = .insert) ∨ (x = ("index" : Str) ∧ m = .index) := by
  unfold mthOf at h
  rcases ite_some h with ⟨h1, h2⟩ | h; exact .inl ⟨h1, h2.symm⟩
  rcases ite_some h with ⟨h1, h2⟩ | h; exact .inr (.inl ⟨h1, h2.symm⟩)
  rcases ite_some h with ⟨h1, h2⟩ | h; exact .inr (.inr (.inl ⟨h1, h2.symm⟩))
  rcases ite_some h with ⟨h1, h2⟩ | h; exact .inr (.inr (.inr (.inl ⟨h1, h2.symm⟩)))
  rcases ite_some h with ⟨h1, h2⟩ | h; exact .inr (.inr (.inr (.inr (.inl ⟨h1, h2.symm⟩))))
  rcases ite_some h with ⟨h1, h2⟩ | h; exact .inr (.inr (.inr (.inr (.inr ⟨h1, h2.symm⟩))))
  cases h
theorem pe_mth {X : Cx} {W : WX} {sc : Scope} {own : Str → Bool} (g : Gd T N Γ G X W sc own k) {name : Str} {m : Mt} {o e : PySem.Expr} {es : List PySem.Expr} {apos cpos : Pos} {to : TE} {t : TA} (hm : mthOf name = some m) (ho : PE X o to) (ha : PA X (e :: es) t)
    (hbase : attributeBase o name X.env (eval o X.env) = eval o X.env)
    (hfew : ((backTo cpos (starEach (e :: es) X.env)).all (fun x => !x.1) && (backToKw cpos (keywordEach [] X.env)).all (fun x => x.1.isSome)
      && decide ((e :: es).length + ([] : List Keyword).length + (if ([] : List Keyword).isEmpty then 0 else 1) < 30)) = true)
    (hline : (apos.endLine == cpos.line) = true) (hs : starEach (e :: es) X.env = (false, eval e X.env) :: starEach es X.env) (hpl : (backTo cpos (starEach es X.env)).any (·.1) = false) :
    PE X (.Call (.Attribute o name apos) (e :: es) [] cpos) (tBM X.K (mtyS m) (LM X.K m) to t) := by
  rcases mthOf_cases hm with ⟨rfl, rfl⟩ | ⟨rfl, rfl⟩ | ⟨rfl, rfl⟩ | ⟨rfl, rfl⟩ | ⟨rfl, rfl⟩ | ⟨rfl, rfl⟩
  · exact pe_bm PySem.F.plainAttrs_list PySem.F.slot_list_append PySem.F.type_list_append append_sound ho ha hbase hfew hline hs hpl
  · exact pe_bm PySem.F.plainAttrs_list PySem.F.slot_list_extend PySem.F.type_list_extend extend_sound ho ha hbase hfew hline hs hpl
  · exact pe_bm PySem.F.plainAttrs_dict PySem.F.slot_dict_get PySem.F.type_dict_get (get_sound g.room) ho ha hbase hfew hline hs hpl
  · exact pe_bm PySem.F.plainAttrs_list PySem.F.slot_list_pop PySem.F.type_list_pop pop_sound ho ha hbase hfew hline hs hpl
  · exact pe_bm PySem.F.plainAttrs_list PySem.F.slot_list_insert PySem.F.type_list_insert insert_sound ho ha hbase hfew hline hs hpl
  · exact pe_bm PySem.F.plainAttrs_list PySem.F.slot_list_index PySem.F.type_list_index index_sound ho ha hbase hfew hline hs hpl
theorem pe_mth0 {X : Cx} {W : WX} {sc : Scope} {own : Str → Bool} (g : Gd T N Γ G X W sc own k) {name : Str} {m : Mt} {o : PySem.Expr} {apos cpos : Pos} {to : TE} (hm : mthOf name = some m) (ho : PE X o to)
    (hbase : attributeBase o name X.env (eval o X.env) = eval o X.env) (hline : (apos.endLine == cpos.line) = true) :
    PE X (.Call (.Attribute o name apos) [] [] cpos) (tBM0 X.K (mtyS m) (LM X.K m) to) := by
  rcases mthOf_cases hm with ⟨rfl, rfl⟩ | ⟨rfl, rfl⟩ | ⟨rfl, rfl⟩ | ⟨rfl, rfl⟩ | ⟨rfl, rfl⟩ | ⟨rfl, rfl⟩
  · exact pe_bm0 PySem.F.plainAttrs_list PySem.F.slot_list_append PySem.F.type_list_append append_sound ho hbase hline
  · exact pe_bm0 PySem.F.plainAttrs_list PySem.F.slot_list_extend PySem.F.type_list_extend extend_sound ho hbase hline
  · exact pe_bm0 PySem.F.plainAttrs_dict PySem.F.slot_dict_get PySem.F.type_dict_get (get_sound g.room) ho hbase hline
  · exact pe_bm0 PySem.F.plainAttrs_list PySem.F.slot_list_pop PySem.F.type_list_pop pop_sound ho hbase hline
  · exact pe_bm0 PySem.F.plainAttrs_list PySem.F.slot_list_insert PySem.F.type_list_insert insert_sound ho hbase hline
  · exact pe_bm0 PySem.F.plainAttrs_list PySem.F.slot_list_index PySem.F.type_list_index index_sound ho hbase hline
theorem le_disp1 {K : PySem.W.Frag} {W : WX} {w1 w2 : WE1} {τ : L2.St} {H : Hp} {Q : VK}
    (h : LE K W (fun σ S Q X => w1 σ S (fun x S1 => w2 σ S1 (fun y S2 => (keyD x).isSome = true ∧ ∀ p, S2 p = none → Q (.ref p) (S2.upd p (.dct [(x, y)]))) X) X) τ H Q) : tDisp [(LE K W w1, LE K W w2)] τ H Q := by
  obtain ⟨σ, S, F, Qd, Xd, rel, rs, hw, kv, kx⟩ := h
  intro p hp
  have fp := rel.freeF hp
  have x0 : Ext H (L2.upd H p (.dK [])) := .new hp
  have kx' : ∀ {F' H1}, (∀ a o, F a = some o → F' a = some o) → Ext H H1 → KXs K F' H1 Xd (WE W τ) := fun hF e x S' c dx H' q e' r rx => kx x S' c dx H' q (e.trans e') (r.lessF hF) rx
  refine ⟨σ, S, L2.upd F p (.dK []), _, Xd, rel.hide hp, rs.ext x0, hw, fun d S1 x H1 q1 e1 rel1 rd1 => ?_, kx' (upd_sub fp) x0⟩
  refine ⟨σ, S1, L2.upd F p (.dK []), _, Xd, rel1, rs.ext (x0.trans e1), q1, fun d2 S2 y H2 q2 e2 rel2 rd2 => ?_, kx' (upd_sub fp) (x0.trans e1)⟩
  obtain ⟨hk, q2⟩ := q2
  obtain ⟨k', hk⟩ := Option.isSome_iff_exists.mp hk
  have rd1' := RD.ext e2 _ _ rd1
  refine ⟨rel2.frm p _ upd_same, [(k', y)], by rw [keyD_kV hk rd1']; rfl, Nat.le_of_ble_eq_true rfl, ?_⟩
  have hm : mergeK [] [(k', y)] = [(k', y)] := rfl
  rw [hm]
  have ex : Ext H2 (L2.upd H2 p (.dK [(k', y)])) := .write (rel2.frm p _ upd_same) (fun _ z => nomatch z) (fun _ _ z => nomatch z)
  obtain ⟨x3, rel3⟩ := rel2.lit (o' := .dK [(k', y)]) (c := .dct [(d, d2)]) fp (fun _ z => nomatch z) (fun _ _ z => nomatch z) ⟨_, upd_same, by rw [RK]; exact ⟨k', y, [], rfl, hk, RD.ext ex _ _ rd2, by rw [RK]⟩⟩
  exact kv _ _ _ _ (q2 p (rel2.sep p _ upd_same)) (((x0.trans e1).trans e2).trans x3) rel3 .ref
end Mi
namespace Mi
open PySem PySem.Spec PyProof.Rows L2
variable {T : Tb} {N : List Str} {Γ : Str → FS} {G : Str → Option D} {k : Nat}
theorem le_comp {K : PySem.W.Frag} {W : WX} {w : En → Sto → (List D → Sto → Prop) → KX → Prop} {τ : L2.St} {H : Hp} {Q : VK} (h : LE K W (fun σ S Q X => w σ S (fun ds S2 => ∀ p, S2 p = none → Q (.ref p) (S2.upd p (.lst ds))) X) τ H Q) : LL K W w τ H Q := by
  obtain ⟨σ, S, F, Qd, Xd, rel, rs, hw, kv, kx⟩ := h
  exact ⟨σ, S, F, _, Xd, rel, rs, hw, fun ds S' a vs H' q e fa rel' rd => kv _ _ _ _ (q a (rel'.sep a _ upd_same)) e (rel'.show fa rd) .ref, kx⟩
theorem le_bll {K : PySem.W.Frag} {W : WX} {b : Bl} {w : En → Sto → (List D → Sto → Prop) → KX → Prop} {τ : L2.St} {H : Hp} {Q : VK} (h : LE K W (fun σ S Q X => w σ S (fun ds S2 => bllR b ds S2 Q) X) τ H Q) :
    tCB (fun vs H Q => ∃ a l ws S F Qd, vs = [.ref a] ∧ Rel K S F H ∧ H a = some (.lst ws) ∧ RDs K H l ws ∧ bllR b l S Qd ∧ KV K F H Qd Q) (tCons (LL K W w) tNil) τ H Q := by
  obtain ⟨σ, S, F, Qd, Xd, rel, rs, hw, kv, kx⟩ := h
  exact ⟨σ, S, F, _, Xd, rel, rs, hw, fun ds S' a vs H' q e fa rel' rd => ⟨a, ds, vs, S', F, Qd, rfl, rel'.lessF (upd_sub fa), rel'.frm a _ upd_same, rd, q, kv.ext e⟩, kx⟩
theorem le_slc {K : PySem.W.Frag} {W : WX} {w1 : WE1} {w2 w3 : En → Sto → (Option Int → Sto → Prop) → KX → Prop} {τ : L2.St} {H : Hp} {Q : VK} (h : LE K W (fun σ S Q X => w1 σ S (fun x S1 => w2 σ S1 (fun l S2 => w3 σ S2 (fun h S3 => slcR x l h S3 Q) X) X) X) τ H Q) :
    tSl (LSl K) (LE K W w1) (LOp K W w2) (LOp K W w3) τ H Q := by
  obtain ⟨σ, S, F, Qd, Xd, rel, rs, hw, kv, kx⟩ := h
  refine ⟨σ, S, F, _, Xd, rel, rs, hw, fun d S1 x H1 q1 e1 rel1 rd1 => ?_, kx⟩
  refine ⟨σ, S1, F, _, Xd, rel1, rs.ext e1, q1, fun o S2 H2 q2 e2 rel2 => ?_, kx.ext e1⟩
  refine ⟨σ, S2, F, _, Xd, rel2, rs.ext (e1.trans e2), q2, fun o3 S3 H3 q3 e3 rel3 => ?_, kx.ext (e1.trans e2)⟩
  exact ⟨d, S3, F, Qd, rel3, RD.ext (e2.trans e3) _ _ rd1, q3, kv.ext ((e1.trans e2).trans e3)⟩
theorem le_ite {K : PySem.W.Frag} {W : WX} {wt : En → Sto → (Bool → Sto → Prop) → KX → Prop} {w1 w2 : WE1} {τ : L2.St} {H : Hp} {Q : VK} (h : LE K W (fun σ S Q X => wt σ S (fun c S1 => if c = true then w1 σ S1 Q X else w2 σ S1 Q X) X) τ H Q) :
    tIf (LT K W wt) (LE K W w1) (LE K W w2) τ H Q := by
  obtain ⟨σ, S, F, Qd, Xd, rel, rs, hw, kv, kx⟩ := h
  refine ⟨σ, S, F, _, Xd, rel, rs, hw, fun c S1 H1 q1 e1 rel1 => ?_, kx⟩
  cases c with
  | true => exact ⟨σ, S1, F, Qd, Xd, rel1, rs.ext e1, q1, kv.ext e1, kx.ext e1⟩
  | false => exact ⟨σ, S1, F, Qd, Xd, rel1, rs.ext e1, q1, kv.ext e1, kx.ext e1⟩
theorem le_isi {K : PySem.W.Frag} {W : WX} {t : Ty} {w1 : WE1} {τ : L2.St} {H : Hp} {Q : VK} (h : LE K W (fun σ S Q X => w1 σ S (fun x S1 => (match [t].mapM (fun t => isT t x S1) with | some bs => Q (.bl (bs.any id)) S1 | none => False)) X) τ H Q) :
    tCB (rIsi K) (tCons (LE K W w1) (tCons (tC (.ty (tyS t))) tNil)) τ H Q := by
  obtain ⟨σ, S, F, Qd, Xd, rel, rs, hw, kv, kx⟩ := h
  refine ⟨σ, S, F, _, Xd, rel, rs, hw, fun d S1 x H1 q1 e1 rel1 rd1 => ?_, kx⟩
  cases hb : isT t d S1 with
  | none => simp [hb] at q1
  | some b =>
    simp [hb] at q1
    obtain ⟨ty, h1, h2⟩ := isT_ok rel1 rd1 hb
    exact ⟨x, .ty (tyS t), ty, .type (tyS t), b, rfl, .ty _, h1, h2, kv _ _ _ _ q1 e1 rel1 .bl⟩
theorem tyOf_ok {sc : Scope} {e : PySem.Expr} {t : Ty} (h : tyOf T sc e = some t) : ∃ x p, e = .Name x p ∧ glB sc x = true ∧ T.free.contains x = true ∧ bootBuiltins x = some (.type (tyS t)) := by
  unfold tyOf at h
  split at h
  case h_1 x p =>
    split at h
    case isTrue hh =>
      rw [Bool.and_eq_true] at hh
      refine ⟨x, p, rfl, hh.1, hh.2, ?_⟩
      rcases ite_some h with ⟨rfl, rfl⟩ | h; exact (by decide +kernel : bootBuiltins "int" = some (.type "int"))
      rcases ite_some h with ⟨rfl, rfl⟩ | h; exact (by decide +kernel : bootBuiltins "bool" = some (.type "bool"))
      rcases ite_some h with ⟨rfl, rfl⟩ | h; exact (by decide +kernel : bootBuiltins "str" = some (.type "str"))
      rcases ite_some h with ⟨rfl, rfl⟩ | h; exact (by decide +kernel : bootBuiltins "tuple" = some (.type "tuple"))
      rcases ite_some h with ⟨rfl, rfl⟩ | h; exact (by decide +kernel : bootBuiltins "list" = some (.type "list"))
      cases h
    case isFalse => cases h
  case h_2 => cases h
theorem LE.monoQ {K : PySem.W.Frag} {W : WX} {w : WE1} {τ : L2.St} {H : Hp} {Q Q' : VK} (h : LE K W w τ H Q) (i : ∀ x H', Q x H' → Q' x H') : LE K W w τ H Q' := by
  obtain ⟨σ, S, F, Qd, Xd, rel, rs, hw, kv, kx⟩ := h
  exact ⟨σ, S, F, Qd, Xd, rel, rs, hw, fun d S' v H' q e r rd => i _ _ (kv d S' v H' q e r rd), kx⟩
theorem boot_isi : bootBuiltins "isinstance" = some (.builtin "isinstance") := by decide +kernel
theorem pe_false {X : Cx} {W : WX} {e : PySem.Expr} {w : WE1} (h : ∀ σ S Q X, ¬ w σ S Q X) : PE X e (LE X.K W w) := ⟨fun _ _ _ _ _ _ ⟨σ, S, _, Qd, Xd, _, _, hw, _⟩ => absurd hw (h σ S Qd Xd)⟩
theorem pt_false {X : Cx} {W : WX} {e : PySem.Expr} {w : En → Sto → (Bool → Sto → Prop) → KX → Prop} (h : ∀ σ S Q X, ¬ w σ S Q X) : PT X e (LT X.K W w) := ⟨fun _ _ _ _ _ _ ⟨σ, S, _, Qd, Xd, _, _, hw, _⟩ => absurd hw (h σ S Qd Xd)⟩
theorem stepE {n : Nat} (hE' : SE T N Γ G k (n - 1)) (hE : SE T N Γ G k n) (hT : ST T N Γ G k n) (hB : SB T N Γ G k n) (hA : SA T N Γ G k n) (hO : SO T N Γ G k n) (hC : SC T N Γ G k n) : SE T N Γ G k (n + 1) := by
  intro X W sc own g e c h
  unfold cE at h
  split at h
  case h_1 => contradiction
  case h_2 n' c0 kk pos hn =>
    cases hn
    simp only [Option.map_eq_some_iff] at h
    obtain ⟨d, h1, rfl⟩ := h
    unfold litOf at h1
    split at h1
    case h_1 i => cases h1; exact PE.imp pe_int fun τ H Q ⟨σ, S, F, Qd, Xd, rel, rs, hw, kv, kx⟩ => kv _ _ _ _ hw .refl rel .int
    case h_2 i => cases h1; exact PE.imp pe_bl fun τ H Q ⟨σ, S, F, Qd, Xd, rel, rs, hw, kv, kx⟩ => kv _ _ _ _ hw .refl rel .bl
    case h_3 => cases h1; exact PE.imp pe_non fun τ H Q ⟨σ, S, F, Qd, Xd, rel, rs, hw, kv, kx⟩ => kv _ _ _ _ hw .refl rel .non
    case h_4 s =>
      split at h1
      case isTrue hs => cases h1; exact PE.imp pe_str fun τ H Q ⟨σ, S, F, Qd, Xd, rel, rs, hw, kv, kx⟩ => kv _ _ _ _ hw .refl rel (.str hs)
      case isFalse => cases h1
    case h_5 => cases h1
  case h_3 x pos hn =>
    cases hn
    split at h
    case h_1 i hi =>
      cases h
      obtain ⟨h1, h2, h3⟩ := visIx_ok hi
      refine PE.imp (pe_var (i := i) (by rw [g.N_eq]; exact h1) (by rw [g.sc_eq]; exact h2) (okN_1 h3).1 (okN_1 h3).2.1) fun τ H Q ⟨σ, S, F, Qd, Xd, rel, rs, hw, kv, kx⟩ => ?_
      have hw : match σ[i]? with | some (some d) => Qd d S | _ => False := hw
      split at hw
      case h_1 d hd =>
        obtain ⟨v, e1, rd⟩ := rs.get i d hd
        exact ⟨v, e1, kv _ _ _ _ hw .refl rel rd⟩
      case h_2 => exact hw.elim
    case h_2 =>
      split at h
      case isTrue hh =>
        cases h
        rw [Bool.and_eq_true] at hh
        cases hG : G x with
        | none =>
          refine pe_false fun σ S Q X hw => ?_
          have hw : match G x with | some d => Q d S | none => False := hw
          rw [hG] at hw
          exact hw
        | some d =>
          obtain ⟨v, u, h1, h2, h3⟩ := g.lk.glob x d hh.2 hG
          refine PE.imp (pe_glob (g.gl hh.1) h1 h2 (okN_1 (glB_ok hh.1).2).1) fun τ H Q ⟨σ, S, F, Qd, Xd, rel, rs, hw, kv, kx⟩ => ?_
          have hw : match G x with | some d => Qd d S | none => False := hw
          rw [hG] at hw
          exact kv _ _ _ _ hw .refl rel (h3 H)
      case isFalse => cases h
  case h_4 a o b pos hn =>
    cases hn
    simp only [bind, Option.bind_eq_some_iff, pure, Option.some.injEq] at h
    obtain ⟨o', h1, a', h2, b', h3, rfl⟩ := h
    rw [opOf_opO h1]
    exact PE.imp (pe_op (op_sound o') (hE X W _ own g a a' h2) (hE X W _ own g b b' h3)) fun τ H Q q => le_op q
  case h_5 a pos hn =>
    cases hn
    simp only [Option.map_eq_some_iff] at h
    obtain ⟨a', h1, rfl⟩ := h
    refine PE.imp (pe_un un_neg (hE X W _ own g a a' h1)) fun τ H Q ⟨σ, S, F, Qd, Xd, rel, rs, hw, kv, kx⟩ => ?_
    refine ⟨σ, S, F, _, Xd, rel, rs, hw, fun d S1 x H1 q1 e1 rel1 rd1 => ?_, kx⟩
    cases d <;> first | exact (show False from q1).elim | skip
    exact ⟨_, rd1.inti, kv _ _ _ _ q1 e1 rel1 .int⟩
  case h_6 a pos hn =>
    cases hn
    simp only [Option.map_eq_some_iff] at h
    obtain ⟨a', h1, rfl⟩ := h
    refine ⟨fun pins s τ H Q I q => ?_⟩
    obtain ⟨σ, S, F, Qd, Xd, rel, rs, hw, kv, kx⟩ := q
    refine UnaryOp_ (thn ((hE X W _ own g a a' h1).run pins s τ H (fun x H' => ∃ k, TruV X.K x H' k ∧ Q (.bl (!k)) H') I ?_) fun v s1 ⟨x, H1, I1, r1, kk, tr, q1⟩ => ?_)
    · refine ⟨σ, S, F, _, Xd, rel, rs, hw, fun d S1 x H1 q1 e1 rel1 rd1 => ?_, kx⟩
      exact tru_conv (Q := fun b H' => Q (.bl (!b)) H') ⟨d, S1, F, _, rel1, rd1, q1, fun b qb => kv _ _ _ _ qb e1 rel1 .bl⟩
    · exact not_of (tru_ok pins s1 τ H1 x v (fun b H' => Q (.bl (!b)) H') I1 r1 ⟨kk, tr, q1⟩ |> fun z => thn z fun b s2 ⟨H2, I2, q2⟩ => ⟨.bl (!b), H2, I2, rfl, q2⟩)
  case h_7 op es pos hn =>
    cases hn
    exact (hB X W _ own g op es c pos h).1
  case h_8 a o b pos hn =>
    cases hn
    simp only [bind, Option.bind_eq_some_iff, pure, Option.some.injEq] at h
    obtain ⟨_, h0, a', h1, b', h2, rfl⟩ := h
    rw [gd_some, Bool.not_eq_true'] at h0
    exact PE.imp (pe_cmpR (cm_sound g.room o) (hE X W _ own g a a' h1) (hE X W _ own g b b' h2) h0) fun τ H Q q => le_cmp q
  case h_9 t a b pos hn =>
    cases hn
    simp only [bind, Option.bind_eq_some_iff, pure, Option.some.injEq] at h
    obtain ⟨t', h1, a', h2, b', h3, rfl⟩ := h
    exact PE.imp (pe_ifExp (hT X W _ own g t t' h1) (hE X W _ own g a a' h2) (hE X W _ own g b b' h3)) fun τ H Q q => le_ite q
  case h_10 es x1 pos hn =>
    cases hn
    simp only [Option.map_eq_some_iff] at h
    obtain ⟨es', h1, rfl⟩ := h
    refine PE.imp (pe_tupF (hA X W _ own g es es' h1)) fun τ H Q ⟨σ, S, F, Qd, Xd, rel, rs, hw, kv, kx⟩ => ?_
    refine ⟨σ, S, F, _, Xd, rel, rs, hw, fun ds S1 vs H1 ⟨hz, q1⟩ e1 rel1 rd1 => ?_, kx⟩
    exact ⟨by rw [rd1.length]; exact hz, fun p o hp ho => kv _ _ _ _ q1 (e1.trans (.new hp)) (rel1.tup hp) (.tupNew hp ho rd1)⟩
  case h_11 es pos hn =>
    cases hn
    simp only [Option.map_eq_some_iff] at h
    obtain ⟨es', h1, rfl⟩ := h
    refine PE.imp (pe_lst (hA X W _ own g es es' h1)) fun τ H Q ⟨σ, S, F, Qd, Xd, rel, rs, hw, kv, kx⟩ => ?_
    refine ⟨σ, S, F, _, Xd, rel, rs, hw, fun ds S1 vs H1 ⟨hz, q1⟩ e1 rel1 rd1 => ?_, kx⟩
    exact ⟨by rw [rd1.length]; exact hz, fun p hp => kv _ _ _ _ (q1 p (rel1.free hp)) (e1.trans (.new hp)) (rel1.newLst hp rd1) .ref⟩
  case h_12 pos hn =>
    cases hn
    cases h
    refine PE.imp pe_dnewK fun τ H Q ⟨σ, S, F, Qd, Xd, rel, rs, hw, kv, kx⟩ => fun p hp => ?_
    have hw : ∀ p, S p = none → Qd (.ref p) (S.upd p (.dct [])) := hw
    exact kv _ _ _ _ (hw p (rel.free hp)) (.new hp) (rel.new hp ⟨[], upd_same, by rw [RK]⟩) .ref
  case h_13 ks vs pos _ hn =>
    cases hn
    cases n with
    | zero => simp [cD] at h
    | succ n =>
    unfold cD at h
    split at h
    case h_1 => contradiction
    case h_2 a b hn _ =>
      cases hn
      simp only [bind, Option.bind_eq_some_iff, pure, Option.some.injEq] at h
      obtain ⟨a', h1, b', h2, rfl⟩ := h
      refine PE.imp (pe_disp (pps_cons (hE' X W _ own g a a' h1) (hE' X W _ own g b b' h2) pps_nil) rfl rfl (by simp) (Nat.le_of_ble_eq_true rfl)) fun τ H Q q => le_disp1 (LE.imp q fun σ S Q X hw => ?_)
      have hw : wE Γ G a' σ S (fun x S1 => wE Γ G b' σ S1 (fun y S2 => 1 = 1 ∧ 1 ≤ 15 ∧ ([x].all fun k => (keyD k).isSome) = true ∧ ∀ p, S2 p = none → Q (.ref p) (S2.upd p (.dct (dmerge [] [(x, y)])))) X) X := hw
      simpa [dmerge, dput] using hw
    case h_3 => cases h
  case h_14 a lo hi p2 pos hn =>
    cases hn
    simp only [bind, Option.bind_eq_some_iff, pure, Option.some.injEq] at h
    obtain ⟨a', h1, lo', h2, hi', h3, rfl⟩ := h
    exact PE.imp (pe_slice sl_sound (hE X W _ own g a a' h1) (hO X W _ own g lo lo' h2) (hO X W _ own g hi hi' h3)) fun τ H Q q => le_slc q
  case h_15 a i pos _ hn =>
    cases hn
    simp only [bind, Option.bind_eq_some_iff, pure, Option.some.injEq] at h
    obtain ⟨a', h1, i', h2, rfl⟩ := h
    exact PE.imp (pe_ix (ix_sound g.room) (hE X W _ own g a a' h1) (hE X W _ own g i i' h2) (plain_ix (cE_plain h2))) fun τ H Q q => le_op q
  case h_16 f p es pos hn =>
    cases hn
    split at h
    case isFalse => cases h
    case isTrue hg =>
    have hgl := g.gl hg
    have hok := (glB_ok hg).2
    split at h
    case isTrue hf =>
      simp only [Option.map_eq_some_iff] at h
      obtain ⟨es', h1, rfl⟩ := h
      obtain ⟨fa, fd, ps, m1, m2, m3, m4⟩ := g.lk.fns f hf
      have ha := hA X W _ own g es es' h1
      cases es with
      | nil =>
        cases n with
        | zero => simp [cEs] at h1
        | succ n =>
          simp only [cEs, Option.some.injEq] at h1
          subst h1
          refine PE.imp (pe_callS0 (E := WE W) m4 g.room hgl m1 m2 m3 (fun σ => passM g.tk σ) (okN_1 hok).1) fun τ H Q ⟨σ, S, F, Qd, Xd, rel, rs, hw, kv, kx⟩ => ?_
          exact ⟨[], S, F, Qd, Xd, rel, .nil, hw, kv, kx⟩
      | cons e es =>
        have h1' := h1
        cases n with
        | zero => simp [cEs] at h1
        | succ n =>
          simp only [cEs, bind, Option.bind_eq_some_iff, pure, Option.some.injEq] at h1
          obtain ⟨e', h2, es'', h3, h4⟩ := h1
          exact PE.imp (pe_callS (E := WE W) m4 g.room hgl m1 m2 m3 (fun σ => passM g.tk σ) ha (okN_1 hok).1 (plain_star (cE_plain h2) es X.env) (cEs_star h3)) fun τ H Q q => la_call q
    case isFalse =>
    split at h
    case isTrue hfree =>
      have hmg := g.lk.free f hfree
      split at h
      case isTrue hisi =>
        subst hisi
        split at h
        case h_1 a t =>
          simp only [bind, Option.bind_eq_some_iff, pure, Option.some.injEq] at h
          obtain ⟨a', h1, t', h2, rfl⟩ := h
          obtain ⟨x, px, rfl, b1, b2, b3⟩ := tyOf_ok h2
          have ok2 := okN_1 (glB_ok b1).2
          have pb := pe_bltn (pos := px) (v := .ty (tyS t')) (g.gl b1) (g.lk.free x b2) b3 rfl ok2.2.2 ok2.1
          have s2 : starEach [PySem.Expr.Name x px] X.env = (false, eval (.Name x px) X.env) :: starEach [] X.env := rfl
          refine PE.imp (pe_callB call_isi hgl hmg boot_isi (pa_cons (hE X W _ own g a a' h1) (pa_cons pb pa_nil s2) (plain_star (cE_plain h1) _ X.env)) (okN_1 hok).2.2 (okN_1 hok).1 (plain_star (cE_plain h1) _ X.env) rfl) fun τ H Q q => le_isi q
        case h_2 => cases h
      case isFalse =>
      split at h
      case h_1 => cases h
      case h_2 b hb =>
      split at h
      case h_1 e tg it ifs scope p2 =>
        obtain ⟨e', tg', it', c', vs, rfl, hp, _⟩ := hC X W _ own g _ _ _ _ _ _ _ h
        have s2 : starEach [PySem.Expr.ListComp e [⟨tg, it, ifs, 0⟩] scope p2] X.env = (false, eval (.ListComp e [⟨tg, it, ifs, 0⟩] scope p2) X.env) :: starEach [] X.env := rfl
        exact PE.imp (pe_blt hb (bll_sound g.calm b) hgl hmg (pa_cons (hp p2) pa_nil s2) hok s2 rfl) fun τ H Q q => le_bll (w := wL Γ G e' tg' it' c' vs) q
      case h_2 e es _ =>
        simp only [Option.map_eq_some_iff] at h
        obtain ⟨es', h1, rfl⟩ := h
        have ha := hA X W _ own g _ _ h1
        cases n with
        | zero => simp [cEs] at h1
        | succ n =>
          simp only [cEs, bind, Option.bind_eq_some_iff, pure, Option.some.injEq] at h1
          obtain ⟨e', h2, es'', h3, h4⟩ := h1
          exact PE.imp (pe_blt hb (blt_sound g.calm g.room b) hgl hmg ha hok (plain_star (cE_plain h2) es X.env) (cEs_star h3)) fun τ H Q q => la_args q
      case h_3 => cases h
    case isFalse =>
    split at h
    case isTrue hgcd =>
      split at h
      case h_1 m a b hm =>
        have hkind : ∃ id, blV m = .builtin id := by
          unfold mfOf at hm
          rcases ite_some hm with ⟨_, rfl⟩ | hm
          · exact ⟨_, rfl⟩
          rcases ite_some hm with ⟨_, rfl⟩ | hm
          · exact ⟨_, rfl⟩
          cases hm
        obtain ⟨id, hid⟩ := hkind
        have hmf := g.lk.mfn _ _ hgcd hm
        have hbs := blt_sound g.calm g.room m
        rw [hid] at hmf hbs
        simp only [bind, Option.bind_eq_some_iff, pure, Option.some.injEq] at h
        obtain ⟨a', h1, b', h2, rfl⟩ := h
        have pb := plain_star (cE_plain h2) [] X.env
        have pl := plain_star (cE_plain h1) [b] X.env
        refine PE.imp (pe_callBfun hbs hgl hmf (PA.imp (pa_cons (hE X W _ own g a a' h1) (pa_cons (hE X W _ own g b b' h2) pa_nil pb) pl) (t' := LA X.K W (wEs Γ G (.cons a' (.cons b' .nil)))) fun τ H Q q => ?_) (okN_1 hok).1 pl (by rw [pb]; rfl)) fun τ H Q q => la_args q
        exact LE.monoQ (la_cons (w := wEs Γ G (.cons b' .nil)) q) fun x H1 q1 => LE.monoQ (la_cons (w := wEs Γ G .nil) q1) fun y H2 q2 => la_nil q2
      case h_2 => cases h
    case isFalse => cases h
  case h_17 o m apos es pos hn =>
    cases hn
    simp only [bind, Option.bind_eq_some_iff, pure, Option.some.injEq] at h
    obtain ⟨_, h0, m', h1, _, h2, _, h3, o', h4, es', h5, rfl⟩ := h
    rw [gd_some] at h0 h2 h3
    rw [decide_eq_true_eq] at h3
    have ha := hA X W _ own g es es' h5
    have ho := hE X W _ own g o o' h4
    cases es with
    | nil =>
      cases n with
      | zero => simp [cEs] at h5
      | succ n =>
        simp only [cEs, Option.some.injEq] at h5
        subst h5
        exact PE.imp (pe_mth0 g h1 ho (base_ok h2) h0) fun τ H Q q => le_mth0 q
    | cons e es =>
      have h5' := h5
      cases n with
      | zero => simp [cEs] at h5
      | succ n =>
        simp only [cEs, bind, Option.bind_eq_some_iff, pure, Option.some.injEq] at h5
        obtain ⟨e', h6, es'', h7, h8⟩ := h5
        exact PE.imp (pe_mth g h1 ho ha (base_ok h2) (cEs_few h5' h3) h0 (plain_star (cE_plain h6) es X.env) (cEs_star h7)) fun τ H Q q => le_mth q
  case h_18 e tg it ifs scope p hn =>
    cases hn
    obtain ⟨e', tg', it', c', vs, rfl, hp, _⟩ := hC X W _ own g _ _ _ _ _ _ _ h
    exact PE.imp (hp p) fun τ H Q q => le_comp (w := wL Γ G e' tg' it' c' vs) q
  case h_19 => cases h
end Mi
namespace Mi
open PySem PySem.Spec PyProof.Rows L2
variable {T : Tb} {N : List Str} {Γ : Str → FS} {G : Str → Option D} {k : Nat}
def isTru : E → Bool
  | .lit _ => true | .var _ => true | .glob _ => true | .ix _ _ => true | .call _ _ => true | .blt _ _ => true | .mth _ _ _ => true | .isi _ _ => true | .comp (some _) _ _ _ _ _ => true
  | _ => false
theorem wT_tru : ∀ {c : E} {σ : En} {S : Sto} {Q : Bool → Sto → Prop} {X : KX}, isTru c = true → wT Γ G c σ S Q X → wE Γ G c σ S (fun d S' => truR d S' fun b => Q b S') X := by
  intro c σ S Q X h w
  cases c <;> first | (cases h; done) | skip
  case lit d => exact w
  case var i => exact w
  case glob x => exact w
  case ix a i => exact w
  case call f es => exact w
  case blt b es => exact w
  case mth m o es => exact w
  case comp b e tg it cc vs =>
    cases b with
    | none => cases h
    | some b => exact w
  case isi a ts =>
    have w : wE Γ G a σ S (fun x S1 => (match ts.mapM (fun t => isT t x S1) with | some bs => Q (bs.any id) S1 | none => False)) X := w
    exact w
theorem pt_tru {X : Cx} {W : WX} {e : PySem.Expr} {c : E} (he : PE X e (LE X.K W (wE Γ G c))) (ht : ∀ whole, isTrue e X.env whole = (do let v ← whole; standAt e.pos; holding [v] (truthy v))) (hc : isTru c = true ∨ ∀ σ S Q X, ¬ wT Γ G c σ S Q X) : PT X e (LT X.K W (wT Γ G c)) := by
  rcases hc with hc | hc
  · exact PT.imp (pt_truth he ht) fun τ H Q q => lt_tru (LT.imp q fun σ S Q X w => wT_tru hc w)
  · exact pt_false hc
theorem stepT {n : Nat} (hE1 : SE T N Γ G k (n + 1)) (hE : SE T N Γ G k n) (hT : ST T N Γ G k n) (hB : SB T N Γ G k n) : ST T N Γ G k (n + 1) := by
  intro X W sc own g e c h
  have he := hE1 X W sc own g e c h
  unfold cE at h
  split at h
  case h_1 => contradiction
  case h_2 n' c0 kk pos hn =>
    simp only [Option.map_eq_some_iff] at h
    obtain ⟨d, h1, rfl⟩ := h
    exact pt_tru he (fun _ => rfl) (.inl rfl)
  case h_3 x pos hn =>
    refine pt_tru he (fun _ => rfl) (.inl ?_)
    split at h
    case h_1 => cases h; rfl
    case h_2 => split at h; (cases h; rfl); cases h
  case h_4 a o b pos hn =>
    simp only [bind, Option.bind_eq_some_iff, pure, Option.some.injEq] at h
    obtain ⟨o', h1, a', h2, b', h3, rfl⟩ := h
    exact pt_false fun σ S Q X w => w
  case h_5 a pos hn =>
    simp only [Option.map_eq_some_iff] at h
    obtain ⟨a', h1, rfl⟩ := h
    exact pt_false fun σ S Q X w => w
  case h_6 a pos hn =>
    cases hn
    simp only [Option.map_eq_some_iff] at h
    obtain ⟨a', h1, rfl⟩ := h
    exact PT.imp (pt_not (hT X W _ own g a a' h1)) fun τ H Q ⟨σ, S, F, Qd, Xd, rel, rs, hw, kv, kx⟩ => ⟨σ, S, F, fun b S1 => Qd (!b) S1, Xd, rel, rs, hw, fun b S' H' q e r => kv _ _ _ q e r, kx⟩
  case h_7 op es pos hn =>
    cases hn
    exact (hB X W _ own g op es c pos h).2.pt
  case h_8 a o b pos hn =>
    cases hn
    simp only [bind, Option.bind_eq_some_iff, pure, Option.some.injEq] at h
    obtain ⟨_, h0, a', h1, b', h2, rfl⟩ := h
    rw [gd_some, Bool.not_eq_true'] at h0
    exact PT.imp (pt_cmpR (cm_sound g.room o) (hE X W _ own g a a' h1) (hE X W _ own g b b' h2) h0) fun τ H Q q => lt_cmp q
  case h_9 t a b pos hn =>
    simp only [bind, Option.bind_eq_some_iff, pure, Option.some.injEq] at h
    obtain ⟨t', h1, a', h2, b', h3, rfl⟩ := h
    exact pt_false fun σ S Q X w => w
  case h_10 es x1 pos hn =>
    simp only [Option.map_eq_some_iff] at h
    obtain ⟨es', h1, rfl⟩ := h
    exact pt_false fun σ S Q X w => w
  case h_11 es pos hn =>
    simp only [Option.map_eq_some_iff] at h
    obtain ⟨es', h1, rfl⟩ := h
    exact pt_false fun σ S Q X w => w
  case h_12 pos hn =>
    cases h
    exact pt_false fun σ S Q X w => w
  case h_13 ks vs pos _ hn =>
    cases hn
    cases n with
    | zero => simp [cD] at h
    | succ n =>
    unfold cD at h
    split at h
    case h_1 => contradiction
    case h_2 a b hn _ =>
      simp only [bind, Option.bind_eq_some_iff, pure, Option.some.injEq] at h
      obtain ⟨a', h1, b', h2, rfl⟩ := h
      exact pt_false fun σ S Q X w => w
    case h_3 => cases h
  case h_14 a lo hi p2 pos hn =>
    simp only [bind, Option.bind_eq_some_iff, pure, Option.some.injEq] at h
    obtain ⟨a', h1, lo', h2, hi', h3, rfl⟩ := h
    exact pt_false fun σ S Q X w => w
  case h_15 a i pos _ hn =>
    simp only [bind, Option.bind_eq_some_iff, pure, Option.some.injEq] at h
    obtain ⟨a', h1, i', h2, rfl⟩ := h
    exact pt_tru he (fun _ => rfl) (.inl rfl)
  case h_16 f p es pos hn =>
    cases hn
    refine pt_tru he (fun _ => rfl) ?_
    split at h
    case isFalse => cases h
    case isTrue hg =>
    split at h
    case isTrue hf =>
      simp only [Option.map_eq_some_iff] at h
      obtain ⟨es', h1, rfl⟩ := h
      exact .inl rfl
    case isFalse =>
    split at h
    case isTrue hfree =>
      split at h
      case isTrue hisi =>
        split at h
        case h_1 a t =>
          simp only [bind, Option.bind_eq_some_iff, pure, Option.some.injEq] at h
          obtain ⟨a', h1, t', h2, rfl⟩ := h
          exact .inl rfl
        case h_2 => cases h
      case isFalse =>
      split at h
      case h_1 => cases h
      case h_2 b hb =>
      split at h
      case h_1 e tg it ifs scope p2 =>
        cases n with
        | zero => simp [cC] at h
        | succ n =>
          simp only [cC, bind, Option.bind_eq_some_iff, pure, Option.some.injEq] at h
          obtain ⟨_, h1, it', h2, _, h7, tg', h3, _, h4, e', h5, c', h6, rfl⟩ := h
          exact .inl rfl
      case h_2 e es _ =>
        simp only [Option.map_eq_some_iff] at h
        obtain ⟨es', h1, rfl⟩ := h
        exact .inl rfl
      case h_3 => cases h
    case isFalse =>
    split at h
    case isTrue hgcd =>
      split at h
      case h_1 m a b hm =>
        simp only [bind, Option.bind_eq_some_iff, pure, Option.some.injEq] at h
        obtain ⟨a', h1, b', h2, rfl⟩ := h
        exact .inl rfl
      case h_2 => cases h
    case isFalse => cases h
  case h_17 o m apos es pos hn =>
    refine pt_tru he (fun _ => rfl) ?_
    simp only [bind, Option.bind_eq_some_iff, pure, Option.some.injEq] at h
    obtain ⟨_, h0, m', h1, _, h2, _, h3, o', h4, es', h5, rfl⟩ := h
    exact .inl rfl
  case h_18 e tg it ifs scope p hn =>
    cases hn
    cases n with
    | zero => simp [cC] at h
    | succ n =>
      simp only [cC, bind, Option.bind_eq_some_iff, pure, Option.some.injEq] at h
      obtain ⟨_, h1, it', h2, _, h7, tg', h3, _, h4, e', h5, c', h6, rfl⟩ := h
      exact pt_false fun σ S Q X w => w
  case h_19 => cases h
structure All (T : Tb) (N : List Str) (Γ : Str → FS) (G : Str → Option D) (k n : Nat) : Prop where
  e : SE T N Γ G k n
  t : ST T N Γ G k n
  b : SB T N Γ G k n
  a : SA T N Γ G k n
  o : SO T N Γ G k n
  i : SI T N Γ G k n
  c : SC T N Γ G k n
theorem all0 : All T N Γ G k 0 where
  e := fun X W sc own g e c h => by simp [cE] at h
  t := fun X W sc own g e c h => by simp [cE] at h
  b := fun X W sc own g op es c pos h => by simp [cB] at h
  a := fun X W sc own g es cs h => by simp [cEs] at h
  o := fun X W sc own g e c h => by simp [cO] at h
  i := fun X W sc own g tg e c h => by simp [cI] at h
  c := fun X W sc own g b e tg it ifs scope c h => by simp [cC] at h
theorem all2 : ∀ n, All T N Γ G k n ∧ All T N Γ G k (n - 1)
  | 0 => ⟨all0, all0⟩
  | n + 1 => by
    obtain ⟨h, h'⟩ := all2 n
    have he := stepE h'.e h.e h.t h.b h.a h.o h.c
    exact ⟨⟨he, stepT he h.e h.t h.b, stepB h.e h.t h.b, stepA h.e h.a, stepO h.e, stepI h.e, stepC h.e h.t h.i⟩, h⟩
theorem all (n : Nat) : All T N Γ G k n := (all2 n).1
end Mi
namespace Mi
open PySem PySem.Spec PyProof.Rows L2
variable {T : Tb} {N : List Str} {Γ : Str → FS} {G : Str → Option D} {k : Nat}
theorem Lk.kxs {K : PySem.W.Frag} {W : WX} {F H : Hp} {N : De} {D : Ends} {σ : En} {τ : L2.St} (lk : Lk K W F H N D) (rs : RS K H σ τ) : KXs K F H (fun x S1 => N.xr x σ S1) (WE W τ) :=
  fun x S' c dx H' q e r rx => lk.xr x σ S' τ c dx H' q e r (rs.ext e) rx
theorem Lk.next {K : PySem.W.Frag} {W : WX} {F H : Hp} {N : De} {D : Ends} {nx : En → Sto → Prop} {nx' : L2.St → Hp → Prop} (lk : Lk K W F H N D) (h : ∀ σ S τ H', nx σ S → Ext H H' → Rel K S F H' → RS K H' σ τ → nx' τ H') :
    Lk K W F H { N with nx := nx } { D with nx := nx' } := ⟨h, lk.rt, lk.bk, lk.ct, lk.xr⟩
theorem Lk.loop {K : PySem.W.Frag} {W : WX} {F H : Hp} {N : De} {D : Ends} {nx : En → Sto → Prop} {nx' : L2.St → Hp → Prop} (lk : Lk K W F H N D) (h : ∀ σ S τ H', nx σ S → Ext H H' → Rel K S F H' → RS K H' σ τ → nx' τ H') :
    Lk K W F H { N with nx := nx, ct := nx, bk := N.nx } { D with nx := nx', ct := nx', bk := D.nx } := ⟨h, lk.rt, lk.nx, h, lk.xr⟩
theorem while_conv {K : PySem.W.Frag} {W : WX} {t : En → Sto → (Bool → Sto → Prop) → KX → Prop} {b : De → En → Sto → Prop} {D : Ends} {τ : L2.St} {H : Hp}
    (h : LS K W (fun N σ S => ∃ n, whlL (fun σ' S' Q => t σ' S' Q fun x S1 => N.xr x σ' S1) b n N σ S) D τ H) : tWhile (LT K W t) (LS K W b) D τ H := by
  obtain ⟨σ, S, F, N, rel, rs, ⟨n, hw⟩, lk⟩ := h
  refine ⟨fun m τ' H' => ∃ σ' S', Ext H H' ∧ Rel K S' F H' ∧ RS K H' σ' τ' ∧ whlL (fun σ' S' Q => t σ' S' Q fun x S1 => N.xr x σ' S1) b m N σ' S', ⟨n, σ, S, .refl, rel, rs, hw⟩, ?_⟩
  rintro m τ1 H1 ⟨σ1, S1, e1, rel1, rs1, w1⟩
  cases m with
  | zero => exact (show False from w1).elim
  | succ m =>
    have w1 : t σ1 S1 (fun c S' => if c = true then b { N with nx := whlL (fun σ' S' Q => t σ' S' Q fun x S1 => N.xr x σ' S1) b m N, ct := whlL (fun σ' S' Q => t σ' S' Q fun x S1 => N.xr x σ' S1) b m N, bk := N.nx } σ1 S' else N.nx σ1 S') (fun x S2 => N.xr x σ1 S2) := w1
    refine ⟨σ1, S1, F, _, _, rel1, rs1, w1, fun c S2 H2 q2 e2 rel2 => ?_, (lk.ext e1).kxs rs1⟩
    cases c with
    | false => exact lk.nx _ _ _ _ q2 (e1.trans e2) rel2 (rs1.ext e2)
    | true =>
      refine ⟨fun τ' H' => ∃ m', m' < m + 1 ∧ ∃ σ' S', Ext H H' ∧ Rel K S' F H' ∧ RS K H' σ' τ' ∧ whlL (fun σ' S' Q => t σ' S' Q fun x S1 => N.xr x σ' S1) b m' N σ' S', fun τ' H' z => z, ?_⟩
      exact ⟨σ1, S2, F, _, rel2, rs1.ext e2, q2, (lk.ext (e1.trans e2)).loop fun σ' S' τ' H' q' e' r' rs' => ⟨m, Nat.lt_succ_self m, σ', S', (e1.trans e2).trans e', r', rs', q'⟩⟩
theorem for_conv {K : PySem.W.Frag} {W : WX} {wk : Bool} {wi : En → Sto → KI → KX → Prop} {tg : Tg} {b : De → En → Sto → Prop} {D : Ends} {τ : L2.St} {H : Hp}
    (h : LS K W (fun N σ S => wi σ S (fun l chk S1 => forL tg b chk l N σ S1) fun x S1 => N.xr x σ S1) D τ H) : tFor (LI K wk W wi) (LG K wk (tgSlots tg) (wG tg)) (LS K W b) D τ H := by
  obtain ⟨σ, S, F, N, rel, rs, hw, lk⟩ := h
  refine ⟨σ, S, F, _, _, rel, rs, hw, fun l chk S1 J H1 q e1 rel1 wk' => ?_, lk.kxs rs⟩
  refine ⟨fun i m τ' H' => i ≤ l.length ∧ m = l.length - i ∧ ∃ σ' S', Ext H1 H' ∧ Rel K S' F H' ∧ RS K H' σ' τ' ∧ forL tg b chk (l.drop i) N σ' S', ⟨l.length - 0, Nat.zero_le _, rfl, σ, S1, .refl, rel1, rs.ext e1, q⟩, ?_⟩
  rintro i m τ2 H2 ⟨hi, rfl, σ2, S2, e2, rel2, rs2, w2⟩
  by_cases hl : i < l.length
  · refine .inr ?_
    have hd : l[i]? = some l[i] := by simp [hl]
    rw [List.drop_eq_getElem_cons hl] at w2
    obtain ⟨hchk, w2⟩ : chk S2 ∧ wG tg l[i] σ2 fun σ' => b { N with nx := forL tg b chk (l.drop (i + 1)) N, ct := forL tg b chk (l.drop (i + 1)) N, bk := N.nx } σ' S2 := w2
    obtain ⟨go, yl⟩ := wk'.go F i _ S2 H2 hd rel2 hchk e2
    refine ⟨go, fun τ' H' => ∃ m', m' < l.length - i ∧ (i + 1 ≤ l.length ∧ m' = l.length - (i + 1) ∧ ∃ σ' S', Ext H1 H' ∧ Rel K S' F H' ∧ RS K H' σ' τ' ∧ forL tg b chk (l.drop (i + 1)) N σ' S'), fun τ' H' z => z, fun x H3 y => ?_⟩
    obtain ⟨x3, rel3, rx⟩ := yl x H3 y
    refine ⟨l[i], σ2, _, rx, rs2.ext x3, w2, fun σ4 τ4 q4 rs4 off => ?_⟩
    exact ⟨σ4, S2, F, _, rel3, rs4, q4, (lk.ext ((e1.trans e2).trans x3)).loop fun σ' S' τ' H' q' e' r' rs' => ⟨l.length - (i + 1), by omega, hl, rfl, σ', S', (e2.trans x3).trans e', r', rs', q'⟩⟩
  · have e : i = l.length := by omega
    subst e
    rw [List.drop_length] at w2
    obtain ⟨hchk, w2⟩ : chk S2 ∧ N.nx σ2 S2 := w2
    exact .inl ⟨wk'.stop F S2 H2 rel2 hchk e2, lk.nx _ _ _ _ w2 (e1.trans e2) rel2 rs2⟩
def SS (T : Tb) (N : List Str) (Γ : Str → FS) (G : Str → Option D) (k n : Nat) : Prop := ∀ (X : Cx) (W : WX) (sc : Scope), Gd T N Γ G X W sc (fun _ => true) k → Stk X → ∀ (s : PySem.Stmt) (c : S), cS T N n sc s = some c → (PoA X ∨ nrS c = true) → PS X s (LS X.K W (wS Γ G c))
def SSs (T : Tb) (N : List Str) (Γ : Str → FS) (G : Str → Option D) (k n : Nat) : Prop := ∀ (X : Cx) (W : WX) (sc : Scope), Gd T N Γ G X W sc (fun _ => true) k → Stk X → ∀ (s : List PySem.Stmt) (c : Ss), cSs T N n sc s = some c → (PoA X ∨ nrSs c = true) → PSs X s (LS X.K W (wSs Γ G c))
theorem stepSs {n : Nat} (hS : SS T N Γ G k n) (hSs : SSs T N Γ G k n) : SSs T N Γ G k (n + 1) := by
  intro X W sc g st ss c h po
  cases ss with
  | nil =>
    simp only [cSs, Option.some.injEq] at h
    subst h
    exact PSs.imp pss_nil fun D τ H ⟨σ, S, F, N, rel, rs, hw, lk⟩ => lk.nx _ _ _ _ hw .refl rel rs
  | cons s ss =>
    simp only [cSs, bind, Option.bind_eq_some_iff, pure, Option.some.injEq] at h
    obtain ⟨s', h1, ss', h2, rfl⟩ := h
    have po1 : PoA X ∨ nrS s' = true := po.imp id fun z => (Bool.and_eq_true _ _ ▸ (show (nrS s' && nrSs ss') = true from z)).1
    have po2 : PoA X ∨ nrSs ss' = true := po.imp id fun z => (Bool.and_eq_true _ _ ▸ (show (nrS s' && nrSs ss') = true from z)).2
    refine PSs.imp (pss_cons (hS X W sc g st s s' h1 po1) (hSs X W sc g st ss ss' h2 po2)) fun D τ H ⟨σ, S, F, N, rel, rs, hw, lk⟩ => ?_
    exact ⟨σ, S, F, _, rel, rs, hw, lk.next fun σ' S' τ' H' q e r rs' => ⟨σ', S', F, N, r, rs', q, lk.ext e⟩⟩
def noLC : PySem.Expr → Bool
  | .ListComp .. => false
  | _ => true
def noCp : PySem.Expr → Bool
  | .ListComp .. => false | .SetComp .. => false | .DictComp .. => false
  | _ => true
theorem sw_false {e : PySem.Expr} {t : Option PySem.Expr} {l : Nat} {env : Env} (h : plainX e = true) (hl : noCp e = true) : swapsWith e t l env = pure false := by
  cases e <;> first | rfl | cases hl
theorem cE_nocomp {sc : Scope} {n : Nat} {e : PySem.Expr} {c : E} (h : cE T N n sc e = some c) (hl : noLC e = true) : noCp e = true := by
  cases n with
  | zero => simp [cE] at h
  | succ n => cases e <;> first | rfl | (cases hl; done) | simp [cE] at h
theorem sw_none {ts : List PySem.Expr} {kk : Nat} {p : Pos} {e : PySem.Expr} {env : Env} (h : (match e with | .Tuple .. => false | .ListComp .. => false | _ => true) = true) : swappedStores [.Tuple ts kk p] e env = pure none := by
  cases e <;> first | rfl | cases h
theorem sw_cell {e tg it : PySem.Expr} {ifs : List PySem.Expr} {a : Nat} {scope : Scope} {p py : Pos} {x : Str} {l : Nat} {env : Env} (h : env.scope.names.lookup x = some .cell) : swapsWith (.ListComp e [⟨tg, it, ifs, a⟩] scope p) (some (.Name x py)) l env = pure false := by
  have hk : env.kindOf x = some .cell := h
  unfold swapsWith
  simp only [hk, Expr.pos]
  cases env.blockKind == .function <;> rfl
end Mi
namespace Mi
open PySem PySem.Spec PyProof.Rows L2
variable {T : Tb} {N : List Str} {Γ : Str → FS} {G : Str → Option D} {k : Nat}
theorem cH_plain {sc : Scope} {nm : Str} {n : Nat} {e : PySem.Expr} {h : HE} (q : cH T sc nm n e = some h) : plainX e = true := by
  cases n with
  | zero => simp [cH] at q
  | succ n => cases e <;> first | rfl | simp [cH] at q
def rIsX (K : PySem.W.Frag) (a : Addr) (cls : Value) (d : Option Addr) : List V → Hp → VK → Prop := fun xs H Q => ∃ (D : Addr) (c : V) (cv : Value) (b : Bool), cls = .ref D ∧ ExcC K D ∧ xs = [.ref a, c] ∧ (∀ u, RelV c u → u = cv) ∧ PySem.W.kitOne K (.ref D) cv = some b ∧
  (match d with | none => True | some dd => ∃ fs, H dd = some (.xd fs)) ∧ Q (.bl b) H
theorem call_isX {X : Cx} {a : Addr} {cls : Value} {d : Option Addr} {oe : Obj} {pn : List (Addr × Obj)} (hz : Zc cls d oe) (hf : ∃ vs, oe.data = .fields vs) : CallR (X.suite a ((a, oe) :: pn)) (.builtin "isinstance") (rIsX X.K a cls d) := by
  intro pins s σ H xs us Q I r h
  obtain ⟨D, c, cv, b, ec, C, rfl, hcv, e, hd, q⟩ := h
  subst ec
  cases r with
  | cons rx rr =>
    cases rr with
    | cons rt rr =>
      cases rr
      cases rx
      have ec := hcv _ rt
      subst ec
      obtain ⟨hget, _⟩ := I.pin (a, oe) (List.mem_append.mpr (.inl List.mem_cons_self))
      obtain ⟨vs, hv⟩ := hf
      have J : ∃ od, PySem.W.InstAt s.heap a oe D od := by
        obtain ⟨oc, od, oda, osl⟩ := oe
        obtain ⟨h1, h2⟩ := hz
        dsimp only at h1 h2 hv
        subst h1 h2 hv
        cases od with
        | none => exact ⟨none, hget, rfl, rfl, trivial⟩
        | some dd =>
          obtain ⟨fs, ed⟩ := hd
          have hx : ObjOk X.prog X.w H s.heap dd (.xd fs) := I.hok dd _ ed
          obtain ⟨mA, hns, hr⟩ := hx
          obtain ⟨od, ho, hl⟩ := lookIn_ns hns
          exact ⟨some od, hget, rfl, rfl, ho⟩
      obtain ⟨od, J⟩ := J
      exact PySem.W.kia_one (PySem.W.kitx_exc (by obtain ⟨cd, hc, _⟩ := PySem.W.any_some C.hd; rw [hc]; rfl) C.hg C.hk C.hs C.ha C.hn C.ht C.hm) I.kIn J e (fun z => nomatch z) fun tk => ⟨.bl b, H, I.kept (t' := tk) fun _ _ z => z, rfl, q⟩
def Up (H H' : Hp) : Prop := ∀ a o, H a = some o → H' a = some o
theorem Up.refl {H : Hp} : Up H H := fun _ _ h => h
theorem Up.trans {H H1 H2 : Hp} (a : Up H H1) (b : Up H1 H2) : Up H H2 := fun c o h => b c o (a c o h)
theorem Up.new {H : Hp} {p : Addr} {o : HO} (h : H p = none) : Up H (L2.upd H p o) := fun a u e => by rw [upd_ne (fun z => by rw [z, h] at e; cases e)]; exact e
theorem Up.ext {H H' : Hp} (u : Up H H') : Ext H H' := ⟨fun c xs h => u _ _ h, fun c o v h => u _ _ h⟩
theorem RX.up {K : PySem.W.Frag} {H H' : Hp} {x : Exc} {c : Value} {dx : Option Addr} (h : RX K H x c dx) (u : Up H H') : RX K H' x c dx := by
  obtain ⟨h1, h2⟩ := h
  refine ⟨h1, ?_⟩
  cases dx with
  | none => exact h2
  | some d =>
    obtain ⟨ws, e, r⟩ := h2
    exact ⟨ws, u _ _ e, RF.ext u.ext r⟩
theorem RF.look {K : PySem.W.Frag} {H : Hp} {n : Str} {d : D} : ∀ {l : List (Str × D)} {ws : List (Str × V)}, RF K H l ws → l.lookup n = some d → ∃ v, ws.lookup n = some v ∧ RD K H d v
  | [], ws, _, e => by cases e
  | (m, d') :: l, ws, h, e => by
    rw [RF] at h
    obtain ⟨v, r, rfl, h1, h2⟩ := h
    rw [List.lookup_cons] at e ⊢
    cases c : n == m with
    | true =>
      rw [c] at e
      cases e
      exact ⟨v, rfl, h1⟩
    | false =>
      rw [c] at e
      exact RF.look h2 e
def LH (K : PySem.W.Frag) (i : Nat) (a : Addr) (cls : Value) (d : Option Addr) (h : HE) : TE := fun τ H Q => ∃ x S F dd, RX K H x cls d ∧ SubC K (gAd K x.cls) ∧ τ[i]? = some (some (.ref a)) ∧ Rel K S F H ∧ hE h x = some dd ∧ ∀ v H', Up H H' → Rel K S F H' → RD K H' dd v → Q v H'
theorem pe_name {X : Cx} {x : Str} {v : V} {u : Value} {pos : Pos} (hg : Gl X x) (hm : X.mg x = some u ∨ (X.mg x = none ∧ bootBuiltins x = some u)) (r : RelV v u) (ok : okN x = true) : PE X (.Name x pos) (tC v) := by
  rcases hm with hm | ⟨hm, hb⟩
  · exact pe_glob hg hm r (okN_1 ok).1
  · exact pe_bltn hg hm hb r (okN_1 ok).2.2 (okN_1 ok).1
theorem sub_mem {c x : Str} {b : Bool} (h : (subOf T c).lookup x = some b) : (x, c, b) ∈ T.sub := by
  unfold subOf at h
  have : ∀ l : List (Str × Str × Bool), (l.filterMap fun y => if y.2.1 = c then some (y.1, y.2.2) else none).lookup x = some b → (x, c, b) ∈ l := by
    intro l
    induction l with
    | nil => intro h; cases h
    | cons y l ih =>
      intro h
      rw [List.filterMap_cons] at h
      by_cases hy : y.2.1 = c
      · rw [if_pos hy] at h
        simp only [List.lookup_cons] at h
        split at h
        · rename_i e
          have e' : x = y.1 := eq_of_beq e
          have e2 := Option.some.inj h
          obtain ⟨y1, y2, y3⟩ := y
          simp only at hy e' e2
          subst hy e' e2
          exact List.mem_cons_self
        · exact List.mem_cons_of_mem _ (ih h)
      · rw [if_neg hy] at h
        exact List.mem_cons_of_mem _ (ih h)
  exact this _ h
theorem cH_sound {X : Cx} {W : WX} {sc : Scope} {own : Str → Bool} (g : Gd T N Γ G X W sc own k) {a : Addr} {cls : Value} {d : Option Addr} {oe : Obj} {pn : List (Addr × Obj)} (hz : Zc cls d oe) (hf : ∃ vs, oe.data = .fields vs) {nm : Str} {i : Nat} (hi : N[i]? = some nm) (hl : sc.names.lookup nm = some .local) (ok : okN nm = true) :
    ∀ (n : Nat) (e : PySem.Expr) (h : HE), cH T sc nm n e = some h → PE (X.suite a ((a, oe) :: pn)) e (LH X.K i a cls d h) := by
  have pv : ∀ pos, PE (X.suite a ((a, oe) :: pn)) (.Name nm pos) (tVar i) := fun pos => pe_var (by rw [show (X.suite a ((a, oe) :: pn)).N = X.N from rfl, g.N_eq]; exact hi) (.inl (by rw [show (X.suite a ((a, oe) :: pn)).env = X.env from rfl, g.sc_eq]; exact hl)) (okN_1 ok).1 (okN_1 ok).2.1
  have andP : ∀ {e1 e2 : PySem.Expr} {r : List PySem.Expr} {pos : Pos} {h1 h2 : HE}, PE (X.suite a ((a, oe) :: pn)) e1 (LH X.K i a cls d h1) → PE (X.suite a ((a, oe) :: pn)) (.BoolOp .And (e2 :: r) pos) (LH X.K i a cls d h2) → PE (X.suite a ((a, oe) :: pn)) (.BoolOp .And (e1 :: e2 :: r) pos) (LH X.K i a cls d (.and h1 h2)) := by
    intro e1 e2 r pos h1 h2 p1 p2
    refine PE.imp (pe_and p1 p2) fun τ H Q ⟨x, S, F, dd, rx, sx, ti, rel, hE1, kv⟩ => ?_
    simp only [hE] at hE1
    split at hE1
    case h_1 c hc =>
      refine ⟨x, S, F, _, rx, sx, ti, rel, hc, fun v H1 e1 rel1 rd1 => ⟨c, by rw [rd1.bli], ?_⟩⟩
      cases c with
      | true =>
        rw [if_pos rfl] at hE1 ⊢
        exact ⟨x, S, F, dd, RX.up rx e1, sx, ti, rel1, hE1, fun v H2 e2 => kv v H2 (e1.trans e2)⟩
      | false =>
        rw [if_neg Bool.false_ne_true] at hE1 ⊢
        cases hE1
        exact kv _ _ e1 rel1 .bl
    case h_2 => cases hE1
  intro n
  induction n with
  | zero => intro e h q; simp [cH] at q
  | succ n ih =>
    intro e h q
    unfold cH at q
    split at q
    case h_1 => contradiction
    case h_2 e1 e2 pos hn =>
      cases hn
      simp only [bind, Option.bind_eq_some_iff, pure, Option.some.injEq] at q
      obtain ⟨a', h1, b', h2, rfl⟩ := q
      exact andP (ih _ _ h1) (pe_one (ih _ _ h2))
    case h_3 e1 e2 e3 pos hn =>
      cases hn
      simp only [bind, Option.bind_eq_some_iff, pure, Option.some.injEq] at q
      obtain ⟨a', h1, b', h2, rfl⟩ := q
      exact andP (ih _ _ h1) (ih _ _ h2)
    case h_4 e1 e2 e3 e4 pos hn =>
      cases hn
      simp only [bind, Option.bind_eq_some_iff, pure, Option.some.injEq] at q
      obtain ⟨a', h1, b', h2, rfl⟩ := q
      exact andP (ih _ _ h1) (ih _ _ h2)
    case h_5 e1 pos hn =>
      cases hn
      simp only [Option.map_eq_some_iff] at q
      obtain ⟨a', h1, rfl⟩ := q
      refine PE.imp (pe_not (ih _ _ h1)) fun τ H Q ⟨x, S, F, dd, rx, sx, ti, rel, hE1, kv⟩ => ?_
      simp only [hE] at hE1
      split at hE1
      case h_1 c hc =>
        cases hE1
        exact ⟨x, S, F, _, rx, sx, ti, rel, hc, fun v H1 e1 rel1 rd1 => ⟨c, by rw [rd1.bli], kv _ _ e1 rel1 .bl⟩⟩
      case h_2 => cases hE1
    case h_6 e1 p1 w p2 hn =>
      cases hn
      split at q
      case isFalse => cases q
      case isTrue hh =>
        cases q
        simp only [Bool.and_eq_true, decide_eq_true_eq] at hh
        obtain ⟨h1, h2⟩ := hh
        subst h1 h2
        by_cases hC : ∃ C, cls = .ref C ∧ SubC X.K C
        · obtain ⟨C, rfl, sC⟩ := hC
          refine PE.imp (pe_xf sC.xf sC.hno hz hf (pv _)) fun τ H Q ⟨x, S, F, dd, rx, sx, ti, rel, hE1, kv⟩ => ?_
          simp only [hE] at hE1
          obtain ⟨rx1, rx2⟩ := rx
          cases d with
          | none =>
            have rx2 : x.fs = [] := rx2
            rw [rx2] at hE1
            cases hE1
          | some d' =>
            obtain ⟨ws, e, rf⟩ := rx2
            obtain ⟨v, h1, h2⟩ := RF.look rf hE1
            exact ⟨.ref a, ti, rfl, rfl, d', ws, v, rfl, e, h1, kv _ _ .refl rel h2⟩
        · refine ⟨fun pins s σ H Q I ⟨x, S, F, dd, rx, sx, _⟩ => absurd ⟨_, rx.1, sx⟩ hC⟩
    case h_7 f p1 e1 p2 c p3 pos hn =>
      cases hn
      split at q
      case isFalse => cases q
      case isTrue hh =>
        cases q
        simp only [Bool.and_eq_true, decide_eq_true_eq] at hh
        obtain ⟨⟨⟨⟨⟨h1, h2⟩, h3⟩, h4⟩, h5⟩, h6⟩ := hh
        subst h3 h4
        rw [List.any_eq_true] at h6
        obtain ⟨y, hy, hyc⟩ := h6
        obtain ⟨y1, y2, y3⟩ := y
        simp only [decide_eq_true_eq] at hyc
        subst hyc
        have sf := g.lk.sub _ _ _ hy
        obtain ⟨v, r1, r2⟩ := sf.rel
        have gl : ∀ {x : Str}, glB sc x = true → Gl (X.suite a ((a, oe) :: pn)) x := fun h => g.gl h
        refine PE.imp (pe_callB (call_isX hz hf) (gl h1) (g.lk.free _ h2) boot_isi (pa_cons (pv p2) (pa_cons (pe_name (gl h5) sf.nm r1 (glB_ok h5).2) pa_nil))) fun τ H Q ⟨x, S, F, dd, rx, sx, ti, rel, hE1, kv⟩ => ?_
        simp only [hE, Option.map_eq_some_iff] at hE1
        obtain ⟨b, hb, rfl⟩ := hE1
        have sf2 := g.lk.sub _ _ _ (sub_mem hb)
        refine ⟨.ref a, ti, ?_⟩
        refine ⟨gAd X.K x.cls, v, _, b, rx.1, sx.ec, rfl, r2, sf2.kit, ?_, kv _ _ .refl rel .bl⟩
        cases d with
        | none => trivial
        | some d' =>
          obtain ⟨ws, e, _⟩ := rx.2
          exact ⟨ws, e⟩
    case h_8 e1 p1 w p2 z p3 p4 pos hn =>
      cases hn
      split at q
      case isFalse => cases q
      case isTrue hh =>
        cases q
        simp only [Bool.and_eq_true, decide_eq_true_eq] at hh
        obtain ⟨⟨h1, h2⟩, h3⟩ := hh
        subst h1 h2
        by_cases hC : ∃ C, cls = .ref C ∧ SubC X.K C
        · obtain ⟨C, rfl, sC⟩ := hC
          refine PE.imp (pe_cmpR op_eq (pe_xf sC.xf sC.hno hz hf (pv _)) pe_str rfl) fun τ H Q ⟨x, S, F, dd, rx, sx, ti, rel, hE1, kv⟩ => ?_
          simp only [hE] at hE1
          split at hE1
          case h_1 y hy =>
            cases hE1
            obtain ⟨rx1, rx2⟩ := rx
            cases d with
            | none =>
              have rx2 : x.fs = [] := rx2
              rw [rx2] at hy
              cases hy
            | some d' =>
              obtain ⟨ws, e, rf⟩ := rx2
              obtain ⟨v, h1, h2⟩ := RF.look rf hy
              refine ⟨.ref a, ti, rfl, rfl, d', ws, v, rfl, e, h1, ?_⟩
              rw [h2.stri.1]
              refine ⟨rfl, ?_⟩
              have ed : decide (V.str y = V.str z) = decide (y = z) := decide_eq_decide.mpr ⟨fun q => by cases q; rfl, fun q => by rw [q]⟩
              rw [ed]
              exact kv _ _ .refl rel .bl
          case h_2 => cases hE1
        · refine ⟨fun pins s σ H Q I ⟨x, S, F, dd, rx, sx, _⟩ => absurd ⟨_, rx.1, sx⟩ hC⟩
    case h_9 z p1 p2 e1 x1 pos hn =>
      cases hn
      split at q
      case isFalse => cases q
      case isTrue hz' =>
        simp only [Option.map_eq_some_iff] at q
        obtain ⟨a', h1, rfl⟩ := q
        refine PE.imp (pe_tupF (pa_cons pe_str (pa_cons (ih _ _ h1) pa_nil (plain_star (cH_plain h1) [] _)))) fun τ H Q ⟨x, S, F, dd, rx, sx, ti, rel, hE1, kv⟩ => ?_
        simp only [hE] at hE1
        split at hE1
        case h_1 c hc =>
          cases hE1
          refine ⟨x, S, F, _, rx, sx, ti, rel, hc, fun v H1 e1 rel1 rd1 => ⟨?_, fun p o hp ho => ?_⟩⟩
          · rw [sizeLine_eq]; exact (show (2 : Nat) ≤ 16777216 by decide)
          · exact kv _ _ (e1.trans (.new hp)) (rel1.tup hp) (.tupNew hp ho (.cons (by rw [RD]; exact ⟨rfl, hz'⟩) (.cons rd1 .nil)))
        case h_2 => cases hE1
    case h_10 => cases q
end Mi
namespace Mi
open PySem PySem.Spec PyProof.Rows L2
variable {T : Tb} {N : List Str} {Γ : Str → FS} {G : Str → Option D} {k : Nat}
theorem ls_set {K : PySem.W.Frag} {W : WX} {i : Nat} {w1 : WE1} {D : Ends} {τ : L2.St} {H : Hp} (h : LS K W (fun N σ S => w1 σ S (fun d S1 => N.nx (σ.set i (some d)) S1) fun x S1 => N.xr x σ S1) D τ H) : LE K W w1 τ H fun x H1 => D.nx (τ.set i (some x)) H1 := by
  obtain ⟨σ, S, F, N, rel, rs, hw, lk⟩ := h
  exact ⟨σ, S, F, _, _, rel, rs, hw, fun d S1 x H1 q e r rd => lk.nx _ _ _ _ q e r ((rs.ext e).set i rd), lk.kxs rs⟩
theorem ll_set {K : PySem.W.Frag} {W : WX} {i : Nat} {w : En → Sto → (List D → Sto → Prop) → KX → Prop} {D : Ends} {τ : L2.St} {H : Hp} (h : LS K W (fun N σ S => w σ S (fun ds S2 => ∀ p, S2 p = none → N.nx (σ.set i (some (.ref p))) (S2.upd p (.lst ds))) fun x S1 => N.xr x σ S1) D τ H) :
    LL K W w τ H fun x H1 => D.nx (τ.set i (some x)) H1 := by
  obtain ⟨σ, S, F, N, rel, rs, hw, lk⟩ := h
  exact ⟨σ, S, F, _, _, rel, rs, hw, fun ds S' a vs H' q e fa rel' rd => lk.nx _ _ _ _ (q a (rel'.sep a _ upd_same)) e (rel'.show fa rd) ((rs.ext e).set i .ref), lk.kxs rs⟩
theorem stepS {n : Nat} (hA' : All T N Γ G k (n - 1)) (hA : All T N Γ G k n) (hSs : SSs T N Γ G k n) : SS T N Γ G k (n + 1) := by
  intro X W sc g st s c h po
  unfold cS at h
  split at h
  case h_1 => contradiction
  case h_2 x py e pos hn =>
    cases hn
    simp only [bind, Option.bind_eq_some_iff, pure, Option.some.injEq] at h
    obtain ⟨i, h1, e', h2, _, h3, rfl⟩ := h
    rw [gd_some] at h3
    obtain ⟨h4, h5⟩ := locIx_ok h1
    have hi : X.N[i]? = some x := by rw [g.N_eq]; exact h4
    have hx : Loc X.env.scope x := by rw [g.sc_eq]; rcases h5 with h5 | h5; exact .inl h5; exact .inr h5.1
    have hN : X.N.Nodup := by rw [g.N_eq]; exact g.nd
    cases hl : noLC e with
    | true => exact PS.imp (ps_set hN hi hx (hA.e X W _ _ g e e' h2) (sw_false (cE_plain h2) (cE_nocomp h2 hl)) (.inl (g.own x rfl))) fun D τ H q => ls_set q
    | false =>
      cases n with
      | zero => simp [cE] at h2
      | succ n =>
      unfold cE at h2
      split at h2 <;> first | (cases hl; done) | (cases h2; done) | skip
      case h_18 elt tg it ifs scope p hm =>
        cases hm
        obtain ⟨e1, tg1, it1, c1, vs, rfl, hpe, hp⟩ := hA'.c X W _ _ g _ _ _ _ _ _ _ h2
        rw [Bool.or_eq_true, decide_eq_true_eq] at h3
        rcases h3 with h3 | h3
        · exact PS.imp (ps_set hN hi hx (hpe p) (sw_cell (by rw [g.sc_eq]; exact h3)) (.inl (g.own x rfl))) fun D τ H q => ll_set q
        rw [Bool.and_eq_true, Bool.and_eq_true, decide_eq_true_eq] at h3
        obtain ⟨⟨h6, h7⟩, h8⟩ := h3
        have hyl : X.env.scope.names.lookup x = some .local := by rw [g.sc_eq]; exact h7
        refine PS.imp (hp p pos i x py hi hyl (sw_true (by rw [g.sc_eq]; exact g.kd) hyl h6 (by rw [Bool.not_eq_true'] at h8; exact h8))) fun D τ H q => ll_set q
  case h_3 ts kk p e pos hn =>
    cases hn
    simp only [bind, Option.bind_eq_some_iff, pure, Option.some.injEq] at h
    obtain ⟨ts', h1, _, h2, e', h3, rfl⟩ := h
    rw [gd_some] at h2
    have hlc : noLC e = true := by cases e <;> first | rfl | cases h2
    refine PS.imp (ps_asg (hA.e X W _ _ g e e' h3) (sG g n _ ts' false h1 (fun z => nomatch z)) (show swapsWith e (some (.Tuple ts kk p)) pos.line X.env = pure false from sw_false (cE_plain h3) (cE_nocomp h3 hlc)) (sw_none h2)) fun D τ H ⟨σ, S, F, N, rel, rs, hw, lk⟩ => ?_
    refine ⟨σ, S, F, _, _, rel, rs, hw, fun d S1 x H1 q e1 r rd => ?_, lk.kxs rs⟩
    exact ⟨d, σ, _, rd, rs.ext e1, q, fun σ' τ' q' rs' _ => lk.nx _ _ _ _ q' e1 r rs'⟩
  case h_4 o i p e pos hn =>
    cases hn
    simp only [bind, Option.bind_eq_some_iff, pure, Option.some.injEq] at h
    obtain ⟨_, h1, _, h2, o', h3, i', h4, e', h5, rfl⟩ := h
    rw [gd_some] at h1 h2
    have hlc : noLC e = true := by cases e <;> first | rfl | cases h2
    refine PS.imp (ps_asg (hA.e X W _ _ g e e' h5) (pg_sub (hA.e X W _ _ g o o' h3) (hA.e X W _ _ g i i' h4) (set_sound g.room) (by intro v; cases i <;> first | rfl | cases h1)) (show swapsWith e (some (.Subscript o i p)) pos.line X.env = pure false from sw_false (cE_plain h5) (cE_nocomp h5 hlc))) fun D τ H ⟨σ, S, F, N, rel, rs, hw, lk⟩ => ?_
    refine ⟨σ, S, F, _, _, rel, rs, hw, fun d S1 x H1 q1 e1 rel1 rd1 => ?_, lk.kxs rs⟩
    refine ⟨σ, S1, F, _, _, rel1, rs.ext e1, q1, fun d2 S2 y H2 q2 e2 rel2 rd2 => ?_, (lk.ext e1).kxs (rs.ext e1)⟩
    refine ⟨σ, S2, F, _, _, rel2, rs.ext (e1.trans e2), q2, fun d3 S3 z H3 q3 e3 rel3 rd3 => ?_, (lk.ext (e1.trans e2)).kxs (rs.ext (e1.trans e2))⟩
    exact ⟨d2, d3, d, S3, F, _, rel3, RD.ext e3 _ _ rd2, rd3, RD.ext (e2.trans e3) _ _ rd1, q3, fun S' H' q' e' r' => lk.nx _ _ _ _ q' (((e1.trans e2).trans e3).trans e') r' (rs.ext (((e1.trans e2).trans e3).trans e'))⟩
  case h_5 f p1 e pos p2 hn =>
    cases hn
    simp only [bind, Option.bind_eq_some_iff, pure, Option.some.injEq] at h
    obtain ⟨_, h1, e', h2, rfl⟩ := h
    rw [gd_some, Bool.and_eq_true] at h1
    have ef := g.lk.exc _ h1.2
    obtain ⟨fI, F0, nf, iC, tI⟩ := ef.ini
    have pmono : ∀ (σ : L2.St) (H : Hp) (Q Q' : VK), (∀ v H', Q v H' → Q' v H') → LE X.K W (wE Γ G e') σ H Q → LE X.K W (wE Γ G e') σ H Q' := fun _ _ _ _ i q => LE.monoQ q i
    have tkm := g.tk
    have fin : ∀ (D : Ends) (τ : L2.St) (H : Hp), LS X.K W (wS Γ G (.raise f e')) D τ H → LE X.K W (wE Γ G e') τ H (fun v H1 => ∃ z : Str, v = .str z ∧ z.length ≤ 1000000 ∧ ∀ d, H1 d = none → W (.ref (gAd X.K f)) (some d) τ (L2.upd H1 d (.xd [("word", .str z)]))) := by
      intro D τ H ⟨σ, S, F, N, rel, rs, hw, lk⟩
      refine ⟨σ, S, F, _, _, rel, rs, hw, fun d S1 v H1 q e1 rel1 rd1 => ?_, lk.kxs rs⟩
      cases d <;> first | exact (show False from q).elim | skip
      rename_i z
      obtain ⟨q1, q2⟩ : z.length ≤ 1000000 ∧ N.xr ⟨f, [("word", .str z)]⟩ σ S1 := q
      refine ⟨z, rd1.stri.1, q1, fun d hd => ?_⟩
      refine lk.xr _ _ _ _ _ _ _ q2 (e1.trans (.new hd)) (rel1.tup hd) (rs.ext (e1.trans (.new hd))) ⟨rfl, _, upd_same, ?_⟩
      rw [RF]
      exact ⟨.str z, [], rfl, by rw [RD]; exact ⟨rfl, rd1.stri.2⟩, by rw [RF]⟩
    cases hmd : T.md with
    | false =>
      rw [hmd] at tkm
      exact PS.imp (ps_raise g.calm tkm (pmk_nf (k := 0) (te := LE X.K W (wE Γ G e')) nf iC tI (g.room.mono g.k2) pmono (g.gl h1.1) ef.mgx (hA.e X W _ _ g e e' h2) (okN_1 (glB_ok h1.1).2).1 (plain_star (cE_plain h2) [] X.env))) fun D τ H q => fin D τ H q
    | true =>
      rw [hmd] at tkm
      exact PS.imp (L2N.ps_raise g.calm tkm (pmk_nfN (k := 0) (te := LE X.K W (wE Γ G e')) nf iC tI (g.room.mono g.k2) pmono (g.gl h1.1) ef.mgx (hA.e X W _ _ g e e' h2) (okN_1 (glB_ok h1.1).2).1 (plain_star (cE_plain h2) [] X.env))) fun D τ H q => fin D τ H q
  case h_6 b x p1 nm e p2 p3 p4 hn =>
    cases hn
    have e0 := g.sc_eq
    subst e0
    simp only [bind, Option.bind_eq_some_iff, pure, Option.some.injEq] at h
    obtain ⟨i, h0, _, h1, hh, h2, b', h3, _, h7, rfl⟩ := h
    rw [gd_some, Bool.and_eq_true, Bool.and_eq_true] at h1
    rw [gd_some, Bool.and_eq_true, Bool.not_eq_true'] at h7
    obtain ⟨hmd, hnr⟩ := h7
    have tkm := g.tk
    rw [hmd] at tkm
    have toM : ∀ {Y : Cx} {W1 : WX}, L2.Takes Y W1 → TkM T.md Y W1 := fun t => by rw [hmd]; exact t
    obtain ⟨⟨h4, h5⟩, h6⟩ := h1
    obtain ⟨hl, hi⟩ : X.env.scope.names.lookup nm = some .local ∧ ixOf N nm = some i := by
      split at h0
      case h_1 e => exact ⟨e, h0⟩
      case h_2 => cases h0
    have hi' := ixOf_get hi
    rw [List.any_eq_true] at h6
    obtain ⟨⟨y1, y2, y3⟩, hy, hyc⟩ := h6
    simp only [decide_eq_true_eq] at hyc
    subst hyc
    have sf := g.lk.sub _ _ _ hy
    have nms : Names X y2 (cvOf X.mg y2) := ⟨g.gl h4, (okN_1 (glB_ok h4).2).1, by
      rcases sf.nm with z | ⟨z1, z2⟩
      · exact .inl z
      · exact .inr ⟨z1, z2, (okN_1 (glB_ok h4).2).2.2⟩⟩
    refine PS.imp (ps_try_as (tb := fun W => LS X.K W (wSs Γ G b')) (i := i) (n := nm) (c := cvOf X.mg y2) (Wout := W) (ts := fun a cls d => tRet (LH X.K i a cls d hh)) st.stk st.frm (by rw [g.N_eq]; exact g.nd) (by rw [g.N_eq]; exact hi') hl nms tkm
      (fun W1 pn xe tk1 po1 => hSs (X.tr pn xe) W1 _ ⟨g.N_eq, g.sc_eq, g.nd, g.kd, g.room, g.k2, g.calm, toM tk1, po1, g.own, g.lk⟩ ⟨st.stk, st.frm⟩ b b' h3 (.inr hnr))
      (fun a oe cls d pn hz hf => pss_one (ps_ret (cH_sound g hz hf hi' hl h5 n e hh h2)))) fun D τ H ⟨σ, S, F, N, rel, rs, hw, lk⟩ => ?_
    refine ⟨σ, S, F, _, rel, rs, hw, lk.nx, lk.rt, lk.bk, lk.ct, fun x σ1 S1 τ1 c dx H1 q e1 rel1 rs1 rx1 => ?_⟩
    dsimp only at q
    split at q
    case h_1 cb hcb =>
      have sf2 := g.lk.sub _ _ _ (sub_mem hcb)
      refine ⟨cb, by rw [rx1.1]; exact sf2.exm, fun hb a ha => ?_, fun hb => ?_⟩
      · subst hb
        rw [if_pos rfl] at q
        obtain ⟨q1, q2⟩ := q
        split at q2
        case h_1 dd hdd =>
          exact ⟨x, S1, F, dd, rx1, sf2.sc, by rw [List.getElem?_set_self (by have z := rs1.1; omega)], rel1, hdd, fun v H2 u2 rel2 rd2 => lk.rt _ _ _ _ q2 (e1.trans u2.ext) rel2 rd2⟩
        case h_2 => exact q2.elim
      · subst hb
        rw [if_neg Bool.false_ne_true] at q
        exact lk.xr _ _ _ _ _ _ _ q e1 rel1 rs1 rx1
    case h_2 => exact q.elim
  case h_7 tg gn p1 v p2 p3 p4 x p5 f p6 z j6 p7 p8 j9 p9 p10 p11 p12 hn =>
    cases hn
    simp only [bind, Option.bind_eq_some_iff, pure, Option.some.injEq] at h
    obtain ⟨_, h1, t', h2, i, h3, _, h4, rfl⟩ := h
    have poa : PoA X := po.resolve_right fun z => nomatch z
    simp only [gd_some, Bool.and_eq_true, Bool.not_eq_true'] at h1
    obtain ⟨⟨⟨⟨hmd, hg1, hg2⟩, hx1, hx2⟩, hf1, hf2⟩, hz⟩ := h1
    have tkm := g.tk
    rw [hmd] at tkm
    rw [List.any_eq_true] at hx2
    obtain ⟨⟨y1, y2, y3⟩, hy, hyc⟩ := hx2
    simp only [decide_eq_true_eq] at hyc
    subst hyc
    have sf := g.lk.sub _ _ _ hy
    have nms : Names X y2 (cvOf X.mg y2) := ⟨g.gl hx1, (okN_1 (glB_ok hx1).2).1, by
      rcases sf.nm with z | ⟨z1, z2⟩
      · exact .inl z
      · exact .inr ⟨z1, z2, (okN_1 (glB_ok hx1).2).2.2⟩⟩
    have ef := g.lk.exc _ hf2
    obtain ⟨fI, F0, nf, iC, tI⟩ := ef.ini
    obtain ⟨ga, gd', gps, m1, m2, m3, m4⟩ := g.lk.cln gn hg2
    obtain ⟨hv1, hv2, hv3⟩ := visIx_ok h3
    obtain ⟨tes, tk, tp, rfl⟩ : ∃ es kk p, tg = .Tuple es kk p := by
      cases tg <;> first | exact ⟨_, _, _, rfl⟩ | cases h4
    have toM : ∀ {Y : Cx} {W1 : WX}, L2.Takes Y W1 → TkM T.md Y W1 := fun t => by rw [hmd]; exact t
    have n1 := (okN_1 (glB_ok hg1).2).1
    have n2 := (okN_1 (glB_ok hf1).2).1
    let wA : De → En → Sto → Prop := fun N σ S => (match σ[i]? with
      | some (some d) => Γ gn [d] S (fun r S1 => wG t' r σ fun σ' => N.nx σ' S1) fun x S1 => N.xr x σ S1
      | _ => False)
    refine PS.imp (L2H.ps_try_onlyX (tb := fun W1 => LS X.K W1 wA) (c := cvOf X.mg y2) (Wout := W) (ts := fun a cls d D τ H => z.length ≤ 1000000 ∧ ∀ dd, H dd = none → W (.ref (gAd X.K f)) (some dd) τ (L2.upd H dd (.xd [("word", .str z)]))) st.stk st.frm nms poa tkm
      (fun W1 pn xe tkN tkP po1 => ?_)
      (fun a oe cls d pn hzn hvs tk5 hot => ?_)) fun D τ H ⟨σ, S, F, N, rel, rs, hw, lk⟩ => ?_
    · have gY : Gd T N Γ G (X.tr pn xe) (L2H.wPass X.K (cvOf X.mg y2) W) _ (fun _ => true) k := ⟨g.N_eq, g.sc_eq, g.nd, g.kd, g.room, g.k2, g.calm, toM tkP, po1, g.own, g.lk⟩
      have pv : PE (X.tr pn xe) (.Name v p2) (tVar i) := pe_var (i := i) (by rw [show (X.tr pn xe).N = X.N from rfl, g.N_eq]; exact hv1) (by rw [show (X.tr pn xe).env = X.env from rfl, g.sc_eq]; exact hv2) (okN_1 hv3).1 (okN_1 hv3).2.1
      have pc := pe_callS (X := X.tr pn xe) (E := WE W1) (pos := p3) (p := p1) m4 g.room (g.gl hg1) m1 m2 m3 (fun σ => L2N.passAt tkN σ) (pa_cons pv pa_nil rfl) n1 rfl rfl
      refine pss_one (PS.imp (ps_asg pc (sG gY n _ t' false h2 (fun z => nomatch z)) rfl (sw_none rfl)) fun D τ H ⟨σ, S, F, N, rel, rs, hw, lk⟩ => ?_)
      have hw : (match σ[i]? with
        | some (some d) => Γ gn [d] S (fun r S1 => wG t' r σ fun σ' => N.nx σ' S1) fun x S1 => N.xr x σ S1
        | _ => False) := hw
      split at hw
      case h_1 d hd =>
        obtain ⟨u, e1, rd⟩ := rs.get i d hd
        refine ⟨u, e1, [d], S, F, _, _, rel, .cons rd .nil, hw, fun r S1 x H1 q1 e2 rel1 rd1 => ?_, lk.kxs rs⟩
        exact ⟨r, σ, _, rd1, rs.ext e2, q1, fun σ' τ' q' rs' _ => lk.nx _ _ _ _ q' e2 rel1 rs'⟩
      case h_2 => exact hw.elim
    · refine pss_one (PS.imp (L2H.ps_raiseHN hot tk5 (pmk5_nfH (k := 0) (te := tC (.str z)) nf iC tI (L2H.roomH_mark (g.room.mono g.k2) _) hot (fun _ _ _ _ m q => m _ _ q) (g.gl hf1) ef.mgx pe_str n2 rfl)) fun D τ H q => ?_)
      exact ⟨z, rfl, q.1, q.2⟩
    · obtain ⟨hlen, hw⟩ := (show z.length ≤ 1000000 ∧ (match σ[i]? with
        | some (some d) => Γ gn [d] S (fun r S1 => wG t' r σ fun σ' => N.nx σ' S1) (fun x S1 => (match (subOf T y2).lookup x.cls with
          | some c => c = true ∧ N.xr ⟨f, [("word", .str z)]⟩ σ S1
          | none => False))
        | _ => False) from hw)
      split at hw
      case h_2 => exact hw.elim
      case h_1 d hd =>
        refine ⟨σ, S, F, { N with xr := fun x σ' S1 => σ' = σ ∧ (match (subOf T y2).lookup x.cls with
          | some c => c = true ∧ N.xr ⟨f, [("word", .str z)]⟩ σ S1
          | none => False) }, rel, rs, ?_, lk.nx, lk.rt, lk.bk, lk.ct, fun x σ1 S1 τ1 c dx H1 q e1 rel1 rs1 rx1 => ?_⟩
        · show (match σ[i]? with
            | some (some d) => Γ gn [d] S (fun r S1 => wG t' r σ fun σ' => N.nx σ' S1) (fun x S1 => σ = σ ∧ (match (subOf T y2).lookup x.cls with
              | some c => c = true ∧ N.xr ⟨f, [("word", .str z)]⟩ σ S1
              | none => False))
            | _ => False)
          rw [hd]
          have e : (fun (x : Exc) S1 => σ = σ ∧ (match (subOf T y2).lookup x.cls with
            | some c => c = true ∧ N.xr ⟨f, [("word", .str z)]⟩ σ S1
            | none => False)) = fun (x : Exc) S1 => (match (subOf T y2).lookup x.cls with
            | some c => c = true ∧ N.xr ⟨f, [("word", .str z)]⟩ σ S1
            | none => False) := by
            funext x S1
            exact propext ⟨fun w => w.2, fun w => ⟨rfl, w⟩⟩
          show Γ gn [d] S _ (fun (x : Exc) S1 => σ = σ ∧ (match (subOf T y2).lookup x.cls with
            | some c => c = true ∧ N.xr ⟨f, [("word", .str z)]⟩ σ S1
            | none => False))
          rw [e]
          exact hw
        · obtain ⟨eσ, q⟩ := q
          subst eσ
          split at q
          case h_1 cb hcb =>
            obtain ⟨hb, q⟩ := q
            subst hb
            have sf2 := g.lk.sub _ _ _ (sub_mem hcb)
            refine ⟨true, by rw [rx1.1]; exact sf2.exm, fun _ a ha => ⟨hlen, fun dd hdd => ?_⟩, fun z => nomatch z⟩
            refine lk.xr _ _ _ _ _ _ _ q (e1.trans (.new hdd)) (rel1.tup hdd) (rs1.ext (.new hdd)) ⟨rfl, _, upd_same, ?_⟩
            rw [RF]
            exact ⟨.str z, [], rfl, by rw [RD]; exact ⟨rfl, hz⟩, by rw [RF]⟩
          case h_2 => exact q.elim
  case h_8 =>
    cases h
    exact PS.imp ps_doc fun D τ H ⟨σ, S, F, N, rel, rs, hw, lk⟩ => lk.nx _ _ _ _ hw .refl rel rs
  case h_9 e pos _ hn =>
    cases hn
    simp only [bind, Option.bind_eq_some_iff, pure, Option.some.injEq] at h
    obtain ⟨_, h1, e', h2, rfl⟩ := h
    rw [gd_some] at h1
    have hsw : swapsWith e none pos.line X.env = pure false := by cases e <;> first | rfl | cases h1
    refine PS.imp (ps_expr (hA.e X W _ _ g e e' h2) hsw) fun D τ H ⟨σ, S, F, N, rel, rs, hw, lk⟩ => ?_
    exact ⟨σ, S, F, _, _, rel, rs, hw, fun d S1 x H1 q e1 r rd => lk.nx _ _ _ _ q e1 r (rs.ext e1), lk.kxs rs⟩
  case h_10 e pos hn =>
    cases hn
    simp only [Option.map_eq_some_iff] at h
    obtain ⟨e', h1, rfl⟩ := h
    refine PS.imp (ps_ret (hA.e X W _ _ g e e' h1)) fun D τ H ⟨σ, S, F, N, rel, rs, hw, lk⟩ => ?_
    exact ⟨σ, S, F, _, _, rel, rs, hw, fun d S1 x H1 q e1 r rd => lk.rt _ _ _ _ q e1 r rd, lk.kxs rs⟩
  case h_11 =>
    cases h
    exact PS.imp ps_retN fun D τ H ⟨σ, S, F, N, rel, rs, hw, lk⟩ => lk.rt _ _ _ _ hw .refl rel .non
  case h_12 =>
    cases h
    exact PS.imp ps_pass fun D τ H ⟨σ, S, F, N, rel, rs, hw, lk⟩ => lk.nx _ _ _ _ hw .refl rel rs
  case h_13 =>
    cases h
    exact PS.imp ps_break fun D τ H ⟨σ, S, F, N, rel, rs, hw, lk⟩ => lk.bk _ _ _ _ hw .refl rel rs
  case h_14 =>
    cases h
    exact PS.imp ps_continue fun D τ H ⟨σ, S, F, N, rel, rs, hw, lk⟩ => lk.ct _ _ _ _ hw .refl rel rs
  case h_15 t a b pos hn =>
    cases hn
    simp only [bind, Option.bind_eq_some_iff, pure, Option.some.injEq] at h
    obtain ⟨t', h1, a', h2, b', h3, rfl⟩ := h
    refine PS.imp (ps_if (hA.t X W _ _ g t t' h1) (hSs X W _ g st a a' h2 (po.imp id fun z => (Bool.and_eq_true _ _ ▸ (show (nrSs a' && nrSs b') = true from z)).1)) (hSs X W _ g st b b' h3 (po.imp id fun z => (Bool.and_eq_true _ _ ▸ (show (nrSs a' && nrSs b') = true from z)).2))) fun D τ H ⟨σ, S, F, N, rel, rs, hw, lk⟩ => ?_
    refine ⟨σ, S, F, _, _, rel, rs, hw, fun c S1 H1 q e1 r => ?_, lk.kxs rs⟩
    cases c with
    | true => exact ⟨σ, S1, F, N, r, rs.ext e1, q, lk.ext e1⟩
    | false => exact ⟨σ, S1, F, N, r, rs.ext e1, q, lk.ext e1⟩
  case h_16 t b pos hn =>
    cases hn
    simp only [bind, Option.bind_eq_some_iff, pure, Option.some.injEq] at h
    obtain ⟨t', h1, b', h2, rfl⟩ := h
    exact PS.imp (ps_while g.po (hA.t X W _ _ g t t' h1) (hSs X W _ g st b b' h2 (po.imp id fun z => z))) fun D τ H q => while_conv q
  case h_17 tg it b pos hn =>
    cases hn
    simp only [bind, Option.bind_eq_some_iff, pure, Option.some.injEq] at h
    obtain ⟨_, h0, tg', h1, it', h2, _, h7, b', h3, rfl⟩ := h
    have hs : ∀ x, foldedSetIterable it X.env x = pure x := by
      rw [gd_some] at h0
      intro x
      cases it <;> first | rfl | cases h0
    rw [gd_some] at h7
    have hwk : wkI it' = true → tupX tg = true := fun q => by
      rw [q] at h7
      exact h7
    have hwg : wkI it' = true → ∃ ts, tg' = .tup ts := fun q => by
      have h8 := hwk q
      cases n with
      | zero => simp [cG] at h1
      | succ n =>
        cases tg <;> first | (cases h8; done) | skip
        simp only [cG, Option.map_eq_some_iff] at h1
        obtain ⟨ts, _, e⟩ := h1
        exact ⟨ts, e.symm⟩
    exact PS.imp (ps_for g.po g.calm (hA.i X W _ _ g tg it it' h2 hwk) (sG g n tg tg' _ h1 hwg) (hSs X W _ g st b b' h3 (po.imp id fun z => z)) hs) fun D τ H q => for_conv q
  case h_18 => cases h
theorem ss2 : ∀ n, SS T N Γ G k n ∧ SSs T N Γ G k n
  | 0 => ⟨fun X W sc g st s c h => by simp [cS] at h, fun X W sc g st s c h => by simp [cSs] at h⟩
  | n + 1 => by
    obtain ⟨h1, h2⟩ := ss2 n
    exact ⟨stepS (all (n - 1)) (all n) h2, stepSs h1 h2⟩
theorem cSs_sound {n : Nat} {X : Cx} {W : WX} {sc : Scope} (g : Gd T N Γ G X W sc (fun _ => true) k) (st : Stk X) {s : List PySem.Stmt} {c : Ss} (h : cSs T N n sc s = some c) (po : PoA X ∨ nrSs c = true) : PSs X s (LS X.K W (wSs Γ G c)) := (ss2 n).2 X W sc g st s c h po
end Mi
namespace Mi
open PySem PySem.Spec PyProof.Rows L2
structure Dn where
  d : He.DefD
  ps : List Str
  N : List Str
  body : Ss
def startD (n : Nat) (ds : List D) : En := ds.map some ++ List.replicate (n - ds.length) none
def Gam (bd : Str → Option (Nat × Nat × Ss)) (G : Str → Option D) : Nat → Str → FS
  | 0, _ => fun _ _ _ _ => False
  | k + 1, f => fun ds S Q X => (match bd f with
    | some (np, nn, b) => ds.length = np ∧ wSs (Gam bd G k) G b ⟨fun _ S' => ∃ S0 : Sto, S0.le S' ∧ Q .non S0, fun d S' => ∃ S0 : Sto, S0.le S' ∧ Q d S0, fun _ _ => False, fun _ _ => False, fun x _ S' => ∃ S0 : Sto, S0.le S' ∧ X x S0⟩ (startD nn ds) S
    | none => False)
theorem RDs.getSome {K : PySem.W.Frag} {H : Hp} {ds : List D} {vs : List V} (h : RDs K H ds vs) (n : Nat) : RS K H (startD n ds) ((vs.map some ++ List.replicate (n - vs.length) none : L2.St)) := by
  have hl := h.length
  refine ⟨by unfold startD; simp [hl], fun i d e => ?_⟩
  unfold startD at e
  by_cases hi : i < ds.length
  · rw [List.getElem?_append_left (by simpa using hi), List.getElem?_map, Option.map_eq_some_iff] at e
    obtain ⟨d', e1, e2⟩ := e
    cases e2
    obtain ⟨v, e3, r⟩ := h.get e1
    exact ⟨v, by rw [List.getElem?_append_left (by simp; omega), List.getElem?_map, e3]; rfl, r⟩
  · rw [List.getElem?_append_right (by simpa using hi), List.getElem?_replicate] at e
    split at e
    case isTrue => cases e
    case isFalse => cases e
section
variable {P : Program} {w : World} {K : PySem.W.Frag} {mg : Str → Option Value} {base : Heap} {T : Tb} {G : Str → Option D}
structure DnOk (T : Tb) (x : Dn) : Prop where
  sc : FnScope x.N x.ps x.d.scope
  comp : ∃ n, cSs T x.N n x.d.scope x.d.body = some x.body
  bnd : ∀ (kV doc pm : Value) (an : Option Addr) (cdv ct : Value) (us : List Value), us.length = x.ps.length → bindArgs (PySem.W.fnOf x.d.name x.d.qual x.d.params x.d.body x.d.scope .none kV doc pm an cdv ct) ⟨us, []⟩ = pure (x.ps.zip us)
abbrev DnD (K : PySem.W.Frag) (x : Dn) (f : Addr) (fd : FuncData) : Prop := FunD K x.d.name x.d.qual x.d.params x.d.body x.d.scope [] [] f fd
theorem prog_ok {bd : Str → Option (Nat × Nat × Ss)} {fs : List Dn} (hT : ∀ x : Str, T.fns.contains x = true → ∃ d ∈ fs, d.d.name = x) (st : ∀ d ∈ fs, DnOk T d) (hbd : ∀ d ∈ fs, bd d.d.name = some (d.ps.length, d.N.length, d.body))
    (dy : ∀ d ∈ fs, ∃ f fd, mg d.d.name = some (.ref f) ∧ DnD K d f fd) (free : ∀ x : Str, T.free.contains x = true → mg x = none) (mfn : ∀ (x : Str) (b : Bl), T.mfn.contains x = true → mfOf x = some b → mg x = some (blV b))
    (glob : ∀ (x : Str) (d : D), T.glob.contains x = true → G x = some d → ∃ v u, mg x = some u ∧ RelV v u ∧ ∀ H, RD K H d v)
    (exc : ∀ x : Str, T.exc.contains x = true → ExcF P K mg x) (sub : ∀ (x c : Str) (b : Bool), (x, c, b) ∈ T.sub → SubF K mg x c b)
    (cln : ∀ (k : Nat) (x : Str), T.cln.contains x = true → ∃ f fd ps, mg x = some (.ref f) ∧ PySem.W.keepIn K (.ref f) = true ∧ Binds K fd ps [] ∧ FnOk P w K mg base (L2N.CX P w) (k + 2) f fd ps (LF K (Gam bd G k x))) :
    ∀ (k : Nat) (d : Dn), d ∈ fs → ∀ f fd, DnD K d f fd → FnOk P w K mg base (CXM T.md P w) (k + 2) f fd d.ps (LF K (Gam bd G k d.d.name))
  | 0, d, hd, f, fd, F => ⟨fun vs H Q E h => by obtain ⟨ds, S, F, Qd, Xd, rel, rds, g, _⟩ := h; exact g.elim, fun A outer s H args us vs Q E hr e0 hb r h => by obtain ⟨ds, S, F, Qd, Xd, rel, rds, g, _⟩ := h; exact g.elim⟩
  | k + 1, d, hd, f, fd, F => by
    have S0 := st d hd
    have hb0 := hbd d hd
    have len : ∀ vs H Q E, LF K (Gam bd G (k + 1) d.d.name) vs H Q E → vs.length = d.ps.length := fun vs H Q E h => by
      obtain ⟨ds, S, F, Qd, Xd, rel, rds, g, _⟩ := h
      unfold Gam at g
      rw [hb0] at g
      rw [rds.length]
      exact g.1
    refine F.ok S0.sc len fun cdv A outer s H vs Q E hr h => ?_
    obtain ⟨n, hc⟩ := S0.comp
    have lk : Link P w K mg base T (Gam bd G k) G (k + 2) := ⟨free, mfn, glob, fun x hx => by
      obtain ⟨d', hd', rfl⟩ := hT x hx
      obtain ⟨f', fd', h1, h2⟩ := dy d' hd'
      exact ⟨f', fd', d'.ps, h1, h2.kp, h2.bindsN (st d' hd').bnd, prog_ok hT st hbd dy free mfn glob exc sub cln k d' hd' f' fd' h2⟩, fun x hx => cln k x hx, exc, sub⟩
    have tkOf : ∀ {md : Bool}, TkM md (cxOf (CXM md P w) P w K mg base d.N d.d.qual d.d.scope f cdv A outer s H E) (fun c dx _ H' => E c dx H') := fun {md} => by
      cases md
      · exact L2.takes_of rfl rfl rfl rfl
      · exact L2N.takes_of rfl rfl rfl rfl
    have g : Gd T d.N (Gam bd G k) G (cxOf (CXM T.md P w) P w K mg base d.N d.d.qual d.d.scope f cdv A outer s H E) (fun c dx _ H' => E c dx H') d.d.scope (fun _ => true) (k + 2) :=
      ⟨rfl, rfl, S0.sc.nd, S0.sc.kind, hr, by omega, rfl, tkOf, L2.passes_of rfl, fun _ _ => rfl, lk⟩
    refine ⟨_, cSs_sound g ⟨rfl, rfl⟩ hc (.inl (L2H.passesAt_of rfl)), ?_⟩
    obtain ⟨ds, S, F', Qd, Xd, rel, rds, gg, kv, kx⟩ := h
    unfold Gam at gg
    rw [hb0] at gg
    obtain ⟨hl, gg⟩ := gg
    refine ⟨_, S, F', _, rel, rds.getSome d.N.length, gg, ?_⟩
    refine ⟨fun σ S' τ H' q e r rs => ?_, fun dd S' v H' q e r rd => ?_, fun _ _ _ _ q => q.elim, fun _ _ _ _ q => q.elim, fun x σ S' τ c dx H' q e r rs rx => ?_⟩
    · obtain ⟨S1, l, q⟩ := q
      exact kv _ _ _ _ q e (r.less l) .non
    · obtain ⟨S1, l, q⟩ := q
      exact kv _ _ _ _ q e (r.less l) rd
    · obtain ⟨S1, l, q⟩ := q
      exact kx _ _ _ _ _ q e (r.less l) rx
theorem script_rd {H : Hp} {a : Addr} {ns : List Int} (hO : Only H) (h : SqL K H a (ns.map V.int)) : RD K H (.rl (ns.map D.int)) (.ref a) := by
  rw [RD]
  refine ⟨a, _, rfl, ?_, RDs.ofInts ns⟩
  rcases h with (h | h) | h
  · rcases hO a with z | ⟨o, xs, z⟩
    · rw [h] at z; cases z
    · rw [h] at z; cases z
  · exact .inl h
  · exact .inr h
theorem empty_rel {H : Hp} : Rel K (fun _ => none) (fun _ => none) H := ⟨(fun _ _ e => by cases e), (fun _ _ e => by cases e), (fun _ _ e => by cases e)⟩
end
end Mi
namespace Mi
open PySem PySem.Spec PyProof.Rows L2
theorem law_walk {l : PySem.W.OpenLaw} {n k : Nat} {q : Program} {loose : List Str} {XP : (Str → Option Value) → Heap → Prop} {YP : World → Heap → Prop} {d : DefRec} {x : Str}
    (hn : l.most = some n) (hn2 : n ≤ sizeLine) (hdf : d.params.defaults = []) (hr : Room k callerA)
    (F : ∀ (w : World) (mg : Str → Option Value) (fa : Addr) (h : Heap), YP w h → h.Ns mainGlobals mg → mg d.name = some (.ref fa) →
      ∃ (K : PySem.W.Frag) (fd : FuncData) (sp : Sp), K.In h ∧ (∀ (s : Shared) (u : Value), BindsTo s fd ⟨[u], []⟩ [(x, u)]) ∧
        (∀ (H : Hp) (a : Addr) (ns : List Int), ns.length ≤ n → Only H → SqL K H a (ns.map V.int) → sp [.ref a] H (fun v _ => v = .bl true) fun _ _ _ => False) ∧
        ∀ base : Heap, K.In base → base.Ns mainGlobals mg → FnOk l.prog w K mg base (L2.CX l.prog w) k fa fd [x] sp) :
    PySem.W.WalkO q loose XP YP l.row.toRowW d [] (fun f vs => PySem.call f vs) := by
  refine Att.attach_call hn hdf fun w s₀ s₁ mg mb fa o pm cd doc a vs ns G Y ho hd hcd hmg hobj hints hlen hg => ?_
  obtain ⟨K, fd, sp, KX, hb, hsp, hF⟩ := F w mg fa _ Y G.T.g hmg
  refine law_call KX G.T.g G.T.b G.T.builtins G.T.nolimit hg hobj hints (Nat.le_trans hlen hn2) hr hF hb (fun H hO hS => hsp H a ns hlen hO hS) fun H e s' c => ?_
  obtain ⟨_, _, _, _, _, _, _, _, _, _, _, _, z⟩ := c
  exact z
end Mi
namespace Mi
open PySem PySem.Spec PyProof.Rows L2
theorem gam {bd : Str → Option (Nat × Nat × Ss)} {G : Str → Option D} {f : Str} {np nn : Nat} {b : Ss} (h : bd f = some (np, nn, b)) {k : Nat} {ds : List D} {S : Sto} {Q : KD} {X : KX} (hl : ds.length = np)
    (w : wSs (Gam bd G k) G b ⟨fun _ S' => ∃ S0 : Sto, S0.le S' ∧ Q .non S0, fun d S' => ∃ S0 : Sto, S0.le S' ∧ Q d S0, fun _ _ => False, fun _ _ => False, fun x _ S' => ∃ S0 : Sto, S0.le S' ∧ X x S0⟩ (startD nn ds) S) : Gam bd G (k + 1) f ds S Q X := by
  unfold Gam
  rw [h]
  exact ⟨hl, w⟩
theorem forL_inv {tg : Tg} {b : De → En → Sto → Prop} {chk : Sto → Prop} {N : De} (l : List D) (I : Nat → En → Sto → Prop) (hchk : ∀ i σ S, I i σ S → chk S)
    (step : ∀ i d σ S (NX : En → Sto → Prop), l[i]? = some d → I i σ S → (∀ σ' S', I (i + 1) σ' S' → NX σ' S') → wG tg d σ fun σ' => b { N with nx := NX, ct := NX, bk := N.nx } σ' S)
    (fin : ∀ σ S, I l.length σ S → N.nx σ S) {σ : En} {S : Sto} (h0 : I 0 σ S) : forL tg b chk l N σ S := by
  have key : ∀ (r : List D) (i : Nat), l.drop i = r → i ≤ l.length → ∀ σ S, I i σ S → forL tg b chk r N σ S := by
    intro r
    induction r with
    | nil =>
      intro i hd hi σ S h
      have e : i = l.length := by
        have := congrArg List.length hd
        rw [List.length_drop, List.length_nil] at this
        omega
      subst e
      exact ⟨hchk _ _ _ h, fin _ _ h⟩
    | cons d r ih =>
      intro i hd hi σ S h
      have hl : i < l.length := by
        have := congrArg List.length hd
        rw [List.length_drop, List.length_cons] at this
        omega
      have he : l[i]? = some d := by
        have := List.drop_eq_getElem_cons hl
        rw [hd] at this
        injection this with e1 e2
        rw [List.getElem?_eq_getElem hl, e1]
      have hr : l.drop (i + 1) = r := by
        have := List.drop_eq_getElem_cons hl
        rw [hd] at this
        injection this with e1 e2
        exact e2.symm
      exact ⟨hchk _ _ _ h, step i d σ S _ he h fun σ' S' h' => ih (i + 1) hr hl σ' S' h'⟩
  exact key l 0 rfl (Nat.zero_le _) σ S h0
theorem cmpL_pure {tg : Tg} {c : En → Sto → (Bool → Sto → Prop) → Prop} {e : En → Sto → KD → Prop} {chk : Sto → Prop} {σ : En} {S : Sto} (g : D → Option D) (hc : chk S) : ∀ {l : List D} {Q : List D → Sto → Prop},
    (∀ d ∈ l, ∀ P : Option D → Sto → Prop, P (g d) S → wG tg d σ fun σ' => c σ' S fun b S1 => if b = true then e σ' S1 fun v S2 => P (some v) S2 else P none S1) → Q (l.filterMap g) S → cmpL tg c e chk l σ S Q
  | [], Q, h, q => ⟨hc, q⟩
  | d :: l, Q, h, q => by
    refine ⟨hc, h d (List.mem_cons_self ..) (fun o S2 => match o with | some v => cmpL tg c e chk l σ S2 fun vs S3 => Q (v :: vs) S3 | none => cmpL tg c e chk l σ S2 Q) ?_⟩
    rw [List.filterMap_cons] at q
    cases hg : g d with
    | none =>
      rw [hg] at q
      exact cmpL_pure g hc (fun d' hd => h d' (List.mem_cons_of_mem _ hd)) q
    | some v =>
      rw [hg] at q
      exact cmpL_pure g hc (fun d' hd => h d' (List.mem_cons_of_mem _ hd)) q
theorem Sto.le_set {S S' : Sto} {p : Addr} {c c' : Cell} (h : (S.upd p c).le S') : (S.upd p c').le (S'.upd p c') := fun a x e => by
  by_cases ha : a = p
  · subst ha; rw [Sto.upd_same] at e ⊢; exact e
  · rw [Sto.upd_ne ha] at e ⊢
    exact h a x (by rw [Sto.upd_ne ha]; exact e)
theorem Sto.le_new' {A S' : Sto} {p : Addr} {c : Cell} (h : A.le S') (e : S' p = none) : A.le (S'.upd p c) := fun a x q => by
  have := h a x q
  rw [Sto.upd_ne (Sto.ne_of this e)]
  exact this
theorem Sto.le_at {S S' : Sto} {p : Addr} {c : Cell} (h : (S.upd p c).le S') : S' p = some c := h p c Sto.upd_same
theorem Sto.le_of {S S' : Sto} {p : Addr} {c : Cell} (e : S p = none) (h : (S.upd p c).le S') : S.le S' := fun a x q => h a x (by rw [Sto.upd_ne (Sto.ne_of q e)]; exact q)
def Sto.off (a : Addr) (S S' : Sto) : Prop := ∀ b c, b ≠ a → S b = some c → S' b = some c
theorem Sto.off.refl {a : Addr} {S : Sto} : S.off a S := fun _ _ _ h => h
theorem Sto.off.trans {a : Addr} {S S1 S2 : Sto} (h : S.off a S1) (g : S1.off a S2) : S.off a S2 := fun b c hb e => g b c hb (h b c hb e)
theorem Sto.off.new {a p : Addr} {S S1 : Sto} {c : Cell} (h : S.off a S1) (e : S1 p = none) : S.off a (S1.upd p c) := fun b x hb q => by
  have := h b x hb q
  rw [Sto.upd_ne (Sto.ne_of this e)]; exact this
theorem Sto.off.set {a : Addr} {S S1 : Sto} {c : Cell} (h : S.off a S1) : S.off a (S1.upd a c) := fun b x hb q => by rw [Sto.upd_ne hb]; exact h b x hb q
theorem Sto.off.same {a : Addr} {S S1 : Sto} {p : Addr} {c c' : Cell} (h : S.off a S1) (e : S p = none) : S.off a (S1.upd p c') := fun b x hb q => by
  rw [Sto.upd_ne (Sto.ne_of q e)]; exact h b x hb q
def ok : Nat → D → Bool
  | 0, d => (match d with | .int _ => true | .str _ => true | _ => false)
  | n + 1, d => (match d with | .int _ => true | .str _ => true | .tup l => decide (l.length ≤ 10000000) && l.all (ok n) | _ => false)
theorem ok_int {n : Nat} {i : Int} : ok n (.int i) = true := by cases n <;> rfl
theorem ok_str {n : Nat} {i : Str} : ok n (.str i) = true := by cases n <;> rfl
theorem ok_tup {n : Nat} {l : List D} : ok (n + 1) (.tup l) = true ↔ l.length ≤ 10000000 ∧ ∀ d ∈ l, ok n d = true := by
  show (decide (l.length ≤ 10000000) && l.all (ok n)) = true ↔ _
  rw [Bool.and_eq_true, decide_eq_true_eq, List.all_eq_true]
theorem ok_mk {n : Nat} {l : List D} (h : l.length ≤ 10000000) (g : ∀ d ∈ l, ok n d = true) : ok (n + 1) (.tup l) = true := ok_tup.mpr ⟨h, g⟩
theorem ok_mono : ∀ {n m : Nat} {d : D}, n ≤ m → ok n d = true → ok m d = true
  | 0, m, d, _, h => by cases d <;> first | (cases h; done) | exact ok_int | exact ok_str
  | n + 1, 0, d, hn, _ => absurd hn (by omega)
  | n + 1, m + 1, d, hn, h => by
    cases d with
    | int i => rfl
    | str i => rfl
    | tup l =>
      rw [ok_tup] at h ⊢
      exact ⟨h.1, fun x hx => ok_mono (by omega) (h.2 x hx)⟩
    | _ => cases h
theorem ok_dep : ∀ {n : Nat} {d : D}, ok n d = true → D.dep d ≤ n
  | 0, d, h => by cases d <;> first | (cases h; done) | simp [D.dep]
  | n + 1, d, h => by
    cases d with
    | int i => simp [D.dep]
    | str i => simp [D.dep]
    | tup l =>
      rw [ok_tup] at h
      rw [D.dep]
      have : ∀ (l : List D), (∀ x ∈ l, ok n x = true) → D.deps l ≤ n := by
        intro l
        induction l with
        | nil => intro _; simp [D.deps]
        | cons x l ih =>
          intro hx
          rw [D.deps]
          have h1 := ok_dep (hx x (List.mem_cons_self ..))
          have h2 := ih fun y hy => hx y (List.mem_cons_of_mem _ hy)
          omega
      have := this l h.2
      omega
    | _ => cases h
theorem line : sizeLine = 16777216 := sizeLine_eq
section
variable {S : Sto} {Q : KD} {X : KX} {a b : Addr} {d d0 d1 d2 d3 d4 d5 d6 : D} {l m : List D} {i j : Int} {x y z : Str} {QB : Bool → Prop} {kvs : List (D × D)}
theorem opAddI : opR .add (.int i) (.int j) S Q = Q (.int (i + j)) S := rfl
theorem opSubI : opR .sub (.int i) (.int j) S Q = Q (.int (i - j)) S := rfl
theorem opMulI : opR .mul (.int i) (.int j) S Q = (CMulW i j ∧ Q (.int (i * j)) S) := rfl
theorem opDivI : opR .fdiv (.int i) (.int j) S Q = (CDivW i j ∧ Q (.int (i / j)) S) := rfl
theorem opModI : opR .mod (.int i) (.int j) S Q = (0 < j ∧ Q (.int (i % j)) S) := rfl
theorem opPowI : opR .pow (.int i) (.int j) S Q = (CPow i j ∧ Q (.int (i ^ j.toNat)) S) := rfl
theorem opAddT : opR .add (.tup l) (.tup m) S Q = (l.length + m.length ≤ sizeLine ∧ Q (.tup (l ++ m)) S) := rfl
theorem opAddL (h : S a = some (.lst l)) (g : S b = some (.lst m)) : opR .add (.ref a) (.ref b) S Q = (l.length + m.length ≤ sizeLine ∧ ∀ p, S p = none → Q (.ref p) (S.upd p (.lst (l ++ m)))) := by
  show (match S a, S b with | some (.lst x), some (.lst y) => _ | _, _ => False) = _
  rw [h, g]
theorem cmEq : cmR .eq d d1 S QB = eqR d d1 S QB := rfl
theorem cmNe : cmR .ne d d1 S QB = eqR d d1 S fun b => QB (!b) := rfl
theorem cmLt : cmR .lt (.int i) (.int j) S QB = QB (decide (i < j)) := rfl
theorem cmLe : cmR .le (.int i) (.int j) S QB = QB (decide (i ≤ j)) := rfl
theorem cmGt : cmR .gt (.int i) (.int j) S QB = QB (decide (j < i)) := rfl
theorem cmGe : cmR .ge (.int i) (.int j) S QB = QB (decide (j ≤ i)) := rfl
theorem cmIn : cmR .isin d d1 S QB = Mi.inR d d1 S QB := rfl
theorem eqI : eqR (.int i) (.int j) S QB = QB (decide (i = j)) := by
  simp only [eqR, plainR, D.pure, if_true, D.dep, D.eqv]
  simp [Bool.beq_eq_decide_eq]
theorem eqS : eqR (.str x) (.str y) S QB = QB (decide (x = y)) := by
  simp only [eqR, plainR, D.pure, if_true, D.dep, D.eqv]
  simp [Bool.beq_eq_decide_eq]
theorem inS2 : Mi.inR (.str x) (.tup [.str y, .str z]) S QB = QB (decide (x = y ∨ x = z)) := by
  simp only [Mi.inR, flatD, List.all_cons, List.all_nil, inD, List.any_cons, List.any_nil, D.eqv]
  simp [Bool.beq_eq_decide_eq, eq_comm]
theorem truB {b : Bool} {QB : Bool → Prop} : truR (.bl b) S QB = QB b := rfl
theorem atIk {α : Type} {l : List α} {d : α} (n : Nat) {i : Int} (e : i = (n : Int)) (h : l[n]? = some d) : atI l i = some d := by
  have hn : n < l.length := (List.getElem?_eq_some_iff.mp h).1
  have hi : ixN l.length i = some n := by
    unfold ixN
    rw [if_pos (by omega), if_pos (by omega)]
    congr 1
    omega
  unfold atI
  rw [hi]
  exact h
theorem ixT (h : atI l i = some d) : ixR (.tup l) (.int i) S Q = Q d S := by simp only [ixR, h]
theorem ixT0 : ixR (.tup (d0 :: l)) (.int 0) S Q = Q d0 S := ixT (atIk 0 rfl rfl)
theorem ixT1 : ixR (.tup (d0 :: d1 :: l)) (.int 1) S Q = Q d1 S := ixT (atIk 1 rfl rfl)
theorem ixT2 : ixR (.tup (d0 :: d1 :: d2 :: l)) (.int 2) S Q = Q d2 S := ixT (atIk 2 rfl rfl)
theorem ixT3 : ixR (.tup (d0 :: d1 :: d2 :: d3 :: l)) (.int 3) S Q = Q d3 S := ixT (atIk 3 rfl rfl)
theorem ixT4 : ixR (.tup (d0 :: d1 :: d2 :: d3 :: d4 :: l)) (.int 4) S Q = Q d4 S := ixT (atIk 4 rfl rfl)
theorem ixT6 : ixR (.tup (d0 :: d1 :: d2 :: d3 :: d4 :: d5 :: d6 :: l)) (.int 6) S Q = Q d6 S := ixT (atIk 6 rfl rfl)
theorem ixL (h : S a = some (.lst l)) (g : atI l i = some d) : ixR (.ref a) (.int i) S Q = Q d S := by simp only [ixR, h, g]
theorem ixD (h : S a = some (.dct kvs)) (hk : (keyD d).isSome = true) (g : dget kvs d = some d0) : ixR (.ref a) d S Q = Q d0 S := by
  cases d <;> simp only [ixR, h, g, keyOk, hk, true_and]
theorem setL {Q : Sto → Prop} {n : Nat} (h : S a = some (.lst l)) (e : i = (n : Int)) (hn : n < l.length) : setR (.ref a) (.int i) d S Q = Q (S.upd a (.lst (l.set n d))) := by
  have hi : ixN l.length i = some n := by
    unfold ixN
    rw [if_pos (by omega), if_pos (by omega)]
    congr 1
    omega
  simp only [setR, h, hi]
theorem setD {Q : Sto → Prop} (h : S a = some (.dct kvs)) (hk : (keyD d0).isSome = true) : setR (.ref a) d0 d S Q = (kvs.length < sizeLine ∧ Q (S.upd a (.dct (dput kvs d0 d)))) := by
  simp only [setR, h, keyOk, hk, true_and]
theorem slcT {lo hi : Option Int} : slcR (.tup l) lo hi S Q = Q (.tup (cutD l lo hi)) S := rfl
theorem lenT : bltR .len [.tup l] S Q = Q (.int l.length) S := rfl
theorem lenL (h : S a = some (.lst l)) : bltR .len [.ref a] S Q = Q (.int l.length) S := by simp only [bltR, h, bllR]
theorem absI : bltR .abs [.int i] S Q = Q (.int (if i < 0 then -i else i)) S := rfl
theorem intI : bltR .int [.int i] S Q = Q (.int i) S := rfl
theorem tupleT : bltR .tuple [.tup l] S Q = Q (.tup l) S := rfl
theorem tupleL (h : S a = some (.lst l)) : bltR .tuple [.ref a] S Q = Q (.tup l) S := by simp only [bltR, h, bllR]
theorem listT : bltR .list [.tup l] S Q = ∀ p, S p = none → Q (.ref p) (S.upd p (.lst l)) := rfl
theorem listRl : bltR .list [.rl l] S Q = ∀ p, S p = none → Q (.ref p) (S.upd p (.lst l)) := rfl
theorem listL (h : S a = some (.lst l)) : bltR .list [.ref a] S Q = ∀ p, S p = none → Q (.ref p) (S.upd p (.lst l)) := by simp only [bltR, h]
theorem dictT (h : asPairs l = some kvs) (hk : kvs.all (fun kv => (keyD kv.1).isSome) = true) : bltR .dict [.tup l] S Q = ∀ p, S p = none → Q (.ref p) (S.upd p (.dct (dmerge [] kvs))) := by simp only [bltR, h, hk, true_and]
theorem appL (h : S a = some (.lst l)) : mthR .append (.ref a) [d] S Q = (l.length < sizeLine ∧ Q .non (S.upd a (.lst (l ++ [d])))) := by simp only [mthR, h]
theorem extL (h : S a = some (.lst l)) (g : S b = some (.lst m)) : mthR .extend (.ref a) [.ref b] S Q = (l.length + m.length ≤ sizeLine ∧ Q .non (S.upd a (.lst (l ++ m)))) := by simp only [mthR, h, g]
theorem extT (h : S a = some (.lst l)) : mthR .extend (.ref a) [.tup m] S Q = (l.length + m.length ≤ sizeLine ∧ Q .non (S.upd a (.lst (l ++ m)))) := by simp only [mthR, h]
theorem getDt (h : S a = some (.dct kvs)) (hk : (keyD d).isSome = true) : mthR .get (.ref a) [d, d0] S Q = Q ((dget kvs d).getD d0) S := by simp only [mthR, h, keyOk, hk, true_and]
theorem mtyA (h : S a = some (.lst l)) : mtyR .append (.ref a) S = true := by simp only [mtyR, h]
theorem mtyE (h : S a = some (.lst l)) : mtyR .extend (.ref a) S = true := by simp only [mtyR, h]
theorem mtyG (h : S a = some (.dct kvs)) : mtyR .get (.ref a) S = true := by simp only [mtyR, h]
theorem itT {Q : KI} : itR (.tup l) S Q = Q l (fun _ => True) S := rfl
theorem itL {Q : KI} (h : S a = some (.lst l)) : itR (.ref a) S Q = Q l (fun S' => S' a = some (.lst l)) S := by simp only [itR, h]
theorem isi1 {t : Ty} {b : Bool} (h : isT t d S = some b) : (match [t].mapM (fun t => isT t d S) with | some bs => Q (.bl (bs.any id)) S | none => False) = Q (.bl b) S := by simp [h]
theorem isiT1 {t : Ty} {b : Bool} {Q : Bool → Sto → Prop} (h : isT t d S = some b) : (match [t].mapM (fun t => isT t d S) with | some bs => Q (bs.any id) S | none => False) = Q b S := by simp [h]
theorem mI_int {bb : Bool} : List.mapM (fun t => isT t (.int i) S) [Ty.int] = some [true] := rfl
theorem mI_bool {bb : Bool} : List.mapM (fun t => isT t (.int i) S) [Ty.bool] = some [false] := rfl
theorem mI_str {bb : Bool} : List.mapM (fun t => isT t (.int i) S) [Ty.str] = some [false] := rfl
theorem mI_tuple {bb : Bool} : List.mapM (fun t => isT t (.int i) S) [Ty.tuple] = some [false] := rfl
theorem mI_list {bb : Bool} : List.mapM (fun t => isT t (.int i) S) [Ty.list] = some [false] := rfl
theorem mB_int {bb : Bool} : List.mapM (fun t => isT t (.bl bb) S) [Ty.int] = some [true] := rfl
theorem mB_bool {bb : Bool} : List.mapM (fun t => isT t (.bl bb) S) [Ty.bool] = some [true] := rfl
theorem mB_str {bb : Bool} : List.mapM (fun t => isT t (.bl bb) S) [Ty.str] = some [false] := rfl
theorem mB_tuple {bb : Bool} : List.mapM (fun t => isT t (.bl bb) S) [Ty.tuple] = some [false] := rfl
theorem mB_list {bb : Bool} : List.mapM (fun t => isT t (.bl bb) S) [Ty.list] = some [false] := rfl
theorem mS_int {bb : Bool} : List.mapM (fun t => isT t (.str x) S) [Ty.int] = some [false] := rfl
theorem mS_bool {bb : Bool} : List.mapM (fun t => isT t (.str x) S) [Ty.bool] = some [false] := rfl
theorem mS_str {bb : Bool} : List.mapM (fun t => isT t (.str x) S) [Ty.str] = some [true] := rfl
theorem mS_tuple {bb : Bool} : List.mapM (fun t => isT t (.str x) S) [Ty.tuple] = some [false] := rfl
theorem mS_list {bb : Bool} : List.mapM (fun t => isT t (.str x) S) [Ty.list] = some [false] := rfl
theorem mT_int {bb : Bool} : List.mapM (fun t => isT t (.tup l) S) [Ty.int] = some [false] := rfl
theorem mT_bool {bb : Bool} : List.mapM (fun t => isT t (.tup l) S) [Ty.bool] = some [false] := rfl
theorem mT_str {bb : Bool} : List.mapM (fun t => isT t (.tup l) S) [Ty.str] = some [false] := rfl
theorem mT_tuple {bb : Bool} : List.mapM (fun t => isT t (.tup l) S) [Ty.tuple] = some [true] := rfl
theorem mT_list {bb : Bool} : List.mapM (fun t => isT t (.tup l) S) [Ty.list] = some [false] := rfl
theorem mN_int {bb : Bool} : List.mapM (fun t => isT t .non S) [Ty.int] = some [false] := rfl
theorem mN_bool {bb : Bool} : List.mapM (fun t => isT t .non S) [Ty.bool] = some [false] := rfl
theorem mN_str {bb : Bool} : List.mapM (fun t => isT t .non S) [Ty.str] = some [false] := rfl
theorem mN_tuple {bb : Bool} : List.mapM (fun t => isT t .non S) [Ty.tuple] = some [false] := rfl
theorem mN_list {bb : Bool} : List.mapM (fun t => isT t .non S) [Ty.list] = some [false] := rfl
theorem anyT : [true].any id = true := rfl
theorem anyF : [false].any id = false := rfl
theorem ixS0 (h : S a = some (.lst (d0 :: l))) : ixR (.ref a) (.int 0) S Q = Q d0 S := ixL h (atIk 0 rfl rfl)
theorem ixS1 (h : S a = some (.lst (d0 :: d1 :: l))) : ixR (.ref a) (.int 1) S Q = Q d1 S := ixL h (atIk 1 rfl rfl)
theorem ixS2 (h : S a = some (.lst (d0 :: d1 :: d2 :: l))) : ixR (.ref a) (.int 2) S Q = Q d2 S := ixL h (atIk 2 rfl rfl)
theorem ixS3 (h : S a = some (.lst (d0 :: d1 :: d2 :: d3 :: l))) : ixR (.ref a) (.int 3) S Q = Q d3 S := ixL h (atIk 3 rfl rfl)
theorem ixU0 : ixR (.ref a) (.int 0) (S.upd a (.lst (d0 :: l))) Q = Q d0 (S.upd a (.lst (d0 :: l))) := ixS0 Sto.upd_same
theorem ixU1 : ixR (.ref a) (.int 1) (S.upd a (.lst (d0 :: d1 :: l))) Q = Q d1 (S.upd a (.lst (d0 :: d1 :: l))) := ixS1 Sto.upd_same
theorem ixU2 : ixR (.ref a) (.int 2) (S.upd a (.lst (d0 :: d1 :: d2 :: l))) Q = Q d2 (S.upd a (.lst (d0 :: d1 :: d2 :: l))) := ixS2 Sto.upd_same
theorem ixU3 : ixR (.ref a) (.int 3) (S.upd a (.lst (d0 :: d1 :: d2 :: d3 :: l))) Q = Q d3 (S.upd a (.lst (d0 :: d1 :: d2 :: d3 :: l))) := ixS3 Sto.upd_same
theorem setS3 {Q : Sto → Prop} (h : S a = some (.lst (d0 :: d1 :: d2 :: d3 :: l))) : setR (.ref a) (.int 3) d S Q = Q (S.upd a (.lst (d0 :: d1 :: d2 :: d :: l))) := setL h (n := 3) rfl (by simp)
theorem setU1 {Q : Sto → Prop} : setR (.ref a) (.int 1) d (S.upd a (.lst (d0 :: d1 :: l))) Q = Q (S.upd a (.lst (d0 :: d :: l))) := (setL Sto.upd_same (i := 1) (n := 1) rfl (by simp)).trans (by rw [Sto.upd_upd]; rfl)
theorem setU2 {Q : Sto → Prop} : setR (.ref a) (.int 2) d (S.upd a (.lst (d0 :: d1 :: d2 :: l))) Q = Q (S.upd a (.lst (d0 :: d1 :: d :: l))) := (setL Sto.upd_same (i := 2) (n := 2) rfl (by simp)).trans (by rw [Sto.upd_upd]; rfl)
theorem lenU {c : Cell} (hap : a ≠ b) (h : S b = some (.lst l)) : bltR .len [.ref b] (S.upd a c) Q = Q (.int l.length) (S.upd a c) := lenL (by rw [Sto.upd_ne (Ne.symm hap)]; exact h)
theorem ixU {c : Cell} (hap : a ≠ b) (h : S b = some (.lst l)) (g : atI l i = some d) : ixR (.ref b) (.int i) (S.upd a c) Q = Q d (S.upd a c) := ixL (by rw [Sto.upd_ne (Ne.symm hap)]; exact h) g
end
end Mi
namespace Mi
open PySem PySem.Spec PyProof.Rows L2 NdefX
structure InD where
  cls : Str
  name : Str
  qual : Str
  params : Arguments
  body : List PySem.Stmt
  scope : Scope
abbrev InW : Type := Option (Str × Str × Arguments × FuncBody × Scope × Addr × Addr)
def iAd (K : PySem.W.Frag) (x : Str) : Addr := He.ma K (gAd K x) "__init__"
def inW (K : PySem.W.Frag) (x : Str) : InW := match K.lookup (iAd K x) with
  | some ⟨_, _, .func fd, _⟩ => some (fd.name, fd.qualname, fd.params, fd.body, fd.scope, fd.globals, fd.builtins)
  | _ => none
def InD.val (d : InD) : InW := some (d.name, d.qual, d.params, .stmts d.body, d.scope, mainGlobals, builtinsNs)
def InD.nf (d : InD) (cl : List (Str × Addr)) (c : Addr) : NF := ⟨d.name, d.qual, d.params, d.body, d.scope, cl, c⟩
def oexB (K : PySem.W.Frag) (C : Addr) : Bool := (match K.lookup C with
    | some ⟨.type t, _, .cls cd, sl⟩ => (match cd.mro, sl.toList with
      | .ref C' :: bm, [_, _, _, _, some (.builtin n), _] => decide (t = "type") && decide (C' = C) && decide (n = "ValueError.__new__") && !cd.hasDel && cd.hasDict && PySem.HandSPX.refsVE bm
      | _, _ => false)
    | _ => false) && He.eqO (PySem.W.findIn K (.ref C) "__setattr__") (some (some (.builtin "object.__setattr__"))) && decide (PySem.W.subIn K (.ref C) (.type "BaseException") = some true) && decide (PySem.W.typeIn K (.ref C) = some (.type "type")) && PySem.W.keepIn K (.ref C)
theorem oexB_ok {K : PySem.W.Frag} {C : Addr} (h : oexB K C = true) : OexC K C := by
  unfold oexB at h
  simp only [Bool.and_eq_true, decide_eq_true_eq] at h
  obtain ⟨⟨⟨⟨h1, h2⟩, h3⟩, h4⟩, h5⟩ := h
  refine ⟨?_, He.eqO_ok h2, h3, h4, h5⟩
  split at h1
  case h_1 t dd cd sl ho =>
    split at h1
    case h_1 C' bm k0 k1 k2 k3 n k5 hm hs =>
      simp only [Bool.and_eq_true, decide_eq_true_eq, Bool.not_eq_true'] at h1
      obtain ⟨⟨⟨⟨⟨rfl, rfl⟩, rfl⟩, hdel⟩, hdc⟩, hv⟩ := h1
      obtain ⟨nm, bs, mro, ns, qn, hd, sn, sub, ab, col, del⟩ := cd
      dsimp only at hm hdel hdc
      subst hm hdel hdc
      have hsl : sl = #[k0, k1, k2, k3, some (.builtin "ValueError.__new__"), k5] := by
        obtain ⟨l⟩ := sl
        simp only at hs
        rw [hs]
      subst hsl
      exact ⟨nm, qn, ns, bs, bm, sn, sub, ab, col, dd, k0, k1, k2, k3, k5, ho, hv⟩
    case h_2 => cases h1
  case h_2 => cases h1
def fileB (K : PySem.W.Frag) (file : Str) (c : Addr) : Bool := match K.lookup c with
  | some ⟨_, _, .fields vs, _⟩ => (match (vs[2]? : Option Value) with
    | some (.str f _) => file == f
    | _ => false)
  | _ => false
def cellB (K : PySem.W.Frag) (C cc : Addr) : Bool := match K.lookup cc with
  | some ⟨_, _, .cell (some (.ref C')), _⟩ => decide (C' = C)
  | _ => false
def noneB : Value → Bool
  | .none => true
  | _ => false
def fnB (K : PySem.W.Frag) (file : Str) (C f : Addr) (qual : Str) : Bool := match K.lookup f with
  | some ⟨_, _, .func fd, _⟩ => (match fd.closure, fd.code with
    | [(n, cc)], .ref c => decide (n = ("__class__" : Str)) && cellB K C cc && noneB fd.defaults && noneB fd.kwdefaults && fd.annotations.isNone && PySem.W.codeIn K (.ref c) qual && fileB K file c
    | _, _ => false)
  | _ => false
def nfB (K : PySem.W.Frag) (file : Str) (d : InD) : Bool :=
  He.eqO (PySem.W.nsIn K mainGlobals d.cls) (some (some (.ref (gAd K d.cls)))) && oexB K (gAd K d.cls) && He.eqO (PySem.W.findIn K (.ref (gAd K d.cls)) "word") (some none) && He.eqO (PySem.W.findIn K (.ref (gAd K d.cls)) "__init__") (some (some (.ref (iAd K d.cls)))) &&
  decide (PySem.W.typeIn K (.ref (iAd K d.cls)) = some (.type "function")) && fnB K file (gAd K d.cls) (iAd K d.cls) d.qual && He.eqO (PySem.W.nsIn K PySem.cStatics "thirdparty.any") (some none) && He.eqO (PySem.W.ks_superIn K (gAd K d.cls) (gAd K d.cls) "__init__") (some (some (.builtin "ValueError.__init__"))) &&
  decide (PySem.W.subIn K (.ref (gAd K d.cls)) (.type "ValueError") = some true) && decide (PySem.W.mroIn K (gAd K d.cls) (.ref (gAd K d.cls)) = some true) && He.eqO (PySem.W.nsIn K mainGlobals "super") (some none)
structure InS (P : Program) (d : InD) : Prop where
  S : NScope ["self", "word", "__class__"] ["self", "word"] ["__class__"] d.scope
  sup : d.scope.names.lookup ("super" : Str) = some .globalImplicit
  htop : (P.main.scope.names.lookup ("super" : Str)).isSome = false
  body : ∃ (q1 q2 q3 q4 p0 p1 p2 p3 p4 p5 q5 q6 q7 : Pos) (j : Nat) (m : Str), d.body = [.Assign [.Attribute (.Name "self" q1) "word" q2] (.Name "word" q3) q4,
    .Expr (.Call (.Attribute (.Call (.Name "super" p0) [] [] p1) "__init__" p2) [.JoinedStr [.Constant (.str m) j q5, .FormattedValue (.Name "word" q6) (-1) none q7] p3] [] p4) p5] ∧ m.length ≤ 1000 ∧ ∃ pl : Sem Bool, ∀ env : Env, eval (.Call (.Attribute (.Call (.Name "super" p0) [] [] p1) "__init__" p2) [.JoinedStr [.Constant (.str m) j q5, .FormattedValue (.Name "word" q6) (-1) none q7] p3] [] p4) env = (do
      let ov ← attributeBase (.Call (.Name "super" p0) [] [] p1) "__init__" env (eval (.Call (.Name "super" p0) [] [] p1) env)
      standAt p2.atName
      let (f, first) ← holding [ov] (getMethod ov "__init__" pl)
      callWith p4 f first (backTo p4 (starEach [.JoinedStr [.Constant (.str m) j q5, .FormattedValue (.Name "word" q6) (-1) none q7] p3] env)) [])
  par : ∃ ar, (d.params.posonlyargs ++ d.params.args).head? = some ar ∧ ar.arg = ("self" : Str)
  bnd : ∀ (cl : List (Str × Addr)) (c : Addr) (doc pm ctv : Value) (us : List Value), us.length = 2 → bindArgs ((d.nf cl c).fd doc pm ctv) ⟨us, []⟩ = pure ((["self", "word"] : List Str).zip us)
theorem noneB_ok {v : Value} (h : noneB v = true) : v = .none := by cases v <;> first | rfl | cases h
theorem excF_of {P : Program} {K : PySem.W.Frag} {h : Heap} {mg : Str → Option Value} {d : InD} (X : K.In h) (G : h.Ns mainGlobals mg) (S : InS P d) (e : inW K d.cls = d.val) (b : nfB K P.main.file d = true) : ExcF P K mg d.cls := by
  unfold nfB at b
  simp only [Bool.and_eq_true, decide_eq_true_eq] at b
  obtain ⟨⟨⟨⟨⟨⟨⟨⟨⟨⟨b1, b2⟩, b3⟩, b4⟩, b5⟩, b6⟩, b7⟩, b8⟩, b9⟩, b10⟩, b11⟩ := b
  refine ⟨PySem.W.mg_of X G (He.eqO_ok b1), iAd K d.cls, ?_⟩
  unfold fnB at b6
  unfold inW at e
  split at b6
  case h_1 oc od fd osl lk =>
    rw [lk] at e
    obtain ⟨n1, n2, n3, n4, n5, n6, n7, n8, n9, n10, n11, n12, n13, n14, n15⟩ := fd
    have e2 : (some (n1, n2, n3, n4, n5, n6, n15) : InW) = some (d.name, d.qual, d.params, .stmts d.body, d.scope, mainGlobals, builtinsNs) := e
    simp only [Option.some.injEq, Prod.mk.injEq] at e2
    obtain ⟨h1, h2, h3, h4, h5, h6, h8⟩ := e2
    subst h1 h2 h3 h4 h5 h6 h8
    dsimp only at b6
    split at b6
    case h_1 _ _ n cc c =>
      simp only [Bool.and_eq_true, decide_eq_true_eq] at b6
      obtain ⟨⟨⟨⟨⟨⟨c1, c2⟩, c3⟩, c4⟩, c5⟩, c6⟩, c7⟩ := b6
      subst c1
      obtain rfl := noneB_ok c3
      obtain rfl := noneB_ok c4
      obtain rfl := Option.isNone_iff_eq_none.mp c5
      refine ⟨d.nf [("__class__", cc)] c, ⟨oexB_ok b2, He.eqO_ok b3, ⟨oc, od, n10, n11, n14, osl, lk⟩, c6, ⟨cc, ?_⟩, ?_, S.S, S.sup, S.htop, PySem.W.mg_none_of X G (He.eqO_ok b11), He.eqO_ok b7, He.eqO_ok b8, b9, b10, S.body, S.par, S.bnd _ _⟩, He.eqO_ok b4, b5⟩
      · unfold cellB at c2
        split at c2
        case h_1 ccl ccd C' ccs lkc =>
          rw [decide_eq_true_eq] at c2
          subst c2
          exact ⟨ccl, ccd, ccs, rfl, lkc⟩
        case h_2 => cases c2
      · unfold fileB at c7
        split at c7
        case h_1 vcl vcd vs vcs lkv =>
          split at c7
          case h_1 f tf hf => exact ⟨vcl, vcd, vs, vcs, f, tf, lkv, hf, c7⟩
          case h_2 => cases c7
        case h_2 => cases c7
    case h_2 => cases b6
  case h_2 => cases b6
def excB (K : PySem.W.Frag) (D : Addr) : Bool := He.eqO (PySem.W.findIn K (.ref D) "__getattribute__") (some (some (.builtin "BaseException.__getattribute__"))) && He.eqO (PySem.W.findIn K (.ref D) "__getattr__") (some none) && decide (PySem.W.subIn K (.ref D) (.type "BaseException") = some true) &&
  PySem.W.hasDictIn K D && He.eqO (PySem.W.findIn K (.ref D) "__class__") (some (some (.builtin "object.__class__"))) && He.eqO (PySem.W.specialIn K (.builtin "object.__class__") "__get__") (some (some (.builtin "getset_descriptor.__get__"))) &&
  decide (PySem.W.takesIn K (.builtin "object.__class__") = some true) && decide (PySem.W.mroIn K D (.type "object") = some true)
theorem excB_ok {K : PySem.W.Frag} {D : Addr} (h : excB K D = true) : ExcC K D := by
  unfold excB at h
  simp only [Bool.and_eq_true, decide_eq_true_eq] at h
  obtain ⟨⟨⟨⟨⟨⟨⟨h1, h2⟩, h3⟩, h4⟩, h5⟩, h6⟩, h7⟩, h8⟩ := h
  exact ⟨He.eqO_ok h1, He.eqO_ok h2, h3, h4, He.eqO_ok h5, He.eqO_ok h6, h7, h8⟩
def kxB (K : PySem.W.Frag) (x : Str) (b : Bool) (cv : Value) : Bool := decide (PySem.W.exmOne K (.ref (gAd K x)) cv = some b) && decide (PySem.W.kitOne K (.ref (gAd K x)) cv = some b)
def subB (K : PySem.W.Frag) (y : Str × Str × Bool) : Bool := (match PySem.W.nsIn K mainGlobals y.2.1 with
  | some (some (.ref a)) => kxB K y.1 y.2.2 (.ref a)
  | some none => (match bootBuiltins y.2.1 with
    | some (.type T) => kxB K y.1 y.2.2 (.type T)
    | _ => false)
  | _ => false) && excB K (gAd K y.1) && xfB K (gAd K y.1) && He.eqO (PySem.W.findIn K (.ref (gAd K y.1)) "word") (some none)
theorem subF_of {K : PySem.W.Frag} {h : Heap} {mg : Str → Option Value} {x c : Str} {b : Bool} (X : K.In h) (G : h.Ns mainGlobals mg) (s : subB K (x, c, b) = true) : SubF K mg x c b := by
  unfold subB at s
  simp only [Bool.and_eq_true] at s
  obtain ⟨⟨⟨s1, s2⟩, s3⟩, s4⟩ := s
  have sc : SubC K (gAd K x) := ⟨excB_ok s2, xfB_ok s3, He.eqO_ok s4⟩
  split at s1
  case h_1 a hn =>
    have hm := PySem.W.mg_of X G hn
    have e : cvOf mg c = .ref a := by unfold cvOf; rw [hm]
    unfold kxB at s1
    simp only [Bool.and_eq_true, decide_eq_true_eq] at s1
    exact ⟨.inl (by rw [e]; exact hm), ⟨.ref a, by rw [e]; rfl, fun u q => by rw [e]; exact q⟩, by rw [e]; exact s1.1, by rw [e]; exact s1.2, sc⟩
  case h_2 hn =>
    split at s1
    case h_1 T hT =>
      have hm := PySem.W.mg_none_of X G hn
      have e : cvOf mg c = .type T := by unfold cvOf; rw [hm]; show (bootBuiltins c).getD .none = _; rw [hT]; rfl
      unfold kxB at s1
      simp only [Bool.and_eq_true, decide_eq_true_eq] at s1
      exact ⟨.inr ⟨hm, by rw [e]; exact hT⟩, ⟨.ty T, by rw [e]; rfl, fun u q => by rw [e]; exact q⟩, by rw [e]; exact s1.1, by rw [e]; exact s1.2, sc⟩
    case h_2 => cases s1
  case h_3 => cases s1
def gB (K : PySem.W.Frag) : Nat → D → Value → Bool
  | n + 1, .tup l, .ref a => (match K.lookup a with
    | some ⟨.type c, none, .seq its _, _⟩ => decide (c = "tuple") && decide (its.size ≤ sizeLine) && (decide (l.length = its.toList.length) && (l.zip its.toList).all fun p => gB K n p.1 p.2)
    | _ => false)
  | _, .int i, .int j _ => decide (j = i)
  | _, .str x, .str y _ => decide (y = x) && PyData.strOk x
  | _, .bl b, .bool c => decide (c = b)
  | _, .non, .none => true
  | _, _, _ => false
theorem gB_ok {K : PySem.W.Frag} : ∀ (n : Nat) (d : D) (u : Value), gB K n d u = true → ∃ v, RelV v u ∧ ∀ H, RD K H d v := by
  have base : ∀ (d : D) (u : Value), (∀ l a, ¬(d = .tup l ∧ u = .ref a)) → ∀ n, gB K n d u = true → ∃ v, RelV v u ∧ ∀ H, RD K H d v := by
    intro d u hn n h
    cases d <;> cases u <;> cases n <;> first | (cases h; done) | (exact absurd ⟨rfl, rfl⟩ (hn _ _)) | skip
    all_goals first
      | (rename_i i j t; exact ⟨.int i, ⟨t, by have := of_decide_eq_true h; rw [this]⟩, fun H => .int⟩)
      | (rename_i i j t n; exact ⟨.int i, ⟨t, by have := of_decide_eq_true h; rw [this]⟩, fun H => .int⟩)
      | (rename_i x y t; simp only [gB, Bool.and_eq_true, decide_eq_true_eq] at h; exact ⟨.str x, ⟨t, by rw [h.1]⟩, fun H => .str h.2⟩)
      | (rename_i x y t n; simp only [gB, Bool.and_eq_true, decide_eq_true_eq] at h; exact ⟨.str x, ⟨t, by rw [h.1]⟩, fun H => .str h.2⟩)
      | (rename_i b c; exact ⟨.bl b, by have := of_decide_eq_true h; rw [this]; rfl, fun H => .bl⟩)
      | (rename_i b c n; exact ⟨.bl b, by have := of_decide_eq_true h; rw [this]; rfl, fun H => .bl⟩)
      | exact ⟨.non, rfl, fun H => .non⟩
  intro n
  induction n with
  | zero =>
    intro d u h
    refine base d u (fun l a e => ?_) 0 h
    rw [e.1, e.2] at h
    cases h
  | succ n ih =>
    intro d u h
    by_cases hn : ∃ l a, d = .tup l ∧ u = .ref a
    · obtain ⟨l, a, rfl, rfl⟩ := hn
      unfold gB at h
      split at h
      case h_1 c its m sl lk =>
        simp only [Bool.and_eq_true, decide_eq_true_eq, List.all_eq_true] at h
        obtain ⟨⟨h1, h2⟩, h3, h4⟩ := h
        subst h1
        have key : ∀ (l : List D) (us : List Value), l.length = us.length → (∀ p ∈ l.zip us, gB K n p.1 p.2 = true) → ∃ vs, Vals vs us ∧ ∀ H, RDs K H l vs := by
          intro l
          induction l with
          | nil =>
            intro us e _
            cases us with
            | nil => exact ⟨[], .nil, fun H => .nil⟩
            | cons _ _ => cases e
          | cons d l ihl =>
            intro us e hp
            cases us with
            | nil => cases e
            | cons u us =>
              obtain ⟨v, r1, r2⟩ := ih d u (hp (d, u) (by simp))
              obtain ⟨vs, q1, q2⟩ := ihl us (Nat.succ.inj e) fun p hp' => hp p (by rw [List.zip_cons_cons]; exact List.mem_cons_of_mem _ hp')
              exact ⟨v :: vs, .cons r1 q1, fun H => .cons (r2 H) (q2 H)⟩
        obtain ⟨vs, q1, q2⟩ := key l its.toList h3 h4
        exact ⟨.ref a, rfl, fun H => .tup (.inr ⟨_, its, m, lk, rfl, rfl, rfl, h2, q1⟩) (q2 H)⟩
      case h_2 => cases h
    · exact base d u (fun l a e => hn ⟨l, a, e⟩) (n + 1) h
theorem look_mem {x : Str} {d : D} : ∀ {l : List (Str × D)}, l.lookup x = some d → (x, d) ∈ l
  | [], h => by cases h
  | (y, e) :: l, h => by
    rw [List.lookup_cons] at h
    cases c : x == y with
    | true =>
      rw [c] at h
      cases h
      rw [eq_of_beq c]
      exact List.mem_cons_self
    | false =>
      rw [c] at h
      exact List.mem_cons_of_mem _ (look_mem h)
def mfV (x : Str) : Value := match mfOf x with
  | some b => blV b
  | none => .none
abbrev AlE : Type := He.AlD × (Bool × List InW)
def exB (file : Str) (ins : List InD) (sub : List (Str × Str × Bool)) (mf : List Str) (gl : List (Str × D)) (K : PySem.W.Frag) : Bool := (ins.all fun d => nfB K file d) && (sub.all fun y => subB K y) && (gl.all fun p => (match PySem.W.nsIn K mainGlobals p.1 with | some (some u) => gB K 20 p.2 u | _ => false)) && (mf.all fun x => He.eqO (PySem.W.nsIn K mainGlobals x) (some (some (mfV x))))
def obsE (fa : List He.Fa) (fn : List He.DefD) (file : Str) (ins : List InD) (sub : List (Str × Str × Bool)) (mf : List Str) (gl : List (Str × D)) (K : PySem.W.Frag) : AlE := (He.obsD fa fn K, (exB file ins sub mf gl K, ins.map fun d => inW K d.cls))
def valE (fn : List He.DefD) (ins : List InD) : AlE := (He.valD fn, (true, ins.map InD.val))
def SaysE (fa : List He.Fa) (fn : List He.DefD) (file : Str) (ins : List InD) (sub : List (Str × Str × Bool)) (mf : List Str) (gl : List (Str × D)) (K : PySem.W.Frag) : Prop := obsE fa fn file ins sub mf gl K = valE fn ins
def obsEG (n : Nat) (fa : List He.Fa) (fn : List He.DefD) (file : Str) (ins : List InD) (sub : List (Str × Str × Bool)) (mf : List Str) (gl : List (Str × D)) (g : Addr → Option Obj) : AlE := obsE fa fn file ins sub mf gl (He.frG g (PySem.cStatics :: He.asD g n))
def hookE (n : Nat) (fa : List He.Fa) (fn : List He.DefD) (file : Str) (ins : List InD) (sub : List (Str × Str × Bool)) (mf : List Str) (gl : List (Str × D)) : PySem.W.Hook where
  α := AlE
  obs := fun s => obsEG n fa fn file ins sub mf gl s.heap.get?
  val := fun _ => valE fn ins
  says := fun _ h => ∃ K : PySem.W.Frag, K.In h ∧ SaysE fa fn file ins sub mf gl K
  of := fun _ _ e => ⟨_, He.frG_in, e⟩
  keeps := fun _ _ _ ⟨K, hK, c⟩ k => ⟨K, PySem.W.Frag.In.keeps hK k, c⟩
theorem obsEG_eq {n : Nat} {fa : List He.Fa} {fn : List He.DefD} {file : Str} {ins : List InD} {sub : List (Str × Str × Bool)} {mf : List Str} {gl : List (Str × D)} {g : Addr → Option Obj} {s : Shared} (h : ∀ a, g a = s.heap.get? a) : obsEG n fa fn file ins sub mf gl g = (hookE n fa fn file ins sub mf gl).obs s := by
  have e : g = s.heap.get? := funext h
  rw [e] <;> rfl
section
variable {fa : List He.Fa} {fn : List He.DefD} {file : Str} {ins : List InD} {sub : List (Str × Str × Bool)} {mf : List Str} {gl : List (Str × D)} {K : PySem.W.Frag}
theorem SaysE.d (c : SaysE fa fn file ins sub mf gl K) : He.SaysD fa fn K := congrArg (fun z : AlE => z.1) c
theorem SaysE.sub_ (c : SaysE fa fn file ins sub mf gl K) {y : Str × Str × Bool} (h : y ∈ sub) : subB K y = true := by
  have c1 : exB file ins sub mf gl K = true := congrArg (fun z : AlE => z.2.1) c
  unfold exB at c1
  rw [Bool.and_eq_true, Bool.and_eq_true, Bool.and_eq_true] at c1
  exact List.all_eq_true.mp c1.1.1.2 _ h
theorem SaysE.glb (c : SaysE fa fn file ins sub mf gl K) {h : Heap} {mg : Str → Option Value} (X : K.In h) (G : h.Ns mainGlobals mg) {x : Str} {d : D} (hx : gl.lookup x = some d) : ∃ v u, mg x = some u ∧ RelV v u ∧ ∀ H, RD K H d v := by
  have c1 : exB file ins sub mf gl K = true := congrArg (fun z : AlE => z.2.1) c
  unfold exB at c1
  rw [Bool.and_eq_true, Bool.and_eq_true, Bool.and_eq_true] at c1
  have c2 := List.all_eq_true.mp c1.1.2 _ (look_mem hx)
  dsimp only at c2
  split at c2
  case h_1 u hu =>
    obtain ⟨v, r1, r2⟩ := gB_ok _ _ _ c2
    exact ⟨v, u, PySem.W.mg_of X G hu, r1, r2⟩
  case h_2 => cases c2
theorem SaysE.mfn (c : SaysE fa fn file ins sub mf gl K) {h : Heap} {mg : Str → Option Value} (X : K.In h) (G : h.Ns mainGlobals mg) (x : Str) (b : Bl) (hx : mf.contains x = true) (hb : mfOf x = some b) : mg x = some (blV b) := by
  have c1 : exB file ins sub mf gl K = true := congrArg (fun z : AlE => z.2.1) c
  unfold exB at c1
  rw [Bool.and_eq_true] at c1
  have hm : x ∈ mf := by simpa using hx
  have c2 := List.all_eq_true.mp c1.2 x hm
  have e : mfV x = blV b := by unfold mfV; rw [hb]
  rw [e] at c2
  exact PySem.W.mg_of X G (He.eqO_ok c2)
theorem SaysE.ins_ (c : SaysE fa fn file ins sub mf gl K) {d : InD} (h : d ∈ ins) : inW K d.cls = d.val ∧ nfB K file d = true := by
  have c1 : exB file ins sub mf gl K = true := congrArg (fun z : AlE => z.2.1) c
  unfold exB at c1
  rw [Bool.and_eq_true, Bool.and_eq_true, Bool.and_eq_true] at c1
  have c2 : (ins.map fun d => inW K d.cls) = ins.map InD.val := congrArg (fun z : AlE => z.2.2) c
  refine ⟨?_, List.all_eq_true.mp c1.1.1.1 _ h⟩
  exact List.map_inj_left.mp c2 d h
end
end Mi
set_option maxHeartbeats 0
namespace K50
open PySem PySem.Spec PyProof.Rows L2 Mi
def top (i : Nat) : Stmt := PySem.Challenge.pw_castbypowers_k50_digits_and_least_trees.main.body.getD i (.Pass ⟨0, 0, 0, 0⟩)
def Tm : Mi.Tb := ⟨[("fraction" : Str), ("plus" : Str), ("over" : Str), ("digits" : Str), ("span" : Str), ("levels" : Str), ("least_tree" : Str), ("least_mean" : Str), ("_law_start" : Str), ("_law_draw" : Str), ("_law_one_of" : Str), ("_law_is_int" : Str), ("_law_same" : Str), ("_law_gcd" : Str), ("_law_fraction" : Str), ("_law_plus" : Str), ("_law_times" : Str), ("_law_over" : Str), ("_law_power" : Str), ("_law_digits" : Str), ("_law_binary" : Str), ("_law_span" : Str), ("_law_mean_of" : Str), ("_law_tree_mean" : Str), ("_law_told_digits" : Str), ("_law_told_tree" : Str), ("_law_told_mean" : Str), ("_law_digits_fit" : Str), ("_law_levels" : Str), ("_law_due_tree" : Str), ("_law_tree_fits" : Str), ("_law_some_table_of" : Str), ("law" : Str)], [("MOST_DIGITS" : Str)], [("abs" : Str), ("all" : Str), ("bool" : Str), ("enumerate" : Str), ("int" : Str), ("isinstance" : Str), ("len" : Str), ("list" : Str), ("max" : Str), ("range" : Str), ("str" : Str), ("sum" : Str), ("tuple" : Str)], [("gcd" : Str), ("lcm" : Str)], [("NotFit" : Str)], [("NotFit", "NotFit", true), ("NotFit", "CastError", true)], false, [("digits" : Str)]⟩
def TmC : Mi.Tb := ⟨K50.Tm.cln, K50.Tm.glob, K50.Tm.free, K50.Tm.mfn, K50.Tm.exc, K50.Tm.sub, true, []⟩
def b_fraction : Ss := (.cons (.ite (.cmp .lt (.var 1) (.lit (.int (0)))) (.cons (.set 0 (.neg (.var 0))) (.cons (.set 1 (.neg (.var 1))) .nil)) .nil) (.cons (.set 2 (.blt .gcd (.cons (.var 0) (.cons (.var 1) .nil)))) (.cons (.ret (.tup (.cons (.op .fdiv (.var 0) (.var 2)) (.cons (.op .fdiv (.var 1) (.var 2)) .nil)))) .nil)))
def b_plus : Ss := (.cons (.ite (.and (.cmp .eq (.ix (.var 0) (.lit (.int (1)))) (.lit (.int (1)))) (.cmp .eq (.ix (.var 1) (.lit (.int (1)))) (.lit (.int (1))))) (.cons (.ret (.tup (.cons (.op .add (.ix (.var 0) (.lit (.int (0)))) (.ix (.var 1) (.lit (.int (0))))) (.cons (.lit (.int (1))) .nil)))) .nil) .nil) (.cons (.ret (.call "fraction" (.cons (.op .add (.op .mul (.ix (.var 0) (.lit (.int (0)))) (.ix (.var 1) (.lit (.int (1))))) (.op .mul (.ix (.var 1) (.lit (.int (0)))) (.ix (.var 0) (.lit (.int (1)))))) (.cons (.op .mul (.ix (.var 0) (.lit (.int (1)))) (.ix (.var 1) (.lit (.int (1))))) .nil)))) .nil))
def b_over : Ss := (.cons (.ite (.cmp .eq (.ix (.var 1) (.lit (.int (0)))) (.lit (.int (0)))) (.cons (.raise "NotFit" (.lit (.str "nought"))) .nil) .nil) (.cons (.ret (.call "fraction" (.cons (.op .mul (.ix (.var 0) (.lit (.int (0)))) (.ix (.var 1) (.lit (.int (1))))) (.cons (.op .mul (.ix (.var 0) (.lit (.int (1)))) (.ix (.var 1) (.lit (.int (0))))) .nil)))) .nil))
def s_digits_1 : Ss := (.cons (.set 1 (.op .fdiv (.var 1) (.lit (.int (2))))) (.cons (.exp (.mth .append (.var 2) (.cons (.op .fdiv (.op .mul (.lit (.int (2))) (.var 6)) (.var 7)) .nil))) (.cons (.set 6 (.op .mod (.blt .int (.cons (.op .mul (.lit (.int (2))) (.var 6)) .nil)) (.var 7))) .nil)))
def e_digits_2 : E := (.cmp .eq (.op .mod (.var 1) (.lit (.int (2)))) (.lit (.int (0))))
def s_digits_3 : Ss := (.cons (.exp (.mth .append (.var 4) (.cons (.op .fdiv (.op .mul (.lit (.int (2))) (.var 6)) (.var 7)) .nil))) (.cons (.set 6 (.op .mod (.blt .int (.cons (.op .mul (.lit (.int (2))) (.var 6)) .nil)) (.var 7))) (.cons (.ite (.cmp .eq (.var 6) (.var 3)) (.cons (.ret (.tup (.cons (.blt .tuple (.cons (.var 2) .nil)) (.cons (.blt .tuple (.cons (.var 4) .nil)) .nil)))) .nil) .nil) .nil)))
def b_digits : Ss := (.cons (.asg (.tup (.cons (.nm 6) (.cons (.nm 7) .nil))) (.var 0)) (.cons (.set 1 (.var 7)) (.cons (.set 2 (.lst .nil)) (.cons (.whl e_digits_2 s_digits_1) (.cons (.ite (.cmp .gt (.blt .len (.cons (.var 2) .nil)) (.glob "MOST_DIGITS")) (.cons (.raise "NotFit" (.lit (.str "digits"))) .nil) .nil) (.cons (.ite (.cmp .eq (.var 1) (.lit (.int (1)))) (.cons (.ret (.tup (.cons (.blt .tuple (.cons (.var 2) .nil)) (.cons (.tup .nil) .nil)))) .nil) .nil) (.cons (.set 3 (.var 6)) (.cons (.set 4 (.lst .nil)) (.cons (.for (.nm 5) (.rng1 (.op .sub (.glob "MOST_DIGITS") (.blt .len (.cons (.var 2) .nil)))) s_digits_3) (.cons (.raise "NotFit" (.lit (.str "digits"))) .nil))))))))))
def s_span_1 : Ss := (.cons (.tryr (.tup (.cons (.nm 5) (.cons (.nm 6) .nil))) "digits" 4 [("NotFit", true)] "NotFit" "tree") (.cons (.set 1 (.blt .max (.cons (.var 1) (.cons (.blt .len (.cons (.var 5) .nil)) .nil)))) (.cons (.ite (.cmp .ne (.var 6) (.tup .nil)) (.cons (.set 2 (.blt .lcm (.cons (.var 2) (.cons (.blt .len (.cons (.var 6) .nil)) .nil)))) .nil) .nil) .nil)))
def b_span : Ss := (.cons (.set 1 (.lit (.int (0)))) (.cons (.set 2 (.lit (.int (1)))) (.cons (.for (.tup (.cons (.nm 3) (.cons (.nm 4) .nil))) (.of (.var 0)) s_span_1) (.cons (.ite (.cmp .gt (.op .add (.var 1) (.var 2)) (.glob "MOST_DIGITS")) (.cons (.raise "NotFit" (.lit (.str "tree"))) .nil) .nil) (.cons (.ret (.tup (.cons (.var 1) (.cons (.var 2) .nil)))) .nil)))))
def s_levels_1 : Ss := (.cons (.set 1 (.blt .lcm (.cons (.var 1) (.cons (.ix (.var 8) (.lit (.int (1)))) .nil)))) .nil)
def e_levels_2 : E := (.op .mul (.ix (.var 8) (.lit (.int (0)))) (.op .fdiv (.var 1) (.ix (.var 8) (.lit (.int (1))))))
def e_levels_3 : E := (.ix (.ix (.var 0) (.var 10)) (.lit (.int (0))))
def e_levels_4 : E := (.op .mod (.blt .int (.cons (.op .mul (.lit (.int (2))) (.var 11)) .nil)) (.var 1))
def s_levels_5 : Ss := (.cons (.set 9 (.comp none e_levels_3 (.nm 10) (.rng1 (.blt .len (.cons (.var 0) .nil))) (.some (.cmp .ge (.op .mul (.lit (.int (2))) (.ix (.var 2) (.var 10))) (.var 1))) [10])) (.cons (.exp (.mth .append (.var 3) (.cons (.tup (.cons (.op .fdiv (.blt .sum (.cons (.var 2) .nil)) (.var 1)) (.cons (.var 9) .nil))) .nil))) (.cons (.set 2 (.comp none e_levels_4 (.nm 11) (.of (.var 2)) .none [11])) .nil)))
def b_levels : Ss := (.cons (.asg (.tup (.cons (.nm 5) (.cons (.nm 6) .nil))) (.call "span" (.cons (.var 0) .nil))) (.cons (.set 1 (.lit (.int (1)))) (.cons (.for (.tup (.cons (.nm 7) (.cons (.nm 8) .nil))) (.of (.var 0)) s_levels_1) (.cons (.set 2 (.comp none e_levels_2 (.tup (.cons (.nm 7) (.cons (.nm 8) .nil))) (.of (.var 0)) .none [7, 8])) (.cons (.set 3 (.lst .nil)) (.cons (.for (.nm 4) (.rng1 (.op .add (.var 5) (.var 6))) s_levels_5) (.cons (.ret (.tup (.cons (.var 5) (.cons (.var 3) .nil)))) .nil)))))))
def s_least_tree_1 : Ss := (.cons (.exp (.mth .append (.var 1) (.cons (.op .add (.ix (.var 1) (.neg (.lit (.int (1))))) (.var 5)) .nil))) .nil)
def e_least_tree_2 : E := (.tup (.cons (.lit (.str "tell")) (.cons (.var 11) .nil)))
def e_least_tree_3 : E := (.tup (.cons (.lit (.str "node")) (.cons (.op .add (.ix (.var 1) (.var 8)) (.var 10)) .nil)))
def s_least_tree_4 : Ss := (.cons (.exp (.mth .append (.var 2) (.cons (.tup (.cons (.ix (.var 9) (.op .mul (.lit (.int (2))) (.var 10))) (.cons (.ix (.var 9) (.op .add (.op .mul (.lit (.int (2))) (.var 10)) (.lit (.int (1))))) .nil))) .nil))) .nil)
def s_least_tree_5 : Ss := (.cons (.set 8 (.ite (.cmp .lt (.op .add (.var 7) (.lit (.int (1)))) (.blt .len (.cons (.var 4) .nil))) (.op .add (.var 7) (.lit (.int (1)))) (.var 3))) (.cons (.set 9 (.comp none e_least_tree_2 (.nm 11) (.of (.var 6)) .none [11])) (.cons (.set 9 (.op .add (.var 9) (.comp none e_least_tree_3 (.nm 10) (.rng1 (.op .sub (.op .mul (.lit (.int (2))) (.var 5)) (.blt .len (.cons (.var 6) .nil)))) .none [10]))) (.cons (.for (.nm 10) (.rng1 (.var 5)) s_least_tree_4) .nil))))
def b_least_tree : Ss := (.cons (.asg (.tup (.cons (.nm 3) (.cons (.nm 4) .nil))) (.call "levels" (.cons (.var 0) .nil))) (.cons (.set 1 (.lst (.cons (.lit (.int (0))) .nil))) (.cons (.for (.tup (.cons (.nm 5) (.cons (.nm 6) .nil))) (.of (.var 4)) s_least_tree_1) (.cons (.set 2 (.lst .nil)) (.cons (.for (.tup (.cons (.nm 7) (.cons (.tup (.cons (.nm 5) (.cons (.nm 6) .nil))) .nil))) (.enum (.var 4)) s_least_tree_5) (.cons (.ret (.blt .tuple (.cons (.var 2) .nil))) .nil))))))
def s_least_mean_1 : Ss := (.cons (.ite (.cmp .lt (.var 8) (.var 6)) (.cons (.set 1 (.call "plus" (.cons (.var 1) (.cons (.call "fraction" (.cons (.var 9) (.cons (.var 3) .nil))) .nil)))) .nil) (.cons (.set 2 (.call "plus" (.cons (.var 2) (.cons (.call "fraction" (.cons (.var 9) (.cons (.var 3) .nil))) .nil)))) .nil)) (.cons (.set 3 (.op .mul (.lit (.int (2))) (.var 3))) .nil))
def s_least_mean_2 : Ss := (.cons (.set 4 (.op .mul (.lit (.int (2))) (.var 4))) .nil)
def b_least_mean : Ss := (.cons (.asg (.tup (.cons (.nm 6) (.cons (.nm 7) .nil))) (.call "levels" (.cons (.var 0) .nil))) (.cons (.set 1 (.tup (.cons (.lit (.int (0))) (.cons (.lit (.int (1))) .nil)))) (.cons (.set 2 (.tup (.cons (.lit (.int (0))) (.cons (.lit (.int (1))) .nil)))) (.cons (.set 3 (.lit (.int (1)))) (.cons (.for (.tup (.cons (.nm 8) (.cons (.tup (.cons (.nm 9) (.cons (.nm 10) .nil))) .nil))) (.enum (.var 7)) s_least_mean_1) (.cons (.set 4 (.lit (.int (1)))) (.cons (.for (.nm 5) (.rng1 (.op .sub (.blt .len (.cons (.var 7) .nil)) (.var 6))) s_least_mean_2) (.cons (.ret (.call "plus" (.cons (.var 1) (.cons (.call "over" (.cons (.var 2) (.cons (.call "fraction" (.cons (.op .sub (.var 4) (.lit (.int (1)))) (.cons (.var 4) .nil))) .nil))) .nil)))) .nil))))))))
def b__law_start : Ss := (.cons (.ret (.lst (.cons (.blt .list (.cons (.var 0) .nil)) (.cons (.lit (.int (0))) (.cons (.lit (.int (0))) (.cons (.lit (.int (0))) .nil)))))) .nil)
def b__law_draw : Ss := (.cons (.sub (.var 0) (.lit (.int (3))) (.op .add (.ix (.var 0) (.lit (.int (3)))) (.lit (.int (1))))) (.cons (.ite (.cmp .gt (.ix (.var 0) (.lit (.int (2)))) (.lit (.int (0)))) (.cons (.set 4 (.op .mod (.blt .int (.cons (.ix (.var 0) (.lit (.int (2)))) .nil)) (.var 1))) (.cons (.sub (.var 0) (.lit (.int (2))) (.op .fdiv (.ix (.var 0) (.lit (.int (2)))) (.var 1))) (.cons (.ret (.var 4)) .nil))) .nil) (.cons (.set 2 (.lit (.int (0)))) (.cons (.ite (.cmp .gt (.blt .len (.cons (.ix (.var 0) (.lit (.int (0)))) .nil)) (.lit (.int (0)))) (.cons (.set 2 (.blt .abs (.cons (.ix (.ix (.var 0) (.lit (.int (0)))) (.op .mod (.blt .int (.cons (.ix (.var 0) (.lit (.int (1)))) .nil)) (.blt .len (.cons (.ix (.var 0) (.lit (.int (0)))) .nil)))) .nil))) .nil) .nil) (.cons (.sub (.var 0) (.lit (.int (1))) (.op .add (.ix (.var 0) (.lit (.int (1)))) (.lit (.int (1))))) (.cons (.ite (.cmp .ge (.var 2) (.op .pow (.lit (.int (10))) (.lit (.int (18))))) (.cons (.sub (.var 0) (.lit (.int (2))) (.op .fdiv (.var 2) (.var 1))) (.cons (.ret (.op .mod (.blt .int (.cons (.var 2) .nil)) (.var 1))) .nil)) .nil) (.cons (.set 3 (.op .mod (.blt .int (.cons (.op .add (.op .mul (.op .add (.var 2) (.lit (.int (1)))) (.lit (.int (48271)))) (.op .mul (.ix (.var 0) (.lit (.int (3)))) (.lit (.int (69621))))) .nil)) (.lit (.int (2147483647))))) (.cons (.set 3 (.op .mod (.blt .int (.cons (.op .add (.op .add (.op .mul (.var 3) (.lit (.int (16807)))) (.op .fdiv (.var 2) (.lit (.int (97))))) (.ix (.var 0) (.lit (.int (3))))) .nil)) (.lit (.int (2147483629))))) (.cons (.ret (.op .mod (.op .fdiv (.var 3) (.lit (.int (11)))) (.var 1))) .nil)))))))))
def b__law_one_of : Ss := (.cons (.ret (.ix (.var 1) (.call "_law_draw" (.cons (.var 0) (.cons (.blt .len (.cons (.var 1) .nil)) .nil))))) .nil)
def b__law_is_int : Ss := (.cons (.ret (.and (.isi (.var 0) [.int]) (.not (.isi (.var 0) [.bool])))) .nil)
def e__law_same_1 : E := (.call "_law_same" (.cons (.ix (.var 0) (.var 2)) (.cons (.ix (.var 1) (.var 2)) .nil)))
def b__law_same : Ss := (.cons (.ite (.isi (.var 1) [.tuple]) (.cons (.ite (.or (.not (.isi (.var 0) [.tuple])) (.cmp .ne (.blt .len (.cons (.var 0) .nil)) (.blt .len (.cons (.var 1) .nil)))) (.cons (.ret (.lit (.bl false))) .nil) .nil) (.cons (.ret (.comp (some .all) e__law_same_1 (.nm 2) (.rng1 (.blt .len (.cons (.var 1) .nil))) .none [2])) .nil)) .nil) (.cons (.ite (.isi (.var 1) [.str]) (.cons (.ret (.and (.isi (.var 0) [.str]) (.cmp .eq (.var 0) (.var 1)))) .nil) .nil) (.cons (.ret (.and (.call "_law_is_int" (.cons (.var 0) .nil)) (.cmp .eq (.var 0) (.var 1)))) .nil)))
def s__law_gcd_1 : Ss := (.cons (.set 2 (.op .mod (.blt .int (.cons (.var 0) .nil)) (.var 1))) (.cons (.set 0 (.var 1)) (.cons (.set 1 (.var 2)) .nil)))
def e__law_gcd_2 : E := (.cmp .ne (.var 1) (.lit (.int (0))))
def b__law_gcd : Ss := (.cons (.whl e__law_gcd_2 s__law_gcd_1) (.cons (.ret (.var 0)) .nil))
def b__law_fraction : Ss := (.cons (.set 2 (.call "_law_gcd" (.cons (.blt .abs (.cons (.var 0) .nil)) (.cons (.var 1) .nil)))) (.cons (.ret (.tup (.cons (.op .fdiv (.var 0) (.var 2)) (.cons (.op .fdiv (.var 1) (.var 2)) .nil)))) .nil))
def b__law_plus : Ss := (.cons (.ret (.call "_law_fraction" (.cons (.op .add (.op .mul (.ix (.var 0) (.lit (.int (0)))) (.ix (.var 1) (.lit (.int (1))))) (.op .mul (.ix (.var 1) (.lit (.int (0)))) (.ix (.var 0) (.lit (.int (1)))))) (.cons (.op .mul (.ix (.var 0) (.lit (.int (1)))) (.ix (.var 1) (.lit (.int (1))))) .nil)))) .nil)
def b__law_times : Ss := (.cons (.ret (.call "_law_fraction" (.cons (.op .mul (.ix (.var 0) (.lit (.int (0)))) (.ix (.var 1) (.lit (.int (0))))) (.cons (.op .mul (.ix (.var 0) (.lit (.int (1)))) (.ix (.var 1) (.lit (.int (1))))) .nil)))) .nil)
def b__law_over : Ss := (.cons (.ite (.cmp .lt (.ix (.var 1) (.lit (.int (0)))) (.lit (.int (0)))) (.cons (.ret (.call "_law_fraction" (.cons (.op .mul (.neg (.ix (.var 0) (.lit (.int (0))))) (.ix (.var 1) (.lit (.int (1))))) (.cons (.op .mul (.neg (.ix (.var 0) (.lit (.int (1))))) (.ix (.var 1) (.lit (.int (0))))) .nil)))) .nil) .nil) (.cons (.ret (.call "_law_fraction" (.cons (.op .mul (.ix (.var 0) (.lit (.int (0)))) (.ix (.var 1) (.lit (.int (1))))) (.cons (.op .mul (.ix (.var 0) (.lit (.int (1)))) (.ix (.var 1) (.lit (.int (0))))) .nil)))) .nil))
def s__law_power_1 : Ss := (.cons (.set 2 (.op .mul (.var 2) (.ix (.var 0) (.lit (.int (0)))))) (.cons (.set 3 (.op .mul (.var 3) (.ix (.var 0) (.lit (.int (1)))))) .nil))
def b__law_power : Ss := (.cons (.set 2 (.lit (.int (1)))) (.cons (.set 3 (.lit (.int (1)))) (.cons (.for (.nm 4) (.rng1 (.var 1)) s__law_power_1) (.cons (.ret (.tup (.cons (.var 2) (.cons (.var 3) .nil)))) .nil))))
def s__law_digits_1 : Ss := (.cons (.exp (.mth .append (.var 2) (.cons (.op .fdiv (.op .mul (.lit (.int (2))) (.ix (.var 1) (.neg (.lit (.int (1)))))) (.ix (.var 0) (.lit (.int (1))))) .nil))) (.cons (.set 4 (.op .mod (.blt .int (.cons (.op .mul (.lit (.int (2))) (.ix (.var 1) (.neg (.lit (.int (1)))))) .nil)) (.ix (.var 0) (.lit (.int (1)))))) (.cons (.ite (.cmp .isin (.var 4) (.var 1)) (.cons (.set 5 (.mth .index (.var 1) (.cons (.var 4) .nil))) (.cons (.ret (.tup (.cons (.blt .tuple (.cons (.slc (.var 2) .none (.some (.var 5))) .nil)) (.cons (.blt .tuple (.cons (.slc (.var 2) (.some (.var 5)) .none) .nil)) .nil)))) .nil)) .nil) (.cons (.exp (.mth .append (.var 1) (.cons (.var 4) .nil))) .nil))))
def b__law_digits : Ss := (.cons (.set 1 (.lst (.cons (.ix (.var 0) (.lit (.int (0)))) .nil))) (.cons (.set 2 (.lst .nil)) (.cons (.for (.nm 3) (.rng1 (.lit (.int (140)))) s__law_digits_1) (.cons (.ret (.tup (.cons (.blt .tuple (.cons (.var 2) .nil)) (.cons (.tup (.cons (.lit (.int (1))) .nil)) .nil)))) .nil))))
def b__law_binary : Ss := (.cons (.asg (.tup (.cons (.nm 1) (.cons (.nm 2) .nil))) (.call "_law_digits" (.cons (.var 0) .nil))) (.cons (.ite (.cmp .eq (.blt .max (.cons (.var 2) .nil)) (.lit (.int (0)))) (.cons (.ite (.and (.cmp .gt (.blt .len (.cons (.var 1) .nil)) (.lit (.int (0)))) (.cmp .eq (.ix (.var 1) (.neg (.lit (.int (1))))) (.lit (.int (0))))) (.cons (.ret (.tup (.cons (.slc (.var 1) .none (.some (.neg (.lit (.int (1)))))) (.cons (.tup .nil) .nil)))) .nil) .nil) (.cons (.ret (.tup (.cons (.var 1) (.cons (.tup .nil) .nil)))) .nil)) .nil) (.cons (.ret (.tup (.cons (.var 1) (.cons (.var 2) .nil)))) .nil)))
def s__law_span_1 : Ss := (.cons (.asg (.tup (.cons (.nm 5) (.cons (.nm 6) .nil))) (.call "_law_binary" (.cons (.var 4) .nil))) (.cons (.set 1 (.blt .max (.cons (.var 1) (.cons (.blt .len (.cons (.var 5) .nil)) .nil)))) (.cons (.ite (.cmp .gt (.blt .len (.cons (.var 6) .nil)) (.lit (.int (0)))) (.cons (.set 2 (.op .fdiv (.op .mul (.var 2) (.blt .len (.cons (.var 6) .nil))) (.call "_law_gcd" (.cons (.var 2) (.cons (.blt .len (.cons (.var 6) .nil)) .nil))))) .nil) .nil) .nil)))
def b__law_span : Ss := (.cons (.set 1 (.lit (.int (0)))) (.cons (.set 2 (.lit (.int (1)))) (.cons (.for (.tup (.cons (.nm 3) (.cons (.nm 4) .nil))) (.of (.var 0)) s__law_span_1) (.cons (.ret (.tup (.cons (.var 1) (.cons (.var 2) .nil)))) .nil))))
def s__law_mean_of_1 : Ss := (.cons (.set 1 (.call "_law_plus" (.cons (.var 1) (.cons (.call "_law_times" (.cons (.tup (.cons (.op .mul (.ix (.var 8) (.var 2)) (.op .add (.var 2) (.lit (.int (1))))) (.cons (.lit (.int (1))) .nil))) (.cons (.call "_law_power" (.cons (.tup (.cons (.lit (.int (1))) (.cons (.lit (.int (2))) .nil))) (.cons (.op .add (.var 2) (.lit (.int (1)))) .nil))) .nil))) .nil)))) .nil)
def s__law_mean_of_2 : Ss := (.cons (.set 10 (.op .add (.op .add (.blt .len (.cons (.var 8) .nil)) (.var 7)) (.lit (.int (1))))) (.cons (.set 11 (.call "_law_plus" (.cons (.call "_law_over" (.cons (.tup (.cons (.var 10) (.cons (.lit (.int (1))) .nil))) (.cons (.var 5) .nil))) (.cons (.var 6) .nil)))) (.cons (.set 1 (.call "_law_plus" (.cons (.var 1) (.cons (.call "_law_times" (.cons (.call "_law_times" (.cons (.var 11) (.cons (.tup (.cons (.ix (.var 9) (.var 7)) (.cons (.lit (.int (1))) .nil))) .nil))) (.cons (.call "_law_power" (.cons (.tup (.cons (.lit (.int (1))) (.cons (.lit (.int (2))) .nil))) (.cons (.var 10) .nil))) .nil))) .nil)))) .nil)))
def b__law_mean_of : Ss := (.cons (.asg (.tup (.cons (.nm 8) (.cons (.nm 9) .nil))) (.call "_law_binary" (.cons (.var 0) .nil))) (.cons (.set 1 (.tup (.cons (.lit (.int (0))) (.cons (.lit (.int (1))) .nil)))) (.cons (.for (.nm 2) (.rng1 (.blt .len (.cons (.var 8) .nil))) s__law_mean_of_1) (.cons (.set 3 (.blt .len (.cons (.var 9) .nil))) (.cons (.ite (.cmp .eq (.var 3) (.lit (.int (0)))) (.cons (.ret (.var 1)) .nil) .nil) (.cons (.set 4 (.call "_law_power" (.cons (.tup (.cons (.lit (.int (1))) (.cons (.lit (.int (2))) .nil))) (.cons (.var 3) .nil)))) (.cons (.set 5 (.call "_law_plus" (.cons (.tup (.cons (.lit (.int (1))) (.cons (.lit (.int (1))) .nil))) (.cons (.tup (.cons (.op .sub (.lit (.int (0))) (.ix (.var 4) (.lit (.int (0))))) (.cons (.ix (.var 4) (.lit (.int (1)))) .nil))) .nil)))) (.cons (.set 6 (.call "_law_over" (.cons (.call "_law_times" (.cons (.tup (.cons (.var 3) (.cons (.lit (.int (1))) .nil))) (.cons (.var 4) .nil))) (.cons (.call "_law_times" (.cons (.var 5) (.cons (.var 5) .nil))) .nil)))) (.cons (.for (.nm 7) (.rng1 (.var 3)) s__law_mean_of_2) (.cons (.ret (.var 1)) .nil))))))))))
def s__law_tree_mean_1 : Ss := (.cons (.set 1 (.call "_law_plus" (.cons (.var 1) (.cons (.call "_law_mean_of" (.cons (.var 3) .nil)) .nil)))) .nil)
def b__law_tree_mean : Ss := (.cons (.set 1 (.tup (.cons (.lit (.int (0))) (.cons (.lit (.int (1))) .nil)))) (.cons (.for (.tup (.cons (.nm 2) (.cons (.nm 3) .nil))) (.of (.var 0)) s__law_tree_mean_1) (.cons (.ret (.var 1)) .nil)))
def b__law_told_digits : Ss := (.cons (.tryx (.cons (.ret (.tup (.cons (.lit (.str "told")) (.cons (.call "digits" (.cons (.var 0) .nil)) .nil)))) .nil) [("NotFit", true)] 1 (.tag "raised" (.and (.isi [("NotFit", true)]) .wd))) .nil)
def b__law_told_tree : Ss := (.cons (.tryx (.cons (.ret (.tup (.cons (.lit (.str "told")) (.cons (.call "least_tree" (.cons (.var 0) .nil)) .nil)))) .nil) [("NotFit", true)] 1 (.tag "raised" (.and (.isi [("NotFit", true)]) .wd))) .nil)
def b__law_told_mean : Ss := (.cons (.tryx (.cons (.ret (.tup (.cons (.lit (.str "told")) (.cons (.call "least_mean" (.cons (.var 0) .nil)) .nil)))) .nil) [("NotFit", true)] 1 (.tag "raised" (.and (.isi [("NotFit", true)]) .wd))) .nil)
def b__law_digits_fit : Ss := (.cons (.set 1 (.call "_law_told_digits" (.cons (.var 0) .nil))) (.cons (.set 2 (.call "_law_binary" (.cons (.var 0) .nil))) (.cons (.ite (.cmp .gt (.op .add (.blt .len (.cons (.ix (.var 2) (.lit (.int (0)))) .nil)) (.blt .len (.cons (.ix (.var 2) (.lit (.int (1)))) .nil))) (.lit (.int (64)))) (.cons (.ret (.cmp .eq (.var 1) (.tup (.cons (.lit (.str "raised")) (.cons (.lit (.str "digits")) .nil))))) .nil) .nil) (.cons (.ret (.and (.cmp .eq (.ix (.var 1) (.lit (.int (0)))) (.lit (.str "told"))) (.call "_law_same" (.cons (.ix (.var 1) (.lit (.int (1)))) (.cons (.var 2) .nil))))) .nil))))
def e__law_levels_1 : E := (.var 12)
def s__law_levels_2 : Ss := (.cons (.set 7 (.call "_law_plus" (.cons (.var 7) (.cons (.ix (.var 4) (.var 9)) .nil)))) (.cons (.set 10 (.call "_law_times" (.cons (.ix (.var 4) (.var 9)) (.cons (.tup (.cons (.lit (.int (2))) (.cons (.lit (.int (1))) .nil))) .nil)))) (.cons (.ite (.cmp .ge (.ix (.var 10) (.lit (.int (0)))) (.ix (.var 10) (.lit (.int (1))))) (.cons (.exp (.mth .append (.var 6) (.cons (.ix (.ix (.var 0) (.var 9)) (.lit (.int (0)))) .nil))) (.cons (.set 10 (.call "_law_plus" (.cons (.var 10) (.cons (.tup (.cons (.neg (.lit (.int (1)))) (.cons (.lit (.int (1))) .nil))) .nil)))) .nil)) .nil) (.cons (.exp (.mth .append (.var 8) (.cons (.var 10) .nil))) .nil))))
def s__law_levels_3 : Ss := (.cons (.set 6 (.lst .nil)) (.cons (.set 7 (.tup (.cons (.lit (.int (0))) (.cons (.lit (.int (1))) .nil)))) (.cons (.set 8 (.lst .nil)) (.cons (.for (.nm 9) (.rng1 (.blt .len (.cons (.var 0) .nil))) s__law_levels_2) (.cons (.exp (.mth .append (.var 3) (.cons (.tup (.cons (.ix (.var 7) (.lit (.int (0)))) (.cons (.var 6) .nil))) .nil))) (.cons (.set 4 (.var 8)) .nil))))))
def b__law_levels : Ss := (.cons (.set 3 (.lst .nil)) (.cons (.set 4 (.comp none e__law_levels_1 (.tup (.cons (.nm 11) (.cons (.nm 12) .nil))) (.of (.var 0)) .none [11, 12])) (.cons (.for (.nm 5) (.rng1 (.op .add (.var 1) (.var 2))) s__law_levels_3) (.cons (.ret (.var 3)) .nil))))
def s__law_due_tree_1 : Ss := (.cons (.exp (.mth .append (.var 4) (.cons (.op .add (.ix (.var 4) (.neg (.lit (.int (1))))) (.var 7)) .nil))) .nil)
def e__law_due_tree_2 : E := (.tup (.cons (.lit (.str "tell")) (.cons (.var 12) .nil)))
def s__law_due_tree_3 : Ss := (.cons (.exp (.mth .append (.var 9) (.cons (.tup (.cons (.lit (.str "node")) (.cons (.op .add (.var 10) (.var 11)) .nil))) .nil))) .nil)
def s__law_due_tree_4 : Ss := (.cons (.exp (.mth .append (.var 5) (.cons (.tup (.cons (.ix (.var 9) (.op .mul (.lit (.int (2))) (.var 11))) (.cons (.ix (.var 9) (.op .add (.op .mul (.lit (.int (2))) (.var 11)) (.lit (.int (1))))) .nil))) .nil))) .nil)
def s__law_due_tree_5 : Ss := (.cons (.asg (.tup (.cons (.nm 7) (.cons (.nm 8) .nil))) (.ix (.var 3) (.var 6))) (.cons (.set 9 (.comp none e__law_due_tree_2 (.nm 12) (.of (.var 8)) .none [12])) (.cons (.set 10 (.ix (.var 4) (.op .add (.var 6) (.lit (.int (1)))))) (.cons (.ite (.cmp .eq (.op .add (.var 6) (.lit (.int (1)))) (.blt .len (.cons (.var 3) .nil))) (.cons (.set 10 (.ix (.var 4) (.var 1))) .nil) .nil) (.cons (.for (.nm 11) (.rng1 (.op .sub (.op .mul (.lit (.int (2))) (.var 7)) (.blt .len (.cons (.var 8) .nil)))) s__law_due_tree_3) (.cons (.for (.nm 11) (.rng1 (.var 7)) s__law_due_tree_4) .nil))))))
def b__law_due_tree : Ss := (.cons (.set 3 (.call "_law_levels" (.cons (.var 0) (.cons (.var 1) (.cons (.var 2) .nil))))) (.cons (.set 4 (.lst (.cons (.lit (.int (0))) .nil))) (.cons (.for (.tup (.cons (.nm 7) (.cons (.nm 8) .nil))) (.of (.var 3)) s__law_due_tree_1) (.cons (.set 5 (.lst .nil)) (.cons (.for (.nm 6) (.rng1 (.blt .len (.cons (.var 3) .nil))) s__law_due_tree_5) (.cons (.ret (.blt .tuple (.cons (.var 5) .nil))) .nil))))))
def b__law_tree_fits : Ss := (.cons (.asg (.tup (.cons (.nm 3) (.cons (.nm 4) .nil))) (.call "_law_span" (.cons (.var 0) .nil))) (.cons (.set 1 (.call "_law_told_tree" (.cons (.var 0) .nil))) (.cons (.set 2 (.call "_law_told_mean" (.cons (.var 0) .nil))) (.cons (.ite (.cmp .gt (.op .add (.var 3) (.var 4)) (.lit (.int (64)))) (.cons (.ret (.and (.cmp .eq (.var 1) (.tup (.cons (.lit (.str "raised")) (.cons (.lit (.str "tree")) .nil)))) (.cmp .eq (.var 2) (.tup (.cons (.lit (.str "raised")) (.cons (.lit (.str "tree")) .nil)))))) .nil) .nil) (.cons (.ite (.or (.cmp .ne (.ix (.var 1) (.lit (.int (0)))) (.lit (.str "told"))) (.not (.call "_law_same" (.cons (.ix (.var 1) (.lit (.int (1)))) (.cons (.call "_law_due_tree" (.cons (.var 0) (.cons (.var 3) (.cons (.var 4) .nil)))) .nil))))) (.cons (.ret (.lit (.bl false))) .nil) .nil) (.cons (.ret (.and (.cmp .eq (.ix (.var 2) (.lit (.int (0)))) (.lit (.str "told"))) (.call "_law_same" (.cons (.ix (.var 2) (.lit (.int (1)))) (.cons (.call "_law_tree_mean" (.cons (.var 0) .nil)) .nil))))) .nil))))))
def e__law_some_table_of_1 : E := (.call "_law_one_of" (.cons (.var 0) (.cons (.lst (.cons (.lit (.int (1))) (.cons (.lit (.int (1))) (.cons (.lit (.int (2))) (.cons (.lit (.int (3))) (.cons (.lit (.int (5))) (.cons (.lit (.int (8))) (.cons (.lit (.int (13))) .nil)))))))) .nil)))
def s__law_some_table_of_2 : Ss := (.cons (.exp (.mth .append (.var 5) (.cons (.tup (.cons (.var 4) (.cons (.call "_law_fraction" (.cons (.var 6) (.cons (.var 3) .nil))) .nil))) .nil))) (.cons (.set 4 (.op .add (.op .add (.var 4) (.lit (.int (1)))) (.call "_law_draw" (.cons (.var 0) (.cons (.lit (.int (4))) .nil))))) .nil))
def b__law_some_table_of : Ss := (.cons (.set 1 (.op .add (.lit (.int (2))) (.call "_law_draw" (.cons (.var 0) (.cons (.lit (.int (3))) .nil))))) (.cons (.set 2 (.comp none e__law_some_table_of_1 (.nm 7) (.rng1 (.var 1)) .none [7])) (.cons (.ite (.cmp .eq (.call "_law_draw" (.cons (.var 0) (.cons (.lit (.int (4))) .nil))) (.lit (.int (0)))) (.cons (.sub (.var 2) (.lit (.int (0))) (.op .add (.ix (.var 2) (.lit (.int (0)))) (.call "_law_one_of" (.cons (.var 0) (.cons (.lst (.cons (.lit (.int (50))) (.cons (.lit (.int (60))) (.cons (.lit (.int (64))) (.cons (.lit (.int (96))) .nil))))) .nil))))) .nil) .nil) (.cons (.set 3 (.blt .sum (.cons (.var 2) .nil))) (.cons (.set 4 (.call "_law_draw" (.cons (.var 0) (.cons (.lit (.int (3))) .nil)))) (.cons (.set 5 (.lst .nil)) (.cons (.for (.nm 6) (.of (.var 2)) s__law_some_table_of_2) (.cons (.ret (.blt .tuple (.cons (.var 5) .nil))) .nil))))))))
def s_law_1 : Ss := (.cons (.ite (.not (.call "_law_digits_fit" (.cons (.var 3) .nil))) (.cons (.ret (.lit (.bl false))) .nil) .nil) .nil)
def s_law_2 : Ss := (.cons (.ite (.not (.call "_law_digits_fit" (.cons (.var 3) .nil))) (.cons (.ret (.lit (.bl false))) .nil) .nil) .nil)
def s_law_3 : Ss := (.cons (.ite (.not (.call "_law_tree_fits" (.cons (.call "_law_some_table_of" (.cons (.var 1) .nil)) .nil))) (.cons (.ret (.lit (.bl false))) .nil) .nil) .nil)
def b_law : Ss := (.cons (.set 1 (.call "_law_start" (.cons (.var 0) .nil))) (.cons (.set 2 (.call "_law_one_of" (.cons (.var 1) (.cons (.lst (.cons (.lit (.int (2))) (.cons (.lit (.int (3))) (.cons (.lit (.int (4))) (.cons (.lit (.int (5))) (.cons (.lit (.int (6))) (.cons (.lit (.int (7))) (.cons (.lit (.int (12))) (.cons (.lit (.int (13))) (.cons (.lit (.int (24))) (.cons (.lit (.int (59))) (.cons (.lit (.int (61))) (.cons (.lit (.int (67))) (.cons (.lit (.int (96))) (.cons (.lit (.int (101))) (.cons (.lit (.int (127))) (.cons (.lit (.int (131))) (.cons (.lit (.int (160))) .nil)))))))))))))))))) .nil)))) (.cons (.for (.nm 3) (.of (.lst (.cons (.call "_law_fraction" (.cons (.call "_law_draw" (.cons (.var 1) (.cons (.var 2) .nil))) (.cons (.var 2) .nil))) (.cons (.call "_law_fraction" (.cons (.call "_law_draw" (.cons (.var 1) (.cons (.lit (.int (1000))) .nil))) (.cons (.lit (.int (1024))) .nil))) (.cons (.tup (.cons (.lit (.int (0))) (.cons (.lit (.int (1))) .nil))) .nil))))) s_law_1) (.cons (.set 4 (.op .add (.lit (.int (1))) (.op .mul (.lit (.int (2))) (.call "_law_draw" (.cons (.var 1) (.cons (.lit (.int (1000))) .nil)))))) (.cons (.for (.nm 3) (.of (.lst (.cons (.tup (.cons (.var 4) (.cons (.op .pow (.lit (.int (2))) (.lit (.int (63)))) .nil))) (.cons (.tup (.cons (.var 4) (.cons (.op .pow (.lit (.int (2))) (.lit (.int (64)))) .nil))) (.cons (.tup (.cons (.var 4) (.cons (.op .mul (.op .pow (.lit (.int (2))) (.lit (.int (60)))) (.lit (.int (32)))) .nil))) (.cons (.tup (.cons (.lit (.int (1))) (.cons (.op .mul (.lit (.int (3))) (.op .pow (.lit (.int (2))) (.lit (.int (62))))) .nil))) (.cons (.tup (.cons (.lit (.int (2))) (.cons (.lit (.int (3))) .nil))) (.cons (.tup (.cons (.lit (.int (1))) (.cons (.op .mul (.op .mul (.lit (.int (3))) (.op .pow (.lit (.int (2))) (.lit (.int (60))))) (.lit (.int (8)))) .nil))) .nil)))))))) s_law_2) (.cons (.for (.nm 5) (.rng1 (.lit (.int (3)))) s_law_3) (.cons (.ret (.lit (.bl true))) .nil)))))))
def d_fraction : Mi.Dn := ⟨⟨("fraction", none), "fraction", "fraction", defArgs (top 5), defBody (top 5), defScope (top 5), [], []⟩, [("n" : Str), ("d" : Str)], [("n" : Str), ("d" : Str), ("common" : Str)], b_fraction⟩
def d_plus : Mi.Dn := ⟨⟨("plus", none), "plus", "plus", defArgs (top 6), defBody (top 6), defScope (top 6), [], []⟩, [("a" : Str), ("b" : Str)], [("a" : Str), ("b" : Str)], b_plus⟩
def d_over : Mi.Dn := ⟨⟨("over", none), "over", "over", defArgs (top 7), defBody (top 7), defScope (top 7), [], []⟩, [("a" : Str), ("b" : Str)], [("a" : Str), ("b" : Str)], b_over⟩
def d_digits : Mi.Dn := ⟨⟨("digits", none), "digits", "digits", defArgs (top 10), defBody (top 10), defScope (top 10), [], []⟩, [("f" : Str)], [("f" : Str), ("odd" : Str), ("ahead" : Str), ("first" : Str), ("period" : Str), ("_" : Str), ("rest" : Str), ("low" : Str)], b_digits⟩
def d_span : Mi.Dn := ⟨⟨("span", none), "span", "span", defArgs (top 11), defBody (top 11), defScope (top 11), [], []⟩, [("table" : Str)], [("table" : Str), ("ahead" : Str), ("again" : Str), ("number" : Str), ("f" : Str), ("first" : Str), ("period" : Str)], b_span⟩
def d_levels : Mi.Dn := ⟨⟨("levels", none), "levels", "levels", defArgs (top 12), defBody (top 12), defScope (top 12), [], []⟩, [("table" : Str)], [("table" : Str), ("low" : Str), ("rests" : Str), ("found" : Str), ("_" : Str), ("ahead" : Str), ("again" : Str), ("number" : Str), ("f" : Str), ("told" : Str), ("k" : Str), ("rest" : Str)], b_levels⟩
def d_least_tree : Mi.Dn := ⟨⟨("least_tree", none), "least_tree", "least_tree", defArgs (top 13), defBody (top 13), defScope (top 13), [], []⟩, [("table" : Str)], [("table" : Str), ("starts" : Str), ("tree" : Str), ("ahead" : Str), ("found" : Str), ("many" : Str), ("told" : Str), ("k" : Str), ("further" : Str), ("sides" : Str), ("j" : Str), ("number" : Str)], b_least_tree⟩
def d_least_mean : Mi.Dn := ⟨⟨("least_mean", none), "least_mean", "least_mean", defArgs (top 14), defBody (top 14), defScope (top 14), [], []⟩, [("table" : Str)], [("table" : Str), ("first" : Str), ("second" : Str), ("power" : Str), ("turns" : Str), ("_" : Str), ("ahead" : Str), ("found" : Str), ("k" : Str), ("many" : Str), ("told" : Str)], b_least_mean⟩
def d__law_start : Mi.Dn := ⟨⟨("_law_start", none), "_law_start", "_law_start", defArgs (top 16), defBody (top 16), defScope (top 16), [], []⟩, [("script" : Str)], [("script" : Str)], b__law_start⟩
def d__law_draw : Mi.Dn := ⟨⟨("_law_draw", none), "_law_draw", "_law_draw", defArgs (top 17), defBody (top 17), defScope (top 17), [], []⟩, [("state" : Str), ("most" : Str)], [("state" : Str), ("most" : Str), ("cell" : Str), ("mixed" : Str), ("found" : Str)], b__law_draw⟩
def d__law_one_of : Mi.Dn := ⟨⟨("_law_one_of", none), "_law_one_of", "_law_one_of", defArgs (top 18), defBody (top 18), defScope (top 18), [], []⟩, [("state" : Str), ("items" : Str)], [("state" : Str), ("items" : Str)], b__law_one_of⟩
def d__law_is_int : Mi.Dn := ⟨⟨("_law_is_int", none), "_law_is_int", "_law_is_int", defArgs (top 19), defBody (top 19), defScope (top 19), [], []⟩, [("x" : Str)], [("x" : Str)], b__law_is_int⟩
def d__law_same : Mi.Dn := ⟨⟨("_law_same", none), "_law_same", "_law_same", defArgs (top 20), defBody (top 20), defScope (top 20), [], []⟩, [("x" : Str), ("y" : Str)], [("x" : Str), ("y" : Str), ("k" : Str)], b__law_same⟩
def d__law_gcd : Mi.Dn := ⟨⟨("_law_gcd", none), "_law_gcd", "_law_gcd", defArgs (top 21), defBody (top 21), defScope (top 21), [], []⟩, [("a" : Str), ("b" : Str)], [("a" : Str), ("b" : Str), ("rest" : Str)], b__law_gcd⟩
def d__law_fraction : Mi.Dn := ⟨⟨("_law_fraction", none), "_law_fraction", "_law_fraction", defArgs (top 22), defBody (top 22), defScope (top 22), [], []⟩, [("n" : Str), ("d" : Str)], [("n" : Str), ("d" : Str), ("common" : Str)], b__law_fraction⟩
def d__law_plus : Mi.Dn := ⟨⟨("_law_plus", none), "_law_plus", "_law_plus", defArgs (top 23), defBody (top 23), defScope (top 23), [], []⟩, [("a" : Str), ("b" : Str)], [("a" : Str), ("b" : Str)], b__law_plus⟩
def d__law_times : Mi.Dn := ⟨⟨("_law_times", none), "_law_times", "_law_times", defArgs (top 24), defBody (top 24), defScope (top 24), [], []⟩, [("a" : Str), ("b" : Str)], [("a" : Str), ("b" : Str)], b__law_times⟩
def d__law_over : Mi.Dn := ⟨⟨("_law_over", none), "_law_over", "_law_over", defArgs (top 25), defBody (top 25), defScope (top 25), [], []⟩, [("a" : Str), ("b" : Str)], [("a" : Str), ("b" : Str)], b__law_over⟩
def d__law_power : Mi.Dn := ⟨⟨("_law_power", none), "_law_power", "_law_power", defArgs (top 26), defBody (top 26), defScope (top 26), [], []⟩, [("a" : Str), ("n" : Str)], [("a" : Str), ("n" : Str), ("top" : Str), ("low" : Str), ("turn" : Str)], b__law_power⟩
def d__law_digits : Mi.Dn := ⟨⟨("_law_digits", none), "_law_digits", "_law_digits", defArgs (top 27), defBody (top 27), defScope (top 27), [], []⟩, [("f" : Str)], [("f" : Str), ("rests" : Str), ("found" : Str), ("turn" : Str), ("rest" : Str), ("at" : Str)], b__law_digits⟩
def d__law_binary : Mi.Dn := ⟨⟨("_law_binary", none), "_law_binary", "_law_binary", defArgs (top 28), defBody (top 28), defScope (top 28), [], []⟩, [("f" : Str)], [("f" : Str), ("ahead" : Str), ("period" : Str)], b__law_binary⟩
def d__law_span : Mi.Dn := ⟨⟨("_law_span", none), "_law_span", "_law_span", defArgs (top 29), defBody (top 29), defScope (top 29), [], []⟩, [("table" : Str)], [("table" : Str), ("ahead" : Str), ("again" : Str), ("n" : Str), ("f" : Str), ("first" : Str), ("period" : Str)], b__law_span⟩
def d__law_mean_of : Mi.Dn := ⟨⟨("_law_mean_of", none), "_law_mean_of", "_law_mean_of", defArgs (top 30), defBody (top 30), defScope (top 30), [], []⟩, [("f" : Str)], [("f" : Str), ("found" : Str), ("k" : Str), ("many" : Str), ("power" : Str), ("rest" : Str), ("more" : Str), ("j" : Str), ("ahead" : Str), ("period" : Str), ("place" : Str), ("part" : Str)], b__law_mean_of⟩
def d__law_tree_mean : Mi.Dn := ⟨⟨("_law_tree_mean", none), "_law_tree_mean", "_law_tree_mean", defArgs (top 31), defBody (top 31), defScope (top 31), [], []⟩, [("table" : Str)], [("table" : Str), ("found" : Str), ("n" : Str), ("f" : Str)], b__law_tree_mean⟩
def d__law_told_digits : Mi.Dn := ⟨⟨("_law_told_digits", none), "_law_told_digits", "_law_told_digits", defArgs (top 32), defBody (top 32), defScope (top 32), [], []⟩, [("f" : Str)], [("f" : Str), ("e" : Str)], b__law_told_digits⟩
def d__law_told_tree : Mi.Dn := ⟨⟨("_law_told_tree", none), "_law_told_tree", "_law_told_tree", defArgs (top 33), defBody (top 33), defScope (top 33), [], []⟩, [("table" : Str)], [("table" : Str), ("e" : Str)], b__law_told_tree⟩
def d__law_told_mean : Mi.Dn := ⟨⟨("_law_told_mean", none), "_law_told_mean", "_law_told_mean", defArgs (top 34), defBody (top 34), defScope (top 34), [], []⟩, [("table" : Str)], [("table" : Str), ("e" : Str)], b__law_told_mean⟩
def d__law_digits_fit : Mi.Dn := ⟨⟨("_law_digits_fit", none), "_law_digits_fit", "_law_digits_fit", defArgs (top 35), defBody (top 35), defScope (top 35), [], []⟩, [("f" : Str)], [("f" : Str), ("told" : Str), ("due" : Str)], b__law_digits_fit⟩
def d__law_levels : Mi.Dn := ⟨⟨("_law_levels", none), "_law_levels", "_law_levels", defArgs (top 36), defBody (top 36), defScope (top 36), [], []⟩, [("table" : Str), ("ahead" : Str), ("again" : Str)], [("table" : Str), ("ahead" : Str), ("again" : Str), ("found" : Str), ("rests" : Str), ("k" : Str), ("told" : Str), ("whole" : Str), ("further" : Str), ("j" : Str), ("double" : Str), ("n" : Str), ("f" : Str)], b__law_levels⟩
def d__law_due_tree : Mi.Dn := ⟨⟨("_law_due_tree", none), "_law_due_tree", "_law_due_tree", defArgs (top 37), defBody (top 37), defScope (top 37), [], []⟩, [("table" : Str), ("ahead" : Str), ("again" : Str)], [("table" : Str), ("ahead" : Str), ("again" : Str), ("found" : Str), ("starts" : Str), ("tree" : Str), ("k" : Str), ("many" : Str), ("told" : Str), ("sides" : Str), ("next_one" : Str), ("j" : Str), ("n" : Str)], b__law_due_tree⟩
def d__law_tree_fits : Mi.Dn := ⟨⟨("_law_tree_fits", none), "_law_tree_fits", "_law_tree_fits", defArgs (top 38), defBody (top 38), defScope (top 38), [], []⟩, [("table" : Str)], [("table" : Str), ("told" : Str), ("mean" : Str), ("ahead" : Str), ("again" : Str)], b__law_tree_fits⟩
def d__law_some_table_of : Mi.Dn := ⟨⟨("_law_some_table_of", none), "_law_some_table_of", "_law_some_table_of", defArgs (top 39), defBody (top 39), defScope (top 39), [], []⟩, [("state" : Str)], [("state" : Str), ("many" : Str), ("weights" : Str), ("whole" : Str), ("at" : Str), ("found" : Str), ("weight" : Str), ("k" : Str)], b__law_some_table_of⟩
def d_law : Mi.Dn := ⟨⟨("law", none), "law", "law", defArgs (top 40), defBody (top 40), defScope (top 40), [], []⟩, [("script" : Str)], [("script" : Str), ("state" : Str), ("low" : Str), ("f" : Str), ("odd" : Str), ("turn" : Str)], b_law⟩
def fs : List Mi.Dn := [d_fraction, d_plus, d_over, d_digits, d_span, d_levels, d_least_tree, d_least_mean, d__law_start, d__law_draw, d__law_one_of, d__law_is_int, d__law_same, d__law_gcd, d__law_fraction, d__law_plus, d__law_times, d__law_over, d__law_power, d__law_digits, d__law_binary, d__law_span, d__law_mean_of, d__law_tree_mean, d__law_told_digits, d__law_told_tree, d__law_told_mean, d__law_digits_fit, d__law_levels, d__law_due_tree, d__law_tree_fits, d__law_some_table_of, d_law]
def fsC : List Mi.Dn := [d_digits]
def bd (x : Str) : Option (Nat × Nat × Ss) := match fs.find? fun d => decide (d.d.name = x) with
  | some d => some (d.ps.length, d.N.length, d.body)
  | none => none
def initOf (j : Nat) : Stmt → Stmt
  | .ClassDef _ _ _ b _ _ _ _ _ _ _ => b.getD j (.Pass ⟨0, 0, 0, 0⟩)
  | s => s
def i_NotFit : Mi.InD := ⟨"NotFit", "__init__", "NotFit.__init__", defArgs (initOf 0 (top 3)), defBody (initOf 0 (top 3)), defScope (initOf 0 (top 3))⟩
def ins : List Mi.InD := [i_NotFit]
def gl : List (Str × D) := [("MOST_DIGITS", .int (64))]
end K50
set_option maxHeartbeats 0
namespace K50
open PySem PySem.Spec PyProof.Rows L2 Mi
theorem ok_fraction : DnOk Tm d_fraction := ⟨C8.fnScope_by (by decide +kernel), ⟨300, by kernel_rfl⟩, fun _ _ _ _ _ _ us hl => match us, hl with | [_, _], _ => rfl⟩
theorem ok_plus : DnOk Tm d_plus := ⟨C8.fnScope_by (by decide +kernel), ⟨300, by kernel_rfl⟩, fun _ _ _ _ _ _ us hl => match us, hl with | [_, _], _ => rfl⟩
theorem ok_over : DnOk Tm d_over := ⟨C8.fnScope_by (by decide +kernel), ⟨300, by kernel_rfl⟩, fun _ _ _ _ _ _ us hl => match us, hl with | [_, _], _ => rfl⟩
theorem ok_digits : DnOk Tm d_digits := ⟨C8.fnScope_by (by decide +kernel), ⟨300, by kernel_rfl⟩, fun _ _ _ _ _ _ us hl => match us, hl with | [_], _ => rfl⟩
theorem ok_span : DnOk Tm d_span := ⟨C8.fnScope_by (by decide +kernel), ⟨300, by kernel_rfl⟩, fun _ _ _ _ _ _ us hl => match us, hl with | [_], _ => rfl⟩
theorem ok_levels : DnOk Tm d_levels := ⟨C8.fnScope_by (by decide +kernel), ⟨300, by kernel_rfl⟩, fun _ _ _ _ _ _ us hl => match us, hl with | [_], _ => rfl⟩
theorem ok_least_tree : DnOk Tm d_least_tree := ⟨C8.fnScope_by (by decide +kernel), ⟨300, by kernel_rfl⟩, fun _ _ _ _ _ _ us hl => match us, hl with | [_], _ => rfl⟩
theorem ok_least_mean : DnOk Tm d_least_mean := ⟨C8.fnScope_by (by decide +kernel), ⟨300, by kernel_rfl⟩, fun _ _ _ _ _ _ us hl => match us, hl with | [_], _ => rfl⟩
theorem ok__law_start : DnOk Tm d__law_start := ⟨C8.fnScope_by (by decide +kernel), ⟨300, by kernel_rfl⟩, fun _ _ _ _ _ _ us hl => match us, hl with | [_], _ => rfl⟩
theorem ok__law_draw : DnOk Tm d__law_draw := ⟨C8.fnScope_by (by decide +kernel), ⟨300, by kernel_rfl⟩, fun _ _ _ _ _ _ us hl => match us, hl with | [_, _], _ => rfl⟩
theorem ok__law_one_of : DnOk Tm d__law_one_of := ⟨C8.fnScope_by (by decide +kernel), ⟨300, by kernel_rfl⟩, fun _ _ _ _ _ _ us hl => match us, hl with | [_, _], _ => rfl⟩
theorem ok__law_is_int : DnOk Tm d__law_is_int := ⟨C8.fnScope_by (by decide +kernel), ⟨300, by kernel_rfl⟩, fun _ _ _ _ _ _ us hl => match us, hl with | [_], _ => rfl⟩
theorem ok__law_same : DnOk Tm d__law_same := ⟨C8.fnScope_by (by decide +kernel), ⟨300, by kernel_rfl⟩, fun _ _ _ _ _ _ us hl => match us, hl with | [_, _], _ => rfl⟩
theorem ok__law_gcd : DnOk Tm d__law_gcd := ⟨C8.fnScope_by (by decide +kernel), ⟨300, by kernel_rfl⟩, fun _ _ _ _ _ _ us hl => match us, hl with | [_, _], _ => rfl⟩
theorem ok__law_fraction : DnOk Tm d__law_fraction := ⟨C8.fnScope_by (by decide +kernel), ⟨300, by kernel_rfl⟩, fun _ _ _ _ _ _ us hl => match us, hl with | [_, _], _ => rfl⟩
theorem ok__law_plus : DnOk Tm d__law_plus := ⟨C8.fnScope_by (by decide +kernel), ⟨300, by kernel_rfl⟩, fun _ _ _ _ _ _ us hl => match us, hl with | [_, _], _ => rfl⟩
theorem ok__law_times : DnOk Tm d__law_times := ⟨C8.fnScope_by (by decide +kernel), ⟨300, by kernel_rfl⟩, fun _ _ _ _ _ _ us hl => match us, hl with | [_, _], _ => rfl⟩
theorem ok__law_over : DnOk Tm d__law_over := ⟨C8.fnScope_by (by decide +kernel), ⟨300, by kernel_rfl⟩, fun _ _ _ _ _ _ us hl => match us, hl with | [_, _], _ => rfl⟩
theorem ok__law_power : DnOk Tm d__law_power := ⟨C8.fnScope_by (by decide +kernel), ⟨300, by kernel_rfl⟩, fun _ _ _ _ _ _ us hl => match us, hl with | [_, _], _ => rfl⟩
theorem ok__law_digits : DnOk Tm d__law_digits := ⟨C8.fnScope_by (by decide +kernel), ⟨300, by kernel_rfl⟩, fun _ _ _ _ _ _ us hl => match us, hl with | [_], _ => rfl⟩
theorem ok__law_binary : DnOk Tm d__law_binary := ⟨C8.fnScope_by (by decide +kernel), ⟨300, by kernel_rfl⟩, fun _ _ _ _ _ _ us hl => match us, hl with | [_], _ => rfl⟩
theorem ok__law_span : DnOk Tm d__law_span := ⟨C8.fnScope_by (by decide +kernel), ⟨300, by kernel_rfl⟩, fun _ _ _ _ _ _ us hl => match us, hl with | [_], _ => rfl⟩
theorem ok__law_mean_of : DnOk Tm d__law_mean_of := ⟨C8.fnScope_by (by decide +kernel), ⟨300, by kernel_rfl⟩, fun _ _ _ _ _ _ us hl => match us, hl with | [_], _ => rfl⟩
theorem ok__law_tree_mean : DnOk Tm d__law_tree_mean := ⟨C8.fnScope_by (by decide +kernel), ⟨300, by kernel_rfl⟩, fun _ _ _ _ _ _ us hl => match us, hl with | [_], _ => rfl⟩
theorem ok__law_told_digits : DnOk Tm d__law_told_digits := ⟨C8.fnScope_by (by decide +kernel), ⟨300, by kernel_rfl⟩, fun _ _ _ _ _ _ us hl => match us, hl with | [_], _ => rfl⟩
theorem ok__law_told_tree : DnOk Tm d__law_told_tree := ⟨C8.fnScope_by (by decide +kernel), ⟨300, by kernel_rfl⟩, fun _ _ _ _ _ _ us hl => match us, hl with | [_], _ => rfl⟩
theorem ok__law_told_mean : DnOk Tm d__law_told_mean := ⟨C8.fnScope_by (by decide +kernel), ⟨300, by kernel_rfl⟩, fun _ _ _ _ _ _ us hl => match us, hl with | [_], _ => rfl⟩
theorem ok__law_digits_fit : DnOk Tm d__law_digits_fit := ⟨C8.fnScope_by (by decide +kernel), ⟨300, by kernel_rfl⟩, fun _ _ _ _ _ _ us hl => match us, hl with | [_], _ => rfl⟩
theorem ok__law_levels : DnOk Tm d__law_levels := ⟨C8.fnScope_by (by decide +kernel), ⟨300, by kernel_rfl⟩, fun _ _ _ _ _ _ us hl => match us, hl with | [_, _, _], _ => rfl⟩
theorem ok__law_due_tree : DnOk Tm d__law_due_tree := ⟨C8.fnScope_by (by decide +kernel), ⟨300, by kernel_rfl⟩, fun _ _ _ _ _ _ us hl => match us, hl with | [_, _, _], _ => rfl⟩
theorem ok__law_tree_fits : DnOk Tm d__law_tree_fits := ⟨C8.fnScope_by (by decide +kernel), ⟨300, by kernel_rfl⟩, fun _ _ _ _ _ _ us hl => match us, hl with | [_], _ => rfl⟩
theorem ok__law_some_table_of : DnOk Tm d__law_some_table_of := ⟨C8.fnScope_by (by decide +kernel), ⟨300, by kernel_rfl⟩, fun _ _ _ _ _ _ us hl => match us, hl with | [_], _ => rfl⟩
theorem ok_law : DnOk Tm d_law := ⟨C8.fnScope_by (by decide +kernel), ⟨300, by kernel_rfl⟩, fun _ _ _ _ _ _ us hl => match us, hl with | [_], _ => rfl⟩
theorem ok_all : ∀ d ∈ fs, DnOk Tm d := by
  intro d hd
  simp only [fs, List.mem_cons, List.not_mem_nil, or_false] at hd
  rcases hd with rfl | rfl | rfl | rfl | rfl | rfl | rfl | rfl | rfl | rfl | rfl | rfl | rfl | rfl | rfl | rfl | rfl | rfl | rfl | rfl | rfl | rfl | rfl | rfl | rfl | rfl | rfl | rfl | rfl | rfl | rfl | rfl | rfl
  · exact ok_fraction
  · exact ok_plus
  · exact ok_over
  · exact ok_digits
  · exact ok_span
  · exact ok_levels
  · exact ok_least_tree
  · exact ok_least_mean
  · exact ok__law_start
  · exact ok__law_draw
  · exact ok__law_one_of
  · exact ok__law_is_int
  · exact ok__law_same
  · exact ok__law_gcd
  · exact ok__law_fraction
  · exact ok__law_plus
  · exact ok__law_times
  · exact ok__law_over
  · exact ok__law_power
  · exact ok__law_digits
  · exact ok__law_binary
  · exact ok__law_span
  · exact ok__law_mean_of
  · exact ok__law_tree_mean
  · exact ok__law_told_digits
  · exact ok__law_told_tree
  · exact ok__law_told_mean
  · exact ok__law_digits_fit
  · exact ok__law_levels
  · exact ok__law_due_tree
  · exact ok__law_tree_fits
  · exact ok__law_some_table_of
  · exact ok_law
theorem okc_digits : DnOk TmC d_digits := ⟨C8.fnScope_by (by decide +kernel), ⟨300, by kernel_rfl⟩, fun _ _ _ _ _ _ us hl => match us, hl with | [_], _ => rfl⟩
theorem okc_all : ∀ d ∈ fsC, DnOk TmC d ∧ d ∈ fs := by
  intro d hd
  simp only [fsC, List.mem_cons, List.not_mem_nil, or_false] at hd
  rcases hd with rfl
  · exact ⟨okc_digits, by simp [fs]⟩
theorem ins_NotFit : Mi.InS PySem.Challenge.pw_castbypowers_k50_digits_and_least_trees i_NotFit := ⟨NdefX.nscope_by (by decide +kernel), by decide +kernel, by decide +kernel, ⟨_, _, _, _, _, _, _, _, _, _, _, _, _, _, _, rfl, by decide +kernel, _, fun env => rfl⟩, ⟨_, rfl, rfl⟩, fun _ _ _ _ _ us hl => match us, hl with | [_, _], _ => rfl⟩
theorem ins_ok : ∀ d ∈ ins, Mi.InS PySem.Challenge.pw_castbypowers_k50_digits_and_least_trees d := by
  intro d hd
  simp only [ins, List.mem_cons, List.not_mem_nil, or_false] at hd
  rcases hd with rfl
  · exact ins_NotFit
end K50
set_option maxHeartbeats 0
namespace K50
open PySem PySem.Spec PyProof.Rows L2 Mi
def fnD : List He.DefD := fs.map (·.d)
def faF : List He.Fa := Tm.free.map He.Fa.free
def faG : List He.Fa := Tm.fns.map He.Fa.glo
def fa : List He.Fa := faF ++ faG
abbrev R : PySem.W.OpenRow := PySem.W.OpenLaw.row PySem.Challenge.rw_castbypowers_k50_digits_and_least_trees
abbrev hk : PySem.W.Hook := Mi.hookE 4 fa fnD PySem.Challenge.pw_castbypowers_k50_digits_and_least_trees.main.file ins K50.Tm.sub K50.Tm.mfn gl
def ob (s : PySem.W.SharedT) : Mi.AlE := Mi.obsEG 4 fa fnD PySem.Challenge.pw_castbypowers_k50_digits_and_least_trees.main.file ins K50.Tm.sub K50.Tm.mfn gl (HandSHeadRun.getT s)
theorem ob_eq (s : PySem.W.SharedT) : ob s = hk.obs s.abs := Mi.obsEG_eq (HandSHeadRun.getT_eq s)
def loose : List Str := [("CastError" : Str), ("NotFit" : Str), ("fraction" : Str), ("plus" : Str), ("over" : Str), ("digits" : Str), ("span" : Str), ("levels" : Str), ("least_tree" : Str), ("least_mean" : Str), ("_law_start" : Str), ("_law_draw" : Str), ("_law_one_of" : Str), ("_law_is_int" : Str), ("_law_same" : Str), ("_law_gcd" : Str), ("_law_fraction" : Str), ("_law_plus" : Str), ("_law_times" : Str), ("_law_over" : Str), ("_law_power" : Str), ("_law_digits" : Str), ("_law_binary" : Str), ("_law_span" : Str), ("_law_mean_of" : Str), ("_law_tree_mean" : Str), ("_law_told_digits" : Str), ("_law_told_tree" : Str), ("_law_told_mean" : Str), ("_law_digits_fit" : Str), ("_law_levels" : Str), ("_law_due_tree" : Str), ("_law_tree_fits" : Str), ("_law_some_table_of" : Str), ("MOST_DIGITS" : Str), ("gcd" : Str), ("lcm" : Str)]
theorem run (w : World) : HandSHeadRun.RunEqI R (PySem.W.view R.prog [0, 40]) hk ob 6000 loose w := by
  unfold HandSHeadRun.RunEqI
  kernel_rfl
end K50
namespace K50
open PySem PySem.Spec PyProof.Rows L2 Mi
abbrev G0 : Str → Option D := fun x => gl.lookup x
abbrev Γ (k : Nat) : Str → FS := Gam bd G0 k
variable {k : Nat} {S : Sto} {Q : KD} {X : KX} {pp : Addr}
def Stt (S : Sto) (a p : Addr) (z : Nat) : Prop := ∃ (ns : List Int) (x y w : Int) (ext : List D), S a = some (.lst (.ref p :: .int x :: .int y :: .int w :: ext)) ∧ S p = some (.lst (ns.map .int)) ∧ 0 ≤ x ∧ 0 ≤ y ∧ 0 ≤ w ∧ w ≤ z ∧ a ≠ p
theorem log63 {i : Int} (h1 : -(2 ^ 64) < i) (h2 : i < 2 ^ 64) : i.natAbs.log2 < 64 := by
  by_cases h : i.natAbs = 0
  · rw [h]; decide
  · rw [Nat.log2_lt h]; omega
theorem mulw {i j : Int} (h1 : -(2 ^ 64) < i) (h2 : i < 2 ^ 64) (h3 : -(2 ^ 64) < j) (h4 : j < 2 ^ 64) : CMulW i j := by
  have a := log63 h1 h2
  have b := log63 h3 h4
  unfold CMulW
  omega
theorem divw {i j : Int} (h3 : 0 < j) (h4 : j < 2 ^ 64) : CDivW i j := ⟨h3, by have := log63 (i := j) (by omega) h4; omega⟩
theorem draw_ok {a : Addr} {z : Nat} {most : Int} (hk : 0 < k) (h0 : 0 < most) (h1 : most < 2 ^ 60) (hz : z < 2 ^ 60) (st : Stt S a pp z) (hQ : ∀ (r : Int) (S' : Sto), 0 ≤ r → r < most → S.off a S' → Stt S' a pp (z + 1) → Q (.int r) S') : Γ k "_law_draw" [.ref a, .int most] S Q X := by
  obtain ⟨ns, x, y, w, ext, ha, hp, hx, hy, hw, hwz, hap⟩ := st
  obtain ⟨p, e0⟩ : ∃ p, p = pp := ⟨_, rfl⟩
  subst e0
  cases k with
  | zero => omega
  | succ k =>
  refine gam (np := 2) (nn := 5) (b := b__law_draw) rfl rfl ?_
  have fin : ∀ (r : Int) (x' y' : Int), 0 ≤ r → r < most → 0 ≤ x' → 0 ≤ y' → ∃ S0, S0.le (S.upd a (.lst (D.ref p :: D.int x' :: D.int y' :: D.int (w + 1) :: ext))) ∧ Q (.int r) S0 := fun r x' y' g1 g2 g3 g4 =>
    ⟨_, Sto.le_refl, hQ r _ g1 g2 Sto.off.refl.set ⟨ns, x', y', w + 1, ext, Sto.upd_same, by rw [Sto.upd_ne (Ne.symm hap)]; exact hp, g3, g4, by omega, by omega, hap⟩⟩
  simp only [b__law_draw, wSs, wS, wT, wE, wEs, wO, wC, wI, wG, wGs, startD, List.map_cons, List.map_nil, List.length_cons, List.length_nil, List.replicate, List.cons_append, List.nil_append, List.append_nil, List.set_cons_zero, List.set_cons_succ, List.getElem?_cons_zero, List.getElem?_cons_succ, itT, wipeD, opAddI, opSubI, opMulI, opDivI, opModI, opPowI, opAddT, cmEq, cmNe, cmLt, cmLe, cmGt, cmGe, cmIn, eqI, eqS, inS2, truB, ixT0, ixT1, ixT2, ixT3, ixT4, ixT6, slcT, lenT, absI, intI, tupleT, listT, listRl, decide_true, decide_false, if_true, if_false, Bool.false_eq_true, reduceIte, decide_eq_true_eq, Bool.not_true, Bool.not_false, line, mI_int, mI_bool, mI_str, mI_tuple, mI_list, mB_int, mB_bool, mB_str, mB_tuple, mB_list, mS_int, mS_bool, mS_str, mS_tuple, mS_list, mT_int, mT_bool, mT_str, mT_tuple, mT_list, mN_int, mN_bool, mN_str, mN_tuple, mN_list, anyT, anyF, Nat.zero_add, Nat.reduceAdd, Nat.reduceLeDiff, true_and, ixS3 ha, setS3 ha, ixU0, ixU1, ixU2, ixU3, setU1, setU2, lenU hap hp, List.length_map]
  by_cases hy0 : 0 < y
  · rw [if_pos hy0]
    exact ⟨h0, divw h0 (by omega), fin _ _ _ (Int.emod_nonneg _ (by omega)) (Int.emod_lt_of_pos _ h0) hx (Int.ediv_nonneg hy (by omega))⟩
  · rw [if_neg hy0]
    have rest : ∀ c : Int, 0 ≤ c → CPow 10 18 ∧ if (10 ^ Int.toNat 18 : Int) ≤ c then CDivW c most ∧ 0 < most ∧ ∃ S0, S0.le (S.upd a (.lst (D.ref p :: D.int (x + 1) :: D.int (c / most) :: D.int (w + 1) :: ext))) ∧ Q (.int (c % most)) S0
        else CMulW (c + 1) 48271 ∧ CMulW (w + 1) 69621 ∧ 0 < (2147483647 : Int) ∧ CMulW (((c + 1) * 48271 + (w + 1) * 69621) % 2147483647) 16807 ∧ CDivW c 97 ∧ 0 < (2147483629 : Int) ∧
          CDivW ((((c + 1) * 48271 + (w + 1) * 69621) % 2147483647 * 16807 + c / 97 + (w + 1)) % 2147483629) 11 ∧ 0 < most ∧ ∃ S0, S0.le (S.upd a (.lst (D.ref p :: D.int (x + 1) :: D.int y :: D.int (w + 1) :: ext))) ∧ Q (.int ((((c + 1) * 48271 + (w + 1) * 69621) % 2147483647 * 16807 + c / 97 + (w + 1)) % 2147483629 / 11 % most)) S0 := by
      intro c hc
      refine ⟨⟨by decide, by decide, by decide⟩, ?_⟩
      by_cases hcc : (10 ^ Int.toNat 18 : Int) ≤ c
      · rw [if_pos hcc]
        exact ⟨divw h0 (by omega), h0, fin _ _ _ (Int.emod_nonneg _ (by omega)) (Int.emod_lt_of_pos _ h0) (by omega) (Int.ediv_nonneg hc (by omega))⟩
      · rw [if_neg hcc]
        have h18 : (10 ^ Int.toNat 18 : Int) = 1000000000000000000 := by decide
        rw [h18] at hcc
        refine ⟨mulw (by omega) (by omega) (by decide) (by decide), mulw (by omega) (by omega) (by decide) (by decide), by decide, ?_, divw (by decide) (by decide), by decide, divw (by decide) (by decide), h0, fin _ _ _ (Int.emod_nonneg _ (by omega)) (Int.emod_lt_of_pos _ h0) (by omega) hy⟩
        have g1 := Int.emod_nonneg ((c + 1) * 48271 + (w + 1) * 69621) (show (2147483647 : Int) ≠ 0 by decide)
        have g2 := Int.emod_lt_of_pos ((c + 1) * 48271 + (w + 1) * 69621) (show (0 : Int) < 2147483647 by decide)
        exact mulw (by omega) (by omega) (by decide) (by decide)
    by_cases hn : (0 : Int) < (ns.length : Int)
    · rw [if_pos hn]
      have j0 := Int.emod_nonneg x (show (ns.length : Int) ≠ 0 by omega)
      have j1 := Int.emod_lt_of_pos x hn
      have hj : (x % (ns.length : Int)).toNat < ns.length := by omega
      have hat : atI (ns.map D.int) (x % (ns.length : Int)) = some (.int ns[(x % (ns.length : Int)).toNat]) := atIk (x % (ns.length : Int)).toNat (by omega) (by simp [hj])
      refine ⟨hn, ?_⟩
      simp only [wSs, wS, wT, wE, wEs, wO, wC, wI, wG, wGs, startD, List.map_cons, List.map_nil, List.length_cons, List.length_nil, List.replicate, List.cons_append, List.nil_append, List.append_nil, List.set_cons_zero, List.set_cons_succ, List.getElem?_cons_zero, List.getElem?_cons_succ, itT, wipeD, opAddI, opSubI, opMulI, opDivI, opModI, opPowI, opAddT, cmEq, cmNe, cmLt, cmLe, cmGt, cmGe, cmIn, eqI, eqS, inS2, truB, ixT0, ixT1, ixT2, ixT3, ixT4, ixT6, slcT, lenT, absI, intI, tupleT, listT, listRl, decide_true, decide_false, if_true, if_false, Bool.false_eq_true, reduceIte, decide_eq_true_eq, Bool.not_true, Bool.not_false, line, mI_int, mI_bool, mI_str, mI_tuple, mI_list, mB_int, mB_bool, mB_str, mB_tuple, mB_list, mS_int, mS_bool, mS_str, mS_tuple, mS_list, mT_int, mT_bool, mT_str, mT_tuple, mT_list, mN_int, mN_bool, mN_str, mN_tuple, mN_list, anyT, anyF, Nat.zero_add, Nat.reduceAdd, Nat.reduceLeDiff, true_and, ixU hap hp hat, ixU0, ixU1, ixU2, ixU3, setU1, setU2]
      exact rest _ (by split <;> omega)
    · rw [if_neg hn]
      exact rest 0 (by omega)
theorem start_ok {ns : List Int} (hk : 0 < k) (hQ : ∀ a pp S', S a = none → S.le S' → Stt S' a pp 0 → Q (.ref a) S') : Γ k "_law_start" [.rl (ns.map .int)] S Q X := by
  cases k with
  | zero => omega
  | succ k =>
  refine gam (np := 1) (nn := 1) (b := b__law_start) rfl rfl ?_
  simp only [b__law_start, wSs, wS, wT, wE, wEs, wO, wC, wI, wG, wGs, startD, List.map_cons, List.map_nil, List.length_cons, List.length_nil, List.replicate, List.cons_append, List.nil_append, List.append_nil, List.set_cons_zero, List.set_cons_succ, List.getElem?_cons_zero, List.getElem?_cons_succ, itT, wipeD, opAddI, opSubI, opMulI, opDivI, opModI, opPowI, opAddT, cmEq, cmNe, cmLt, cmLe, cmGt, cmGe, cmIn, eqI, eqS, inS2, truB, ixT0, ixT1, ixT2, ixT3, ixT4, ixT6, slcT, lenT, absI, intI, tupleT, listT, listRl, decide_true, decide_false, if_true, if_false, Bool.false_eq_true, reduceIte, decide_eq_true_eq, Bool.not_true, Bool.not_false, line, mI_int, mI_bool, mI_str, mI_tuple, mI_list, mB_int, mB_bool, mB_str, mB_tuple, mB_list, mS_int, mS_bool, mS_str, mS_tuple, mS_list, mT_int, mT_bool, mT_str, mT_tuple, mT_list, mN_int, mN_bool, mN_str, mN_tuple, mN_list, anyT, anyF, Nat.zero_add, Nat.reduceAdd, Nat.reduceLeDiff, true_and]
  intro p hp q hq
  have hpq : p ≠ q := Sto.ne_of Sto.upd_same hq
  refine ⟨_, Sto.le_refl, hQ q p _ ?_ (Sto.le_new' (Sto.le_new hp) hq) ⟨ns, 0, 0, 0, [], Sto.upd_same, by rw [Sto.upd_ne hpq, Sto.upd_same], by omega, by omega, by omega, by omega, Ne.symm hpq⟩⟩
  rw [Sto.upd_ne (Ne.symm hpq)] at hq
  exact hq
theorem Stt.ne {a q : Addr} {z : Nat} (st : Stt S a pp z) (h : S q = none) : q ≠ a := by
  obtain ⟨ns, x, y, w, ext, ha, _⟩ := st
  exact (Sto.ne_of ha h).symm
theorem Stt.new {a q : Addr} {z : Nat} {c : Cell} (st : Stt S a pp z) (h : S q = none) : Stt (S.upd q c) a pp z := by
  obtain ⟨ns, x, y, w, ext, ha, hp, r⟩ := st
  exact ⟨ns, x, y, w, ext, by rw [Sto.upd_ne (Sto.ne_of ha h)]; exact ha, by rw [Sto.upd_ne (Sto.ne_of hp h)]; exact hp, r⟩
theorem Stt.more {a : Addr} {z z' : Nat} (st : Stt S a pp z) (h : z ≤ z') : Stt S a pp z' := by
  obtain ⟨ns, x, y, w, ext, ha, hp, h1, h2, h3, h4, h5⟩ := st
  exact ⟨ns, x, y, w, ext, ha, hp, h1, h2, h3, by omega, h5⟩
theorem off_of_new {a q : Addr} {S S' : Sto} {c : Cell} (h : S q = none) (o : (S.upd q c).off a S') : S.off a S' := (Sto.off.refl.new h).trans o
theorem gcd_whl {T : En → Sto → (Bool → Sto → Prop) → Prop} {B : De → En → Sto → Prop} {N : De} (hT : ∀ (a b : Nat) x P, (P (decide ((b : Int) ≠ 0)) S) → T [some (.int a), some (.int b), x] S P)
    (hB : ∀ (a b : Nat) x N', 0 < b → N'.nx [some (.int b), some (.int ((a % b : Nat) : Int)), some (.int ((a % b : Nat) : Int))] S → B N' [some (.int a), some (.int b), x] S) :
    ∀ (n a b : Nat) (x : Option D), b < n → (∀ x', N.nx [some (.int ((Nat.gcd a b : Nat) : Int)), some (.int 0), x'] S) → whlL T B n N [some (.int a), some (.int b), x] S := by
  intro n
  induction n with
  | zero => intro a b x h _; omega
  | succ n ih =>
    intro a b x h hN
    refine hT a b x _ ?_
    by_cases hb : b = 0
    · subst hb
      have e : decide (((0 : Nat) : Int) ≠ 0) = false := by decide
      rw [e]
      have := hN x
      rw [Nat.gcd_zero_right] at this
      exact this
    · have e : decide ((b : Int) ≠ 0) = true := by simp; omega
      rw [e]
      refine hB a b x _ (by omega) ?_
      have hm : a % b < b := Nat.mod_lt _ (by omega)
      refine ih b (a % b) _ (by omega) ?_
      have e2 : Nat.gcd b (a % b) = Nat.gcd a b := by rw [Nat.gcd_comm b, ← Nat.gcd_rec, Nat.gcd_comm]
      rw [e2]
      exact hN
theorem gcd_ok {a b : Nat} (hk : 0 < k) (hQ : Q (.int ((Nat.gcd a b : Nat) : Int)) S) : Γ k "_law_gcd" [.int a, .int b] S Q X := by
  cases k with
  | zero => omega
  | succ k =>
  refine gam (np := 2) (nn := 3) (b := b__law_gcd) rfl rfl ?_
  simp only [b__law_gcd, wSs, wS, wT, wE, wEs, wO, wC, wI, wG, wGs, startD, List.map_cons, List.map_nil, List.length_cons, List.length_nil, List.replicate, List.cons_append, List.nil_append, List.append_nil, List.set_cons_zero, List.set_cons_succ, List.getElem?_cons_zero, List.getElem?_cons_succ, itT, wipeD]
  refine ⟨b + 1, gcd_whl (S := S) ?_ ?_ (b + 1) a b none (by omega) fun x' => ⟨S, Sto.le_refl, hQ⟩⟩
  · intro a b x P hP
    simp only [e__law_gcd_2, wSs, wS, wT, wE, wEs, wO, wC, wI, wG, wGs, startD, List.map_cons, List.map_nil, List.length_cons, List.length_nil, List.replicate, List.cons_append, List.nil_append, List.append_nil, List.set_cons_zero, List.set_cons_succ, List.getElem?_cons_zero, List.getElem?_cons_succ, itT, wipeD, opAddI, opSubI, opMulI, opDivI, opModI, opPowI, opAddT, cmEq, cmNe, cmLt, cmLe, cmGt, cmGe, cmIn, eqI, eqS, inS2, truB, ixT0, ixT1, ixT2, ixT3, ixT4, ixT6, slcT, lenT, absI, intI, tupleT, listT, listRl, decide_true, decide_false, if_true, if_false, Bool.false_eq_true, reduceIte, decide_eq_true_eq, Bool.not_true, Bool.not_false, line, mI_int, mI_bool, mI_str, mI_tuple, mI_list, mB_int, mB_bool, mB_str, mB_tuple, mB_list, mS_int, mS_bool, mS_str, mS_tuple, mS_list, mT_int, mT_bool, mT_str, mT_tuple, mT_list, mN_int, mN_bool, mN_str, mN_tuple, mN_list, anyT, anyF, Nat.zero_add, Nat.reduceAdd, Nat.reduceLeDiff, true_and]
    simpa using hP
  · intro a b x N' hb hN
    simp only [s__law_gcd_1, wSs, wS, wT, wE, wEs, wO, wC, wI, wG, wGs, startD, List.map_cons, List.map_nil, List.length_cons, List.length_nil, List.replicate, List.cons_append, List.nil_append, List.append_nil, List.set_cons_zero, List.set_cons_succ, List.getElem?_cons_zero, List.getElem?_cons_succ, itT, wipeD, opAddI, opSubI, opMulI, opDivI, opModI, opPowI, opAddT, cmEq, cmNe, cmLt, cmLe, cmGt, cmGe, cmIn, eqI, eqS, inS2, truB, ixT0, ixT1, ixT2, ixT3, ixT4, ixT6, slcT, lenT, absI, intI, tupleT, listT, listRl, decide_true, decide_false, if_true, if_false, Bool.false_eq_true, reduceIte, decide_eq_true_eq, Bool.not_true, Bool.not_false, line, mI_int, mI_bool, mI_str, mI_tuple, mI_list, mB_int, mB_bool, mB_str, mB_tuple, mB_list, mS_int, mS_bool, mS_str, mS_tuple, mS_list, mT_int, mT_bool, mT_str, mT_tuple, mT_list, mN_int, mN_bool, mN_str, mN_tuple, mN_list, anyT, anyF, Nat.zero_add, Nat.reduceAdd, Nat.reduceLeDiff, true_and]
    refine ⟨by omega, ?_⟩
    simpa using hN
theorem is_int_ok {i : Int} (hk : 0 < k) (hQ : Q (.bl true) S) : Γ k "_law_is_int" [.int i] S Q X := by
  cases k with
  | zero => omega
  | succ k =>
  refine gam (np := 1) (nn := 1) (b := b__law_is_int) rfl rfl ?_
  simp only [b__law_is_int, wSs, wS, wT, wE, wEs, wO, wC, wI, wG, wGs, startD, List.map_cons, List.map_nil, List.length_cons, List.length_nil, List.replicate, List.cons_append, List.nil_append, List.append_nil, List.set_cons_zero, List.set_cons_succ, List.getElem?_cons_zero, List.getElem?_cons_succ, itT, wipeD, opAddI, opSubI, opMulI, opDivI, opModI, opPowI, opAddT, cmEq, cmNe, cmLt, cmLe, cmGt, cmGe, cmIn, eqI, eqS, inS2, truB, ixT0, ixT1, ixT2, ixT3, ixT4, ixT6, slcT, lenT, absI, intI, tupleT, listT, listRl, decide_true, decide_false, if_true, if_false, Bool.false_eq_true, reduceIte, decide_eq_true_eq, Bool.not_true, Bool.not_false, line, mI_int, mI_bool, mI_str, mI_tuple, mI_list, mB_int, mB_bool, mB_str, mB_tuple, mB_list, mS_int, mS_bool, mS_str, mS_tuple, mS_list, mT_int, mT_bool, mT_str, mT_tuple, mT_list, mN_int, mN_bool, mN_str, mN_tuple, mN_list, anyT, anyF, Nat.zero_add, Nat.reduceAdd, Nat.reduceLeDiff, true_and]
  exact ⟨S, Sto.le_refl, hQ⟩
theorem same_ok : ∀ (n k : Nat) (y : D) (S : Sto) (Q : KD) (X : KX), n + 2 < k → ok n y = true → Q (.bl true) S → Γ k "_law_same" [y, y] S Q X := by
  intro n
  induction n with
  | zero =>
    intro k y S Q X hk hy hQ
    cases k with
    | zero => omega
    | succ k =>
    refine gam (np := 2) (nn := 3) (b := b__law_same) rfl rfl ?_
    cases y with
    | int i =>
      simp only [b__law_same, wSs, wS, wT, wE, wEs, wO, wC, wI, wG, wGs, startD, List.map_cons, List.map_nil, List.length_cons, List.length_nil, List.replicate, List.cons_append, List.nil_append, List.append_nil, List.set_cons_zero, List.set_cons_succ, List.getElem?_cons_zero, List.getElem?_cons_succ, itT, wipeD, opAddI, opSubI, opMulI, opDivI, opModI, opPowI, opAddT, cmEq, cmNe, cmLt, cmLe, cmGt, cmGe, cmIn, eqI, eqS, inS2, truB, ixT0, ixT1, ixT2, ixT3, ixT4, ixT6, slcT, lenT, absI, intI, tupleT, listT, listRl, decide_true, decide_false, if_true, if_false, Bool.false_eq_true, reduceIte, decide_eq_true_eq, Bool.not_true, Bool.not_false, line, mI_int, mI_bool, mI_str, mI_tuple, mI_list, mB_int, mB_bool, mB_str, mB_tuple, mB_list, mS_int, mS_bool, mS_str, mS_tuple, mS_list, mT_int, mT_bool, mT_str, mT_tuple, mT_list, mN_int, mN_bool, mN_str, mN_tuple, mN_list, anyT, anyF, Nat.zero_add, Nat.reduceAdd, Nat.reduceLeDiff, true_and]
      refine is_int_ok (by omega) ?_
      simp only [wSs, wS, wT, wE, wEs, wO, wC, wI, wG, wGs, startD, List.map_cons, List.map_nil, List.length_cons, List.length_nil, List.replicate, List.cons_append, List.nil_append, List.append_nil, List.set_cons_zero, List.set_cons_succ, List.getElem?_cons_zero, List.getElem?_cons_succ, itT, wipeD, opAddI, opSubI, opMulI, opDivI, opModI, opPowI, opAddT, cmEq, cmNe, cmLt, cmLe, cmGt, cmGe, cmIn, eqI, eqS, inS2, truB, ixT0, ixT1, ixT2, ixT3, ixT4, ixT6, slcT, lenT, absI, intI, tupleT, listT, listRl, decide_true, decide_false, if_true, if_false, Bool.false_eq_true, reduceIte, decide_eq_true_eq, Bool.not_true, Bool.not_false, line, mI_int, mI_bool, mI_str, mI_tuple, mI_list, mB_int, mB_bool, mB_str, mB_tuple, mB_list, mS_int, mS_bool, mS_str, mS_tuple, mS_list, mT_int, mT_bool, mT_str, mT_tuple, mT_list, mN_int, mN_bool, mN_str, mN_tuple, mN_list, anyT, anyF, Nat.zero_add, Nat.reduceAdd, Nat.reduceLeDiff, true_and]
      exact ⟨S, Sto.le_refl, hQ⟩
    | str z =>
      simp only [b__law_same, wSs, wS, wT, wE, wEs, wO, wC, wI, wG, wGs, startD, List.map_cons, List.map_nil, List.length_cons, List.length_nil, List.replicate, List.cons_append, List.nil_append, List.append_nil, List.set_cons_zero, List.set_cons_succ, List.getElem?_cons_zero, List.getElem?_cons_succ, itT, wipeD, opAddI, opSubI, opMulI, opDivI, opModI, opPowI, opAddT, cmEq, cmNe, cmLt, cmLe, cmGt, cmGe, cmIn, eqI, eqS, inS2, truB, ixT0, ixT1, ixT2, ixT3, ixT4, ixT6, slcT, lenT, absI, intI, tupleT, listT, listRl, decide_true, decide_false, if_true, if_false, Bool.false_eq_true, reduceIte, decide_eq_true_eq, Bool.not_true, Bool.not_false, line, mI_int, mI_bool, mI_str, mI_tuple, mI_list, mB_int, mB_bool, mB_str, mB_tuple, mB_list, mS_int, mS_bool, mS_str, mS_tuple, mS_list, mT_int, mT_bool, mT_str, mT_tuple, mT_list, mN_int, mN_bool, mN_str, mN_tuple, mN_list, anyT, anyF, Nat.zero_add, Nat.reduceAdd, Nat.reduceLeDiff, true_and]
      exact ⟨S, Sto.le_refl, hQ⟩
    | _ => cases hy
  | succ n ih =>
    intro k y S Q X hk hy hQ
    cases k with
    | zero => omega
    | succ k =>
    cases y with
    | int i => exact ih (k + 1) _ S Q X (by omega) ok_int hQ
    | str i => exact ih (k + 1) _ S Q X (by omega) ok_str hQ
    | tup l =>
      obtain ⟨h1, h2⟩ := ok_tup.mp hy
      refine gam (np := 2) (nn := 3) (b := b__law_same) rfl rfl ?_
      simp only [b__law_same, wSs, wS, wT, wE, wEs, wO, wC, wI, wG, wGs, startD, List.map_cons, List.map_nil, List.length_cons, List.length_nil, List.replicate, List.cons_append, List.nil_append, List.append_nil, List.set_cons_zero, List.set_cons_succ, List.getElem?_cons_zero, List.getElem?_cons_succ, itT, wipeD, opAddI, opSubI, opMulI, opDivI, opModI, opPowI, opAddT, cmEq, cmNe, cmLt, cmLe, cmGt, cmGe, cmIn, eqI, eqS, inS2, truB, ixT0, ixT1, ixT2, ixT3, ixT4, ixT6, slcT, lenT, absI, intI, tupleT, listT, listRl, decide_true, decide_false, if_true, if_false, Bool.false_eq_true, reduceIte, decide_eq_true_eq, Bool.not_true, Bool.not_false, line, mI_int, mI_bool, mI_str, mI_tuple, mI_list, mB_int, mB_bool, mB_str, mB_tuple, mB_list, mS_int, mS_bool, mS_str, mS_tuple, mS_list, mT_int, mT_bool, mT_str, mT_tuple, mT_list, mN_int, mN_bool, mN_str, mN_tuple, mN_list, anyT, anyF, Nat.zero_add, Nat.reduceAdd, Nat.reduceLeDiff, true_and]
      refine ⟨⟨by omega, by omega⟩, by unfold rngD; simp; omega, ?_⟩
      refine cmpL_pure (fun _ => some (.bl true)) trivial ?_ ?_
      · intro d hd P hP
        unfold rngD at hd
        obtain ⟨i, hi, rfl⟩ := List.mem_map.mp hd
        have hi : i < l.length := by simpa using hi
        have hg : l[i]? = some l[i] := by simp [hi]
        simp only [e__law_same_1, wSs, wS, wT, wE, wEs, wO, wC, wI, wG, wGs, startD, List.map_cons, List.map_nil, List.length_cons, List.length_nil, List.replicate, List.cons_append, List.nil_append, List.append_nil, List.set_cons_zero, List.set_cons_succ, List.getElem?_cons_zero, List.getElem?_cons_succ, itT, wipeD, opAddI, opSubI, opMulI, opDivI, opModI, opPowI, opAddT, cmEq, cmNe, cmLt, cmLe, cmGt, cmGe, cmIn, eqI, eqS, inS2, truB, ixT0, ixT1, ixT2, ixT3, ixT4, ixT6, slcT, lenT, absI, intI, tupleT, listT, listRl, decide_true, decide_false, if_true, if_false, Bool.false_eq_true, reduceIte, decide_eq_true_eq, Bool.not_true, Bool.not_false, line, mI_int, mI_bool, mI_str, mI_tuple, mI_list, mB_int, mB_bool, mB_str, mB_tuple, mB_list, mS_int, mS_bool, mS_str, mS_tuple, mS_list, mT_int, mT_bool, mT_str, mT_tuple, mT_list, mN_int, mN_bool, mN_str, mN_tuple, mN_list, anyT, anyF, Nat.zero_add, Nat.reduceAdd, Nat.reduceLeDiff, true_and, Int.zero_add]
        rw [ixT (atIk i rfl hg), ixT (atIk i rfl hg)]
        refine ih k _ _ _ _ (by omega) (h2 _ (List.getElem_mem hi)) ?_
        exact hP
      · have e : asBls ((rngD 0 l.length).filterMap fun _ => some (D.bl true)) = some (List.replicate l.length true) := by
          unfold rngD
          simp only [List.filterMap_map]
          generalize hL : (List.range l.length) = L
          have hn : L.length = l.length := by rw [← hL]; simp
          rw [← hn]
          clear hL hn
          induction L with
          | nil => rfl
          | cons x L ihL => simp only [List.filterMap_cons, asBls, List.length_cons, List.replicate_succ, Function.comp_apply]; rw [show (List.filterMap ((fun x => some (D.bl true)) ∘ fun (i : Nat) => D.int (0 + (i : Int))) L) = List.filterMap ((fun x => some (D.bl true)) ∘ fun (i : Nat) => D.int (0 + (i : Int))) L from rfl, ihL]; rfl
        simp only [bllR, Int.toNat_natCast, e]
        refine ⟨S, Sto.le_refl, ?_⟩
        have e2 : (List.replicate l.length true).all id = true := by simp
        rw [e2]
        exact hQ
    | _ => cases hy
theorem ok2 {n : Nat} {a b : D} (h1 : Mi.ok n a = true) (h2 : Mi.ok n b = true) : Mi.ok (n + 1) (.tup [a, b]) = true := ok_mk (by simp) fun x hx => by
  simp only [List.mem_cons, List.not_mem_nil, or_false] at hx
  rcases hx with rfl | rfl <;> assumption
theorem ok1 {n : Nat} {a : D} (h1 : Mi.ok n a = true) : Mi.ok (n + 1) (.tup [a]) = true := ok_mk (by simp) fun x hx => by
  simp only [List.mem_cons, List.not_mem_nil, or_false] at hx
  rcases hx with rfl; assumption
theorem ok3 {n : Nat} {a b c : D} (h1 : Mi.ok n a = true) (h2 : Mi.ok n b = true) (h3 : Mi.ok n c = true) : Mi.ok (n + 1) (.tup [a, b, c]) = true := ok_mk (by simp) fun x hx => by
  simp only [List.mem_cons, List.not_mem_nil, or_false] at hx
  rcases hx with rfl | rfl | rfl <;> assumption
theorem one_of_ok {a q : Addr} {z : Nat} {l : List D} (hk : 1 < k) (hl : 0 < l.length) (h1 : l.length < 1000) (hz : z < 2 ^ 60) (st : Stt S a pp z) (hq : S q = some (.lst l)) (haq : q ≠ a) (hQ : ∀ (d : D) (S' : Sto), d ∈ l → S.off a S' → Stt S' a pp (z + 1) → Q d S') : Γ k "_law_one_of" [.ref a, .ref q] S Q X := by
  cases k with
  | zero => omega
  | succ k =>
  refine gam (np := 2) (nn := 2) (b := b__law_one_of) rfl rfl ?_
  simp only [b__law_one_of, wSs, wS, wT, wE, wEs, wO, wC, wI, wG, wGs, startD, List.map_cons, List.map_nil, List.length_cons, List.length_nil, List.replicate, List.cons_append, List.nil_append, List.append_nil, List.set_cons_zero, List.set_cons_succ, List.getElem?_cons_zero, List.getElem?_cons_succ, itT, wipeD, opAddI, opSubI, opMulI, opDivI, opModI, opPowI, opAddT, cmEq, cmNe, cmLt, cmLe, cmGt, cmGe, cmIn, eqI, eqS, inS2, truB, ixT0, ixT1, ixT2, ixT3, ixT4, ixT6, slcT, lenT, absI, intI, tupleT, listT, listRl, decide_true, decide_false, if_true, if_false, Bool.false_eq_true, reduceIte, decide_eq_true_eq, Bool.not_true, Bool.not_false, line, mI_int, mI_bool, mI_str, mI_tuple, mI_list, mB_int, mB_bool, mB_str, mB_tuple, mB_list, mS_int, mS_bool, mS_str, mS_tuple, mS_list, mT_int, mT_bool, mT_str, mT_tuple, mT_list, mN_int, mN_bool, mN_str, mN_tuple, mN_list, anyT, anyF, Nat.zero_add, Nat.reduceAdd, Nat.reduceLeDiff, true_and, lenL hq]
  refine draw_ok (by omega) (by omega) (by omega) hz st fun r S' r0 r1 o st' => ?_
  have hr : r.toNat < l.length := by omega
  rw [ixL (o q _ haq hq) (atIk r.toNat (by omega) (show l[r.toNat]? = some l[r.toNat] by simp [hr]))]
  exact ⟨S', Sto.le_refl, hQ _ _ (List.getElem_mem hr) o st'⟩
end K50
namespace K50
open PySem PySem.Spec PyProof.Rows L2 Mi
variable {k : Nat} {S : Sto} {Q : KD} {X : KX} {pp : Addr} {m n : Nat} {i j : Int}
def Sz (n : Nat) (i : Int) : Prop := i.natAbs < 2 ^ n
theorem Sz.mul (h : Sz m i) (g : Sz n j) : Sz (m + n) (i * j) := by
  unfold Sz at *
  rw [Int.natAbs_mul, Nat.pow_add]
  exact Nat.mul_lt_mul'' h g
theorem Sz.add (h : Sz n i) (g : Sz n j) : Sz (n + 1) (i + j) := by
  unfold Sz at *
  rw [Nat.pow_succ]
  have := Int.natAbs_add_le i j
  omega
theorem Sz.sub (h : Sz n i) (g : Sz n j) : Sz (n + 1) (i - j) := by
  unfold Sz at *
  rw [Nat.pow_succ]
  have := Int.natAbs_sub_le i j
  omega
theorem Sz.neg (h : Sz n i) : Sz n (-i) := by
  unfold Sz at *
  rw [Int.natAbs_neg]
  exact h
theorem Sz.mono (h : Sz m i) (hn : m ≤ n) : Sz n i := Nat.lt_of_lt_of_le h (Nat.pow_le_pow_right (by decide) hn)
theorem Sz.log (h : Sz n i) : i.natAbs.log2 ≤ n := by
  by_cases h0 : i.natAbs = 0
  · rw [h0]; exact Nat.zero_le _
  · have := (Nat.log2_lt h0).mpr h
    omega
theorem Sz.cm (h : Sz m i) (g : Sz n j) (hm : m ≤ 4000 := by decide) (hn : n ≤ 4000 := by decide) : CMulW i j := by
  have := h.log
  have := g.log
  unfold CMulW
  omega
theorem Sz.cd (h : Sz n j) (hj : 0 < j) (hn : n ≤ 4000 := by decide) : CDivW i j := ⟨hj, by have := h.log; omega⟩
def nrm (n d : Int) : D := .tup [.int (n / (Int.gcd n d : Int)), .int (d / (Int.gcd n d : Int))]
theorem gcd_lt {n d : Int} (hd : 0 < d) : 0 < (Int.gcd n d : Int) ∧ (Int.gcd n d : Int) ≤ d := by
  obtain ⟨m, rfl⟩ : ∃ m : Nat, d = (m : Int) := ⟨d.toNat, by omega⟩
  have hm : 0 < m := by omega
  have g0 : 0 < Nat.gcd n.natAbs m := Nat.gcd_pos_of_pos_right _ hm
  have g1 : Nat.gcd n.natAbs m ≤ m := Nat.gcd_le_right _ hm
  have e : Int.gcd n (m : Int) = Nat.gcd n.natAbs m := rfl
  rw [e]
  omega
theorem gcd_sz {n d : Int} (hd : 0 < d) (s : Sz m d) : Sz m (Int.gcd n d : Int) := by
  have := gcd_lt (n := n) hd
  unfold Sz at *
  omega
theorem lfrac {n d : Int} (hk : 1 < k) (hd : 0 < d) (sd : Sz m d) (hm : m ≤ 4000) (hQ : Q (nrm n d) S) : Γ k "_law_fraction" [.int n, .int d] S Q X := by
  cases k with
  | zero => omega
  | succ k =>
  refine gam (np := 2) (nn := 3) (b := b__law_fraction) rfl rfl ?_
  simp only [b__law_fraction, wSs, wS, wT, wE, wEs, wO, wC, wI, wG, wGs, startD, List.map_cons, List.map_nil, List.length_cons, List.length_nil, List.replicate, List.cons_append, List.nil_append, List.append_nil, List.set_cons_zero, List.set_cons_succ, List.getElem?_cons_zero, List.getElem?_cons_succ, itT, wipeD, opAddI, opSubI, opMulI, opDivI, opModI, opPowI, opAddT, cmEq, cmNe, cmLt, cmLe, cmGt, cmGe, cmIn, eqI, eqS, inS2, truB, ixT0, ixT1, ixT2, ixT3, ixT4, ixT6, slcT, lenT, absI, intI, tupleT, listT, listRl, decide_true, decide_false, if_true, if_false, Bool.false_eq_true, reduceIte, decide_eq_true_eq, Bool.not_true, Bool.not_false, line, mI_int, mI_bool, mI_str, mI_tuple, mI_list, mB_int, mB_bool, mB_str, mB_tuple, mB_list, mS_int, mS_bool, mS_str, mS_tuple, mS_list, mT_int, mT_bool, mT_str, mT_tuple, mT_list, mN_int, mN_bool, mN_str, mN_tuple, mN_list, anyT, anyF, Nat.zero_add, Nat.reduceAdd, Nat.reduceLeDiff, true_and]
  have e1 : (if n < 0 then -n else n) = ((n.natAbs : Nat) : Int) := by split <;> omega
  have h := gcd_lt (n := n) hd
  have hs := gcd_sz (n := n) hd sd
  obtain ⟨q, rfl⟩ : ∃ q : Nat, d = (q : Int) := ⟨d.toNat, by omega⟩
  rw [e1]
  refine gcd_ok (by omega) ?_
  exact ⟨hs.cd h.1 hm, hs.cd h.1 hm, S, Sto.le_refl, hQ⟩
theorem frac {n d : Int} (hk : 0 < k) (hd : d ≠ 0) (sd : Sz m d) (hm : m ≤ 4000) (hQ : Q (if d < 0 then nrm (-n) (-d) else nrm n d) S) : Γ k "fraction" [.int n, .int d] S Q X := by
  cases k with
  | zero => omega
  | succ k =>
  refine gam (np := 2) (nn := 3) (b := b_fraction) rfl rfl ?_
  simp only [b_fraction, wSs, wS, wT, wE, wEs, wO, wC, wI, wG, wGs, startD, List.map_cons, List.map_nil, List.length_cons, List.length_nil, List.replicate, List.cons_append, List.nil_append, List.append_nil, List.set_cons_zero, List.set_cons_succ, List.getElem?_cons_zero, List.getElem?_cons_succ, itT, wipeD, opAddI, opSubI, opMulI, opDivI, opModI, opPowI, opAddT, cmEq, cmNe, cmLt, cmLe, cmGt, cmGe, cmIn, eqI, eqS, inS2, truB, ixT0, ixT1, ixT2, ixT3, ixT4, ixT6, slcT, lenT, absI, intI, tupleT, listT, listRl, decide_true, decide_false, if_true, if_false, Bool.false_eq_true, reduceIte, decide_eq_true_eq, Bool.not_true, Bool.not_false, line, mI_int, mI_bool, mI_str, mI_tuple, mI_list, mB_int, mB_bool, mB_str, mB_tuple, mB_list, mS_int, mS_bool, mS_str, mS_tuple, mS_list, mT_int, mT_bool, mT_str, mT_tuple, mT_list, mN_int, mN_bool, mN_str, mN_tuple, mN_list, anyT, anyF, Nat.zero_add, Nat.reduceAdd, Nat.reduceLeDiff, true_and, bltR]
  by_cases h0 : d < 0
  · rw [if_pos h0] at hQ ⊢
    have h := gcd_lt (n := -n) (d := -d) (by omega)
    have hs := gcd_sz (n := -n) (d := -d) (by omega) sd.neg
    exact ⟨hs.cd h.1 hm, hs.cd h.1 hm, S, Sto.le_refl, hQ⟩
  · rw [if_neg h0] at hQ ⊢
    have h := gcd_lt (n := n) (d := d) (by omega)
    have hs := gcd_sz (n := n) (d := d) (by omega) sd
    exact ⟨hs.cd h.1 hm, hs.cd h.1 hm, S, Sto.le_refl, hQ⟩
end K50
namespace K50
open PySem PySem.Spec PyProof.Rows L2 Mi
def rs (n d i : Nat) : Nat := (2 ^ i * n) % d
def dg (n d i : Nat) : Nat := 2 * rs n d i / d
variable {n d s o i j T : Nat}
theorem rs_succ : rs n d (i + 1) = 2 * rs n d i % d := by
  unfold rs
  rw [Nat.pow_succ, show 2 ^ i * 2 * n = 2 * (2 ^ i * n) by rw [Nat.mul_comm (2 ^ i) 2, Nat.mul_assoc], Nat.mul_mod_mod]
theorem rs_lt (h : 0 < d) : rs n d i < d := Nat.mod_lt _ h
theorem rs_zero (h : n < d) : rs n d 0 = n := by unfold rs; rw [Nat.pow_zero, Nat.one_mul, Nat.mod_eq_of_lt h]
theorem dg_lt (h : 0 < d) : dg n d i < 2 := by
  unfold dg
  have := rs_lt (n := n) (i := i) h
  exact (Nat.div_lt_iff_lt_mul h).mpr (by omega)
structure Fc (n d s o : Nat) : Prop where
  e : d = 2 ^ s * o
  odd : o % 2 = 1
  lt : n < d
  cop : Nat.gcd n d = 1
theorem Fc.pos (h : Fc n d s o) : 0 < d := Nat.lt_of_le_of_lt (Nat.zero_le _) h.lt
theorem odd_cop (h : i % 2 = 1) (m : Nat) : Nat.Coprime i (2 ^ m) := by
  refine Nat.Coprime.pow_right m ?_
  have h1 : Nat.gcd i 2 ∣ 2 := Nat.gcd_dvd_right _ _
  have h2 : Nat.gcd i 2 ∣ i := Nat.gcd_dvd_left _ _
  have h3 := Nat.le_of_dvd (by decide) h1
  show Nat.gcd i 2 = 1
  have h4 : Nat.gcd i 2 ≠ 0 := fun z => by rw [z] at h1; revert h1; decide
  have : Nat.gcd i 2 = 1 ∨ Nat.gcd i 2 = 2 := by omega
  rcases this with q | q
  · exact q
  · rw [q] at h2
    omega
theorem dvd_of_rs (h : rs n d i = rs n d j) (hij : i < j) : d ∣ 2 ^ i * (n * (2 ^ (j - i) - 1)) := by
  have h1 := Nat.sub_mod_eq_zero_of_mod_eq (show 2 ^ j * n % d = 2 ^ i * n % d from h.symm)
  have e : 2 ^ j * n - 2 ^ i * n = 2 ^ i * (n * (2 ^ (j - i) - 1)) := by
    rw [show 2 ^ j = 2 ^ i * 2 ^ (j - i) by rw [← Nat.pow_add]; congr 1; omega, ← Nat.sub_mul, Nat.mul_comm n, ← Nat.mul_assoc, Nat.mul_sub, Nat.mul_one]
  rw [e] at h1
  exact Nat.dvd_of_mod_eq_zero h1
theorem odd_pow (h : 1 ≤ i) : (2 ^ i - 1) % 2 = 1 := by
  obtain ⟨k, rfl⟩ : ∃ k, i = k + 1 := ⟨i - 1, by omega⟩
  have := Nat.two_pow_pos k
  rw [Nat.pow_succ]
  omega
theorem Fc.cop2 (f : Fc n d s o) : Nat.Coprime n (2 ^ s) := Nat.Coprime.coprime_dvd_right ⟨o, f.e⟩ f.cop
theorem Fc.copo (f : Fc n d s o) : Nat.Coprime n o := Nat.Coprime.coprime_dvd_right ⟨2 ^ s, by rw [Nat.mul_comm]; exact f.e⟩ f.cop
theorem rs_low (f : Fc n d s o) (h : rs n d i = rs n d j) (hij : i < j) : s ≤ i := by
  have h1 : 2 ^ s ∣ 2 ^ i * (n * (2 ^ (j - i) - 1)) := Nat.dvd_trans ⟨o, f.e⟩ (dvd_of_rs h hij)
  have h2 : Nat.Coprime (2 ^ s) (n * (2 ^ (j - i) - 1)) := Nat.Coprime.mul_right f.cop2.symm (odd_cop (odd_pow (by omega)) s).symm
  exact (Nat.pow_dvd_pow_iff_le_right (by decide)).mp (h2.dvd_of_dvd_mul_right h1)
theorem rs_back (f : Fc n d s o) (h : rs n d i = rs n d j) (hij : i < j) : rs n d (s + (j - i)) = rs n d s := by
  have h1 : o ∣ 2 ^ i * (n * (2 ^ (j - i) - 1)) := Nat.dvd_trans ⟨2 ^ s, by rw [Nat.mul_comm]; exact f.e⟩ (dvd_of_rs h hij)
  have h2 : o ∣ n * (2 ^ (j - i) - 1) := (odd_cop f.odd i).dvd_of_dvd_mul_left h1
  obtain ⟨c, hc⟩ := f.copo.symm.dvd_of_dvd_mul_left h2
  have hp := Nat.two_pow_pos (j - i)
  have e : 2 ^ (s + (j - i)) * n = 2 ^ s * n + d * (c * n) := by
    have e1 : 2 ^ (j - i) = 1 + o * c := by omega
    rw [Nat.pow_add, e1, f.e, Nat.mul_add, Nat.mul_one, Nat.add_mul]
    congr 1
    simp only [Nat.mul_assoc]
  unfold rs
  rw [e, Nat.add_mul_mod_self_left]
def Fst (n d s T : Nat) : Prop := 1 ≤ T ∧ rs n d (s + T) = rs n d s ∧ ∀ u, 1 ≤ u → u < T → rs n d (s + u) ≠ rs n d s
theorem fst_below (f : Fc n d s o) (h : Fst n d s T) : ∀ m, m < s + T → ∀ j, j < m → rs n d j ≠ rs n d m := fun m hm j hj e => by
  have h1 := rs_low f e hj
  have h2 := rs_back f e hj
  exact h.2.2 (m - j) (by omega) (by omega) h2
theorem none_below (f : Fc n d s o) {M : Nat} (h : ∀ u, 1 ≤ u → s + u ≤ M → rs n d (s + u) ≠ rs n d s) : ∀ m, m ≤ M → ∀ j, j < m → rs n d j ≠ rs n d m := fun m hm j hj e => by
  have h1 := rs_low f e hj
  have h2 := rs_back f e hj
  exact h (m - j) (by omega) (by omega) h2
theorem rs_per (h : rs n d (s + T) = rs n d s) : ∀ i, s ≤ i → rs n d (i + T) = rs n d i := by
  intro i hi
  obtain ⟨k, rfl⟩ : ∃ k, i = s + k := ⟨i - s, by omega⟩
  clear hi
  induction k with
  | zero => exact h
  | succ k ih => rw [show s + (k + 1) + T = (s + k + T) + 1 by omega, rs_succ, ih, ← rs_succ]; rfl
theorem rs_fin (f : Fc n d s 1) (h : s ≤ i) : rs n d i = 0 := by
  unfold rs
  refine Nat.mod_eq_zero_of_dvd ?_
  rw [f.e, Nat.mul_one]
  exact Nat.dvd_trans (Nat.pow_dvd_pow 2 h) ⟨n, rfl⟩
theorem fst_fin (f : Fc n d s 1) : Fst n d s 1 := ⟨Nat.le_refl _, by rw [rs_fin f (by omega), rs_fin f (by omega)], fun u h1 h2 => absurd h1 (by omega)⟩
theorem dg_fin (f : Fc n d s 1) (h : s ≤ i) : dg n d i = 0 := by
  unfold dg
  rw [rs_fin f h]
  simp
theorem rs_ne (f : Fc n d s o) (h : i < s ∨ o ≠ 1) : rs n d i ≠ 0 := fun z => by
  have h1 : d ∣ 2 ^ i * n := Nat.dvd_of_mod_eq_zero z
  have h2 : d ∣ 2 ^ i := by
    have : Nat.Coprime d n := by show Nat.gcd d n = 1; rw [Nat.gcd_comm]; exact f.cop
    exact this.dvd_of_dvd_mul_right h1
  rcases h with h | h
  · have h3 : 2 ^ s ∣ 2 ^ i := Nat.dvd_trans ⟨o, f.e⟩ h2
    have := (Nat.pow_dvd_pow_iff_le_right (by decide : 1 < 2)).mp h3
    omega
  · have h3 : o ∣ 2 ^ i := Nat.dvd_trans ⟨2 ^ s, by rw [Nat.mul_comm]; exact f.e⟩ h2
    exact h ((odd_cop f.odd i).eq_one_of_dvd h3)
theorem dg_last (f : Fc n d s 1) (h : 0 < s) : dg n d (s - 1) = 1 := by
  have h1 := rs_ne f (i := s - 1) (.inl (by omega))
  have h2 : rs n d s = 0 := rs_fin f (Nat.le_refl _)
  rw [show s = (s - 1) + 1 by omega, rs_succ] at h2
  have h3 := rs_lt (n := n) (i := s - 1) f.pos
  obtain ⟨c, hc⟩ := Nat.dvd_of_mod_eq_zero h2
  have hp := f.pos
  unfold dg
  rw [hc, Nat.mul_div_cancel_left _ hp]
  have h4 : d * c < d * 2 := by omega
  have h5 : c < 2 := Nat.lt_of_mul_lt_mul_left h4
  have h6 : c ≠ 0 := fun z => by rw [z] at hc; omega
  omega
theorem dg_per (f : Fc n d s o) (ho : o ≠ 1) (h1 : 1 ≤ T) (h : rs n d (s + T) = rs n d s) : ∃ u, u < T ∧ dg n d (s + u) ≠ 0 := by
  refine Classical.byContradiction fun hn => ?_
  have hz : ∀ u, u < T → dg n d (s + u) = 0 := fun u hu => Classical.byContradiction fun q => hn ⟨u, hu, q⟩
  have key : ∀ u, u ≤ T → rs n d (s + u) = 2 ^ u * rs n d s := by
    intro u
    induction u with
    | zero => intro _; rw [Nat.pow_zero, Nat.one_mul]; rfl
    | succ u ih =>
      intro hu
      have e := hz u (by omega)
      unfold dg at e
      have hl : 2 * rs n d (s + u) < d := by
        have := (Nat.div_eq_zero_iff).mp e
        have := f.pos
        omega
      rw [show s + (u + 1) = (s + u) + 1 by omega, rs_succ, Nat.mod_eq_of_lt hl, ih (by omega), Nat.pow_succ]
      rw [← Nat.mul_assoc, Nat.mul_comm 2]
  have h2 := key T (Nat.le_refl _)
  have h3 := rs_ne f (i := s) (.inr ho)
  rw [h] at h2
  have h4 : 2 ≤ 2 ^ T := by
    obtain ⟨k, rfl⟩ : ∃ k, T = k + 1 := ⟨T - 1, by omega⟩
    have := Nat.two_pow_pos k
    rw [Nat.pow_succ]
    omega
  have h5 : 2 * rs n d s ≤ 2 ^ T * rs n d s := Nat.mul_le_mul_right _ h4
  omega
end K50
namespace K50
open PySem PySem.Spec PyProof.Rows L2 Mi
variable {k : Nat} {S : Sto} {Q : KD} {X : KX} {n d s o i j T : Nat}
def fr (n d : Int) : D := .tup [.int n, .int d]
def dgL (n d a m : Nat) : List D := (List.range m).map fun i => D.int (dg n d (a + i) : Nat)
theorem dgL_len {a m : Nat} : (dgL n d a m).length = m := by unfold dgL; simp
theorem dgL_succ {a m : Nat} : dgL n d a (m + 1) = dgL n d a m ++ [D.int (dg n d (a + m) : Nat)] := by unfold dgL; rw [List.range_succ, List.map_append]; rfl
theorem whl_inv {T : En → Sto → (Bool → Sto → Prop) → Prop} {B : De → En → Sto → Prop} {N : De} (I : Nat → En → Sto → Prop) (m : Nat)
    (step : ∀ i σ S (NX : En → Sto → Prop), i < m → I i σ S → (∀ σ' S', I (i + 1) σ' S' → NX σ' S') → T σ S fun c S' => if c = true then B { N with nx := NX, ct := NX, bk := N.nx } σ S' else N.nx σ S')
    (fin : ∀ σ S (NX : En → Sto → Prop), I m σ S → T σ S fun c S' => if c = true then B { N with nx := NX, ct := NX, bk := N.nx } σ S' else N.nx σ S') {σ : En} {S : Sto} (h0 : I 0 σ S) : ∃ n, whlL T B n N σ S := by
  have key : ∀ (r i : Nat) (σ : En) (S : Sto), i + r = m → I i σ S → whlL T B (r + 1) N σ S := by
    intro r
    induction r with
    | zero => intro i σ S e h; have e : i = m := e; subst e; exact fin σ S _ h
    | succ r ih => intro i σ S e h; exact step i σ S _ (by omega) h fun σ' S' h' => ih (i + 1) σ' S' (by omega) h'
  exact ⟨m + 1, key m 0 σ S (by omega) h0⟩
theorem eqI2 {i j : Nat} {QB : Bool → Prop} : eqR (.int (i : Int)) (.int (j : Int)) S QB = QB (decide (i = j)) := by
  rw [eqI]
  congr 1
  exact decide_eq_decide.mpr ⟨fun h => by omega, fun h => by omega⟩
theorem szn {m i : Nat} (h : i < 2 ^ m) : Sz m (i : Int) := by unfold Sz; simpa using h
theorem hM : G0 "MOST_DIGITS" = some (.int 64) := rfl
theorem d_lt (f : Fc n d s o) (hd : d < 2 ^ 70) : s < 70 := by
  have h1 : 2 ^ s ≤ d := by
    rw [f.e]
    have : o ≠ 0 := fun z => by have := f.odd; rw [z] at this; omega
    exact Nat.le_mul_of_pos_right _ (by omega)
  exact (Nat.pow_lt_pow_iff_right (by decide : 1 < 2)).mp (Nat.lt_of_le_of_lt h1 hd)
theorem le_upd {S S' : Sto} {t : Addr} {c : Cell} (h : S.le S') (ht : S t = none) : S.le (S'.upd t c) := fun a x e => by
  rw [Sto.upd_ne (Sto.ne_of e ht)]
  exact h a x e
theorem digits_ok (hk : 0 < k) (f : Fc n d s o) (hd : d < 2 ^ 70) (h1 : s ≤ 64 → o = 1 → Q (.tup [.tup (dgL n d 0 s), .tup []]) S) (h2 : ∀ T, s + T ≤ 64 → o ≠ 1 → Fst n d s T → Q (.tup [.tup (dgL n d 0 s), .tup (dgL n d s T)]) S)
    (h3 : (64 < s ∨ (o ≠ 1 ∧ ∀ T, s + T ≤ 64 → ¬ Fst n d s T)) → X ⟨"NotFit", [("word", .str "digits")]⟩ S) : Γ k "digits" [fr n d] S Q X := by
  cases k with
  | zero => omega
  | succ k =>
  refine gam (np := 1) (nn := 8) (b := b_digits) rfl rfl ?_
  have hp := f.pos
  have sd : Sz 70 (d : Int) := szn hd
  have sr : ∀ i, Sz 70 (rs n d i : Int) := fun i => szn (Nat.lt_trans (rs_lt hp) hd)
  have s2 : Sz 2 2 := by unfold Sz; decide
  simp only [b_digits, fr, wSs, wS, wT, wE, wEs, wO, wC, wI, wG, wGs, startD, List.map_cons, List.map_nil, List.length_cons, List.length_nil, List.replicate, List.cons_append, List.nil_append, List.append_nil, List.set_cons_zero, List.set_cons_succ, List.getElem?_cons_zero, List.getElem?_cons_succ, itT, wipeD, opAddI, opSubI, opMulI, opDivI, opModI, opPowI, opAddT, cmEq, cmNe, cmLt, cmLe, cmGt, cmGe, cmIn, eqI, eqS, inS2, truB, ixT0, ixT1, ixT2, ixT3, ixT4, ixT6, slcT, lenT, absI, intI, tupleT, listT, listRl, decide_true, decide_false, if_true, if_false, Bool.false_eq_true, reduceIte, decide_eq_true_eq, Bool.not_true, Bool.not_false, line, mI_int, mI_bool, mI_str, mI_tuple, mI_list, mB_int, mB_bool, mB_str, mB_tuple, mB_list, mS_int, mS_bool, mS_str, mS_tuple, mS_list, mT_int, mT_bool, mT_str, mT_tuple, mT_list, mN_int, mN_bool, mN_str, mN_tuple, mN_list, anyT, anyF, Nat.zero_add, Nat.reduceAdd, Nat.reduceLeDiff, true_and]
  intro p hp0
  refine whl_inv (fun i σ S' => σ = [some (.tup [.int n, .int d]), some (.int ((2 ^ (s - i) * o : Nat) : Int)), some (.ref p), none, none, none, some (.int (rs n d i)), some (.int d)] ∧ S' p = some (.lst (dgL n d 0 i)) ∧ S.le S') s ?_ ?_ ⟨?_, Sto.upd_same, Sto.le_new hp0⟩
  · rintro i σ S' NX hi ⟨rfl, g1, g2⟩ hN
    simp only [e_digits_2, s_digits_1, wSs, wS, wT, wE, wEs, wO, wC, wI, wG, wGs, startD, List.map_cons, List.map_nil, List.length_cons, List.length_nil, List.replicate, List.cons_append, List.nil_append, List.append_nil, List.set_cons_zero, List.set_cons_succ, List.getElem?_cons_zero, List.getElem?_cons_succ, itT, wipeD, opAddI, opSubI, opMulI, opDivI, opModI, opPowI, opAddT, cmEq, cmNe, cmLt, cmLe, cmGt, cmGe, cmIn, eqI, eqS, inS2, truB, ixT0, ixT1, ixT2, ixT3, ixT4, ixT6, slcT, lenT, absI, intI, tupleT, listT, listRl, decide_true, decide_false, if_true, if_false, Bool.false_eq_true, reduceIte, decide_eq_true_eq, Bool.not_true, Bool.not_false, line, mI_int, mI_bool, mI_str, mI_tuple, mI_list, mB_int, mB_bool, mB_str, mB_tuple, mB_list, mS_int, mS_bool, mS_str, mS_tuple, mS_list, mT_int, mT_bool, mT_str, mT_tuple, mT_list, mN_int, mN_bool, mN_str, mN_tuple, mN_list, anyT, anyF, Nat.zero_add, Nat.reduceAdd, Nat.reduceLeDiff, true_and, mtyA g1]
    have e2 : 2 ^ (s - i) * o = 2 * (2 ^ (s - (i + 1)) * o) := by rw [show s - i = (s - (i + 1)) + 1 by omega, Nat.pow_succ, ← Nat.mul_assoc, Nat.mul_comm (2 ^ _) 2]
    refine ⟨by decide, ?_⟩
    rw [if_pos (by rw [e2]; omega)]
    refine ⟨s2.cd (by decide), s2.cm (sr i), sd.cd (by omega), ?_⟩
    rw [appL g1, dgL_len]
    refine ⟨by have := Mi.line; have := d_lt f hd; omega, s2.cm (sr i), by omega, hN _ _ ⟨?_, ?_, le_upd g2 hp0⟩⟩
    · have e3 : ((2 ^ (s - i) * o : Nat) : Int) / 2 = ((2 ^ (s - (i + 1)) * o : Nat) : Int) := by rw [e2]; omega
      rw [e3, rs_succ]
      rfl
    · rw [Sto.upd_same, dgL_succ, Nat.zero_add]
      rfl
  · rintro σ S' NX ⟨rfl, g1, g2⟩
    simp only [e_digits_2, s_digits_1, wSs, wS, wT, wE, wEs, wO, wC, wI, wG, wGs, startD, List.map_cons, List.map_nil, List.length_cons, List.length_nil, List.replicate, List.cons_append, List.nil_append, List.append_nil, List.set_cons_zero, List.set_cons_succ, List.getElem?_cons_zero, List.getElem?_cons_succ, itT, wipeD, opAddI, opSubI, opMulI, opDivI, opModI, opPowI, opAddT, cmEq, cmNe, cmLt, cmLe, cmGt, cmGe, cmIn, eqI, eqS, inS2, truB, ixT0, ixT1, ixT2, ixT3, ixT4, ixT6, slcT, lenT, absI, intI, tupleT, listT, listRl, decide_true, decide_false, if_true, if_false, Bool.false_eq_true, reduceIte, decide_eq_true_eq, Bool.not_true, Bool.not_false, line, mI_int, mI_bool, mI_str, mI_tuple, mI_list, mB_int, mB_bool, mB_str, mB_tuple, mB_list, mS_int, mS_bool, mS_str, mS_tuple, mS_list, mT_int, mT_bool, mT_str, mT_tuple, mT_list, mN_int, mN_bool, mN_str, mN_tuple, mN_list, anyT, anyF, Nat.zero_add, Nat.reduceAdd, Nat.reduceLeDiff, true_and, mtyA g1]
    have e2 : 2 ^ (s - s) * o = o := by rw [Nat.sub_self, Nat.pow_zero, Nat.one_mul]
    rw [e2]
    have hodd := f.odd
    refine ⟨by decide, ?_⟩
    rw [if_neg (by omega), lenL g1, dgL_len, hM]
    dsimp only
    rw [cmGt]
    by_cases hs : 64 < s
    · rw [if_pos (by simp; omega)]
      exact ⟨by decide, S, g2, h3 (.inl hs)⟩
    rw [if_neg (by simp; omega)]
    by_cases ho : o = 1
    · subst ho
      rw [if_pos (by decide), tupleL g1]
      exact ⟨S, g2, h1 (by omega) rfl⟩
    rw [if_neg (by omega)]
    intro q hq
    have hpq : p ≠ q := Sto.ne_of g1 hq
    have g1' : (S'.upd q (.lst [])) p = some (.lst (dgL n d 0 s)) := by rw [Sto.upd_ne hpq]; exact g1
    rw [lenL g1', dgL_len]
    simp only [opSubI]
    refine ⟨by unfold inB; omega, ?_⟩
    have em : ((64 : Int) - (s : Int)).toNat = 64 - s := by omega
    rw [em]
    refine forL_inv (rngD 0 (64 - s)) (fun i σ S2 => ∃ x5, σ = [some (.tup [.int n, .int d]), some (.int o), some (.ref p), some (.int (rs n d s)), some (.ref q), x5, some (.int (rs n d (s + i))), some (.int d)] ∧ S2 p = some (.lst (dgL n d 0 s)) ∧ S2 q = some (.lst (dgL n d s i)) ∧ S.le S2 ∧ ∀ u, 1 ≤ u → u ≤ i → rs n d (s + u) ≠ rs n d s) (fun _ _ _ _ => trivial) ?_ ?_ ⟨_, rfl, g1', Sto.upd_same, Sto.le_new' g2 hq, fun u h1 h2 => absurd h1 (by omega)⟩
    · rintro i dd σ S2 NX' hd' ⟨x5, rfl, k1, k2, k3, k4⟩ hN
      have hi : i < 64 - s := by
        have := (List.getElem?_eq_some_iff.mp hd').1
        simpa [rngD] using this
      simp only [s_digits_3, wSs, wS, wT, wE, wEs, wO, wC, wI, wG, wGs, startD, List.map_cons, List.map_nil, List.length_cons, List.length_nil, List.replicate, List.cons_append, List.nil_append, List.append_nil, List.set_cons_zero, List.set_cons_succ, List.getElem?_cons_zero, List.getElem?_cons_succ, itT, wipeD, opAddI, opSubI, opMulI, opDivI, opModI, opPowI, opAddT, cmEq, cmNe, cmLt, cmLe, cmGt, cmGe, cmIn, eqI, eqS, inS2, truB, ixT0, ixT1, ixT2, ixT3, ixT4, ixT6, slcT, lenT, absI, intI, tupleT, listT, listRl, decide_true, decide_false, if_true, if_false, Bool.false_eq_true, reduceIte, decide_eq_true_eq, Bool.not_true, Bool.not_false, line, mI_int, mI_bool, mI_str, mI_tuple, mI_list, mB_int, mB_bool, mB_str, mB_tuple, mB_list, mS_int, mS_bool, mS_str, mS_tuple, mS_list, mT_int, mT_bool, mT_str, mT_tuple, mT_list, mN_int, mN_bool, mN_str, mN_tuple, mN_list, anyT, anyF, Nat.zero_add, Nat.reduceAdd, Nat.reduceLeDiff, true_and, mtyA k2]
      refine ⟨s2.cm (sr _), sd.cd (by omega), ?_⟩
      rw [appL k2, dgL_len]
      refine ⟨by have := Mi.line; omega, s2.cm (sr _), by omega, ?_⟩
      have er : (2 * (rs n d (s + i) : Int) % (d : Int)) = ((rs n d (s + (i + 1)) : Nat) : Int) := by rw [show s + (i + 1) = (s + i) + 1 by omega, rs_succ]; rfl
      have ed : (2 * (rs n d (s + i) : Int) / (d : Int)) = ((dg n d (s + i) : Nat) : Int) := rfl
      rw [er, ed]
      have k1' : (S2.upd q (.lst (dgL n d s i ++ [.int (dg n d (s + i) : Nat)]))) p = some (.lst (dgL n d 0 s)) := by rw [Sto.upd_ne hpq]; exact k1
      have k2' : (S2.upd q (.lst (dgL n d s i ++ [.int (dg n d (s + i) : Nat)]))) q = some (.lst (dgL n d s (i + 1))) := by rw [Sto.upd_same, dgL_succ]
      have k3' : S.le (S2.upd q (.lst (dgL n d s i ++ [.int (dg n d (s + i) : Nat)]))) := fun b c hb => by
        have hbq : b ≠ q := Sto.ne_of (g2 b c hb) hq
        rw [Sto.upd_ne hbq]
        exact k3 b c hb
      by_cases he : rs n d (s + (i + 1)) = rs n d s
      · rw [if_pos (by rw [he]), tupleL k1', tupleL k2']
        exact ⟨S, k3', h2 (i + 1) (by omega) ho ⟨by omega, he, fun u u1 u2 => k4 u u1 (by omega)⟩⟩
      · rw [if_neg (by omega)]
        refine hN _ _ ⟨_, rfl, k1', k2', k3', fun u u1 u2 => ?_⟩
        by_cases hu : u = i + 1
        · rw [hu]; exact he
        · exact k4 u u1 (by omega)
    · rintro σ S2 ⟨x5, rfl, k1, k2, k3, k4⟩
      have hl : (rngD 0 (64 - s)).length = 64 - s := by simp [rngD]
      rw [hl] at k4
      exact ⟨by decide, S, k3, h3 (.inr ⟨ho, fun T hT hF => k4 T hF.1 (by omega) hF.2.1⟩)⟩
  · rw [Nat.sub_zero, ← f.e, rs_zero f.lt]
end K50
namespace K50
open PySem PySem.Spec PyProof.Rows L2 Mi
variable {k : Nat} {S : Sto} {Q : KD} {X : KX} {n d s o i j T : Nat}
def rsL (n d m : Nat) : List D := (List.range m).map fun i => D.int (rs n d i : Nat)
theorem rsL_len {m : Nat} : (rsL n d m).length = m := by unfold rsL; simp
theorem rsL_succ {m : Nat} : rsL n d (m + 1) = rsL n d m ++ [D.int (rs n d m : Nat)] := by unfold rsL; rw [List.range_succ, List.map_append]; rfl
theorem asInts_map (l : List Int) : asInts (l.map D.int) = some l := by
  induction l with
  | nil => rfl
  | cons x l ih => simp only [List.map_cons, asInts, ih]; rfl
theorem rsL_ints {m : Nat} : asInts (rsL n d m) = some ((List.range m).map fun i => ((rs n d i : Nat) : Int)) := by
  unfold rsL
  rw [← asInts_map, List.map_map]
  rfl
theorem inD_rs {m x : Nat} : inD (.int (x : Int)) (rsL n d m) = decide (∃ j, j < m ∧ rs n d j = x) := by
  unfold inD rsL
  rw [List.any_map, Bool.eq_iff_iff, List.any_eq_true, decide_eq_true_eq]
  constructor
  · rintro ⟨j, hj, h⟩
    rw [List.mem_range] at hj
    refine ⟨j, hj, ?_⟩
    have h : D.eqv (.int (rs n d j : Nat)) (.int (x : Nat)) = true := h
    simp only [D.eqv, beq_iff_eq] at h
    omega
  · rintro ⟨j, hj, h⟩
    refine ⟨j, List.mem_range.mpr hj, ?_⟩
    show D.eqv (.int (rs n d j : Nat)) (.int (x : Nat)) = true
    simp only [D.eqv, beq_iff_eq]
    rw [h]
theorem flat_rs {m : Nat} : (rsL n d m).all flatD = true := by
  unfold rsL
  rw [List.all_map]
  exact List.all_eq_true.mpr fun _ _ => rfl
theorem idxL {a : Addr} {l : List D} {ns : List Int} {x : Int} {j : Nat} {Q : KD} (h : S a = some (.lst l)) (hn : asInts l = some ns) (h1 : ns[j]? = some x) (h2 : ∀ m, m < j → ns[m]? ≠ some x) (hQ : Q (.int j) S) : mthR .index (.ref a) [.int x] S Q := by
  simp only [mthR, h, hn]
  exact ⟨j, h1, h2, hQ⟩
theorem mtyIx {a : Addr} {l : List D} (h : S a = some (.lst l)) : mtyR .index (.ref a) S = true := by simp only [mtyR, h]
theorem inRL {a : Addr} {l : List D} {x : D} {QB : Bool → Prop} (h : S a = some (.lst l)) (h1 : flatD x = true) (h2 : l.all flatD = true) : Mi.inR x (.ref a) S QB = QB (inD x l) := by
  simp only [Mi.inR, h, h1, h2, true_and]
theorem slcL {a : Addr} {l : List D} {lo hi : Option Int} {Q : KD} (h : S a = some (.lst l)) : slcR (.ref a) lo hi S Q = ∀ p, S p = none → Q (.ref p) (S.upd p (.lst (cutD l lo hi))) := by simp only [slcR, h]
theorem cut_to {l : List D} {j : Nat} (h : j ≤ l.length) : Mi.cutD l none (some (j : Int)) = l.take j := by
  unfold Mi.cutD
  rw [HT.sIx_nat, HT.sIx_none, Nat.min_eq_left h, Nat.sub_zero, List.drop_zero]
theorem cut_from {l : List D} {j : Nat} (h : j ≤ l.length) : Mi.cutD l (some (j : Int)) none = l.drop j := by
  unfold Mi.cutD
  rw [HT.sIx_nat, HT.sIx_none, Nat.min_eq_left h]
  exact List.take_of_length_le (by rw [List.length_drop]; exact Nat.le_refl _)
theorem dgL_take {a m : Nat} (h : j ≤ m) : (dgL n d a m).take j = dgL n d a j := by
  unfold dgL
  rw [← List.map_take, List.take_range, Nat.min_eq_left h]
theorem dgL_drop {a m : Nat} : (dgL n d a m).drop j = dgL n d (a + j) (m - j) := by
  refine List.ext_getElem? fun i => ?_
  rw [List.getElem?_drop]
  unfold dgL
  by_cases hi : i < m - j
  · rw [List.getElem?_map, List.getElem?_map, List.getElem?_range (by omega), List.getElem?_range hi]
    simp only [Option.map_some]
    rw [Nat.add_assoc]
  · rw [List.getElem?_eq_none (by simp; omega), List.getElem?_eq_none (by simp; omega)]
theorem at_last {l : List D} {x : D} : atI (l ++ [x]) (-1) = some x := by
  have hi : ixN (l ++ [x]).length (-1) = some l.length := by
    unfold ixN
    rw [List.length_append, List.length_singleton]
    rw [if_neg (by omega), if_pos (by omega)]
    congr 1
    omega
  unfold atI
  rw [hi]
  simp
theorem ldigits_ok (hk : 0 < k) (f : Fc n d s o) (hd : d < 2 ^ 70) (h1 : ∀ T, s + T ≤ 140 → Fst n d s T → Q (.tup [.tup (dgL n d 0 s), .tup (dgL n d s T)]) S)
    (h2 : (∀ T, s + T ≤ 140 → ¬ Fst n d s T) → Q (.tup [.tup (dgL n d 0 140), .tup [.int 1]]) S) : Γ k "_law_digits" [fr n d] S Q X := by
  cases k with
  | zero => omega
  | succ k =>
  refine gam (np := 1) (nn := 6) (b := b__law_digits) rfl rfl ?_
  have hp := f.pos
  have sd : Sz 70 (d : Int) := szn hd
  have sr : ∀ i, Sz 70 (rs n d i : Int) := fun i => szn (Nat.lt_trans (rs_lt hp) hd)
  have s2 : Sz 2 2 := by unfold Sz; decide
  simp only [b__law_digits, fr, wSs, wS, wT, wE, wEs, wO, wC, wI, wG, wGs, startD, List.map_cons, List.map_nil, List.length_cons, List.length_nil, List.replicate, List.cons_append, List.nil_append, List.append_nil, List.set_cons_zero, List.set_cons_succ, List.getElem?_cons_zero, List.getElem?_cons_succ, itT, wipeD, opAddI, opSubI, opMulI, opDivI, opModI, opPowI, opAddT, cmEq, cmNe, cmLt, cmLe, cmGt, cmGe, cmIn, eqI, eqS, inS2, truB, ixT0, ixT1, ixT2, ixT3, ixT4, ixT6, slcT, lenT, absI, intI, tupleT, listT, listRl, decide_true, decide_false, if_true, if_false, Bool.false_eq_true, reduceIte, decide_eq_true_eq, Bool.not_true, Bool.not_false, line, mI_int, mI_bool, mI_str, mI_tuple, mI_list, mB_int, mB_bool, mB_str, mB_tuple, mB_list, mS_int, mS_bool, mS_str, mS_tuple, mS_list, mT_int, mT_bool, mT_str, mT_tuple, mT_list, mN_int, mN_bool, mN_str, mN_tuple, mN_list, anyT, anyF, Nat.zero_add, Nat.reduceAdd, Nat.reduceLeDiff, true_and]
  intro p hp0
  intro q hq
  have hpq : p ≠ q := Sto.ne_of Sto.upd_same hq
  refine ⟨by unfold inB; decide, ?_⟩
  refine forL_inv (rngD 0 140) (fun i σ S2 => ∃ x3 x4 x5, σ = [some (.tup [.int n, .int d]), some (.ref p), some (.ref q), x3, x4, x5] ∧ S2 p = some (.lst (rsL n d (i + 1))) ∧ S2 q = some (.lst (dgL n d 0 i)) ∧ S.le S2 ∧ ∀ m, m ≤ i → ∀ j, j < m → rs n d j ≠ rs n d m) (fun _ _ _ _ => trivial) ?_ ?_
    ⟨_, _, _, rfl, ?_, Sto.upd_same, Sto.le_new' (Sto.le_new hp0) hq, fun m h1 j h2 => absurd h2 (by omega)⟩
  · rintro i dd σ S2 NX' hd' ⟨x3, x4, x5, rfl, k1, k2, k3, k4⟩ hN
    have hi : i < 140 := by
      have := (List.getElem?_eq_some_iff.mp hd').1
      simpa [rngD] using this
    have kl : atI (rsL n d (i + 1)) (-1) = some (.int (rs n d i : Nat)) := by rw [rsL_succ]; exact at_last
    simp only [s__law_digits_1, wSs, wS, wT, wE, wEs, wO, wC, wI, wG, wGs, startD, List.map_cons, List.map_nil, List.length_cons, List.length_nil, List.replicate, List.cons_append, List.nil_append, List.append_nil, List.set_cons_zero, List.set_cons_succ, List.getElem?_cons_zero, List.getElem?_cons_succ, itT, wipeD, opAddI, opSubI, opMulI, opDivI, opModI, opPowI, opAddT, cmEq, cmNe, cmLt, cmLe, cmGt, cmGe, cmIn, eqI, eqS, inS2, truB, ixT0, ixT1, ixT2, ixT3, ixT4, ixT6, slcT, lenT, absI, intI, tupleT, listT, listRl, decide_true, decide_false, if_true, if_false, Bool.false_eq_true, reduceIte, decide_eq_true_eq, Bool.not_true, Bool.not_false, line, mI_int, mI_bool, mI_str, mI_tuple, mI_list, mB_int, mB_bool, mB_str, mB_tuple, mB_list, mS_int, mS_bool, mS_str, mS_tuple, mS_list, mT_int, mT_bool, mT_str, mT_tuple, mT_list, mN_int, mN_bool, mN_str, mN_tuple, mN_list, anyT, anyF, Nat.zero_add, Nat.reduceAdd, Nat.reduceLeDiff, true_and, mtyA k2]
    rw [ixL k1 kl]
    refine ⟨s2.cm (sr _), sd.cd (by omega), ?_⟩
    dsimp only
    rw [appL k2, dgL_len]
    refine ⟨by have := Mi.line; omega, ?_⟩
    have ed : (2 * (rs n d i : Int) / (d : Int)) = ((dg n d i : Nat) : Int) := rfl
    have er : (2 * (rs n d i : Int) % (d : Int)) = ((rs n d (i + 1) : Nat) : Int) := by rw [rs_succ]; rfl
    have eq : dgL n d 0 i ++ [D.int (dg n d i : Nat)] = dgL n d 0 (i + 1) := by rw [dgL_succ, Nat.zero_add]
    rw [ed, eq]
    have k1' : (S2.upd q (.lst (dgL n d 0 (i + 1)))) p = some (.lst (rsL n d (i + 1))) := by rw [Sto.upd_ne hpq]; exact k1
    have k2' : (S2.upd q (.lst (dgL n d 0 (i + 1)))) q = some (.lst (dgL n d 0 (i + 1))) := Sto.upd_same
    have k3' : S.le (S2.upd q (.lst (dgL n d 0 (i + 1)))) := fun b c hb => by
      have hbq : b ≠ q := Sto.ne_of (Sto.le_new (c := .lst [.int n]) hp0 b c hb) hq
      rw [Sto.upd_ne hbq]
      exact k3 b c hb
    generalize S2.upd q (.lst (dgL n d 0 (i + 1))) = S3 at k1' k2' k3' ⊢
    rw [ixL k1' kl]
    simp only [wSs, wS, wT, wE, wEs, wO, wC, wI, wG, wGs, startD, List.map_cons, List.map_nil, List.length_cons, List.length_nil, List.replicate, List.cons_append, List.nil_append, List.append_nil, List.set_cons_zero, List.set_cons_succ, List.getElem?_cons_zero, List.getElem?_cons_succ, itT, wipeD, opAddI, opSubI, opMulI, opDivI, opModI, opPowI, opAddT, cmEq, cmNe, cmLt, cmLe, cmGt, cmGe, cmIn, eqI, eqS, inS2, truB, ixT0, ixT1, ixT2, ixT3, ixT4, ixT6, slcT, lenT, absI, intI, tupleT, listT, listRl, decide_true, decide_false, if_true, if_false, Bool.false_eq_true, reduceIte, decide_eq_true_eq, Bool.not_true, Bool.not_false, line, mI_int, mI_bool, mI_str, mI_tuple, mI_list, mB_int, mB_bool, mB_str, mB_tuple, mB_list, mS_int, mS_bool, mS_str, mS_tuple, mS_list, mT_int, mT_bool, mT_str, mT_tuple, mT_list, mN_int, mN_bool, mN_str, mN_tuple, mN_list, anyT, anyF, Nat.zero_add, Nat.reduceAdd, Nat.reduceLeDiff, true_and, er]
    refine ⟨s2.cm (sr _), by omega, ?_⟩
    rw [inRL k1' rfl flat_rs, inD_rs]
    by_cases he : ∃ j, j < i + 1 ∧ rs n d j = rs n d (i + 1)
    · obtain ⟨j, hj, e⟩ := he
      rw [if_pos (decide_eq_true ⟨j, hj, e⟩)]
      refine ⟨mtyIx k1', ?_⟩
      have h3 := rs_low f e (by omega)
      have h4 := rs_back f e (by omega)
      have hjs : j = s := by
        refine Classical.byContradiction fun hne => ?_
        exact k4 (s + (i + 1 - j)) (by omega) s (by omega) h4.symm
      subst hjs
      refine idxL (j := j) k1' rsL_ints ?_ ?_ ?_
      · rw [List.getElem?_map, List.getElem?_range hj, Option.map_some, e]
      · intro m hm z
        rw [List.getElem?_map, List.getElem?_range (by omega), Option.map_some] at z
        have z : rs n d m = rs n d (i + 1) := by injection z with z; omega
        exact k4 j (by omega) m hm (z.trans e.symm)
      · dsimp only
        rw [slcL k2']
        intro t ht
        have e1 : Mi.cutD (dgL n d 0 (i + 1)) none (some (j : Int)) = dgL n d 0 j := by rw [cut_to (by rw [dgL_len]; omega), dgL_take (by omega)]
        have e2 : Mi.cutD (dgL n d 0 (i + 1)) (some (j : Int)) none = dgL n d j (i + 1 - j) := by rw [cut_from (by rw [dgL_len]; omega), dgL_drop, Nat.zero_add]
        rw [e1, tupleL Sto.upd_same]
        have hqt : q ≠ t := Sto.ne_of k2' ht
        rw [slcL (by rw [Sto.upd_ne hqt]; exact k2')]
        intro t2 ht2
        rw [e2, tupleL Sto.upd_same]
        refine ⟨S, Sto.le_new' (Sto.le_new' k3' ht) ht2, h1 (i + 1 - j) (by omega) ⟨by omega, h4, fun u u1 u2 z => ?_⟩⟩
        exact k4 (j + u) (by omega) j (by omega) z.symm
    · rw [if_neg (by rw [decide_eq_true_eq]; exact he), mtyA k1', appL k1', rsL_len]
      have hnew : S.le (S3.upd p (.lst (rsL n d (i + 1) ++ [.int (rs n d (i + 1) : Nat)]))) := fun b c hb => by
        have hbp : b ≠ p := Sto.ne_of hb hp0
        rw [Sto.upd_ne hbp]
        exact k3' b c hb
      refine ⟨rfl, by have := Mi.line; omega, hN _ _ ⟨_, _, _, rfl, ?_, ?_, hnew, fun m hm j hj => ?_⟩⟩
      · rw [Sto.upd_same, rsL_succ (m := i + 1)]
      · rw [Sto.upd_ne (Ne.symm hpq)]; exact k2'
      · by_cases hmi : m = i + 1
        · subst hmi
          exact fun z => he ⟨j, hj, z⟩
        · exact k4 m (by omega) j hj
  · rintro σ S2 ⟨x3, x4, x5, rfl, k1, k2, k3, k4⟩
    have hl : (rngD 0 140).length = 140 := by simp [rngD]
    rw [hl] at k2 k4
    simp only [wSs, wS, wT, wE, wEs, wO, wC, wI, wG, wGs, startD, List.map_cons, List.map_nil, List.length_cons, List.length_nil, List.replicate, List.cons_append, List.nil_append, List.append_nil, List.set_cons_zero, List.set_cons_succ, List.getElem?_cons_zero, List.getElem?_cons_succ, itT, wipeD, opAddI, opSubI, opMulI, opDivI, opModI, opPowI, opAddT, cmEq, cmNe, cmLt, cmLe, cmGt, cmGe, cmIn, eqI, eqS, inS2, truB, ixT0, ixT1, ixT2, ixT3, ixT4, ixT6, slcT, lenT, absI, intI, tupleT, listT, listRl, decide_true, decide_false, if_true, if_false, Bool.false_eq_true, reduceIte, decide_eq_true_eq, Bool.not_true, Bool.not_false, line, mI_int, mI_bool, mI_str, mI_tuple, mI_list, mB_int, mB_bool, mB_str, mB_tuple, mB_list, mS_int, mS_bool, mS_str, mS_tuple, mS_list, mT_int, mT_bool, mT_str, mT_tuple, mT_list, mN_int, mN_bool, mN_str, mN_tuple, mN_list, anyT, anyF, Nat.zero_add, Nat.reduceAdd, Nat.reduceLeDiff, true_and]
    rw [tupleL k2]
    exact ⟨S, k3, h2 fun T hT hF => k4 (s + T) hT s (by have := hF.1; omega) hF.2.1.symm⟩
  · rw [Sto.upd_ne hpq, Sto.upd_same]
    show some (Cell.lst [D.int n]) = some (Cell.lst [D.int (rs n d 0 : Nat)])
    rw [rs_zero f.lt]
end K50
namespace K50
open PySem PySem.Spec PyProof.Rows L2 Mi
variable {k : Nat} {S : Sto} {Q : KD} {X : KX} {n d s o i j T p : Nat}
def Bin (n d s o p : Nat) : Prop := (o = 1 ∧ p = 0) ∨ (o ≠ 1 ∧ Fst n d s p)
theorem Bin.uniq {q : Nat} (h : Bin n d s o p) (g : Bin n d s o q) : p = q := by
  rcases h with ⟨h1, h2⟩ | ⟨h1, h2⟩ <;> rcases g with ⟨g1, g2⟩ | ⟨g1, g2⟩
  · omega
  · exact absurd h1 g1
  · exact absurd g1 h1
  · rcases Nat.lt_trichotomy p q with z | z | z
    · exact absurd h2.2.1 (g2.2.2 p h2.1 z)
    · exact z
    · exact absurd g2.2.1 (h2.2.2 q g2.1 z)
theorem digits_ok' (hk : 0 < k) (f : Fc n d s o) (hd : d < 2 ^ 70) (h1 : ∀ p, Bin n d s o p → s + p ≤ 64 → Q (.tup [.tup (dgL n d 0 s), .tup (dgL n d s p)]) S) (h2 : (∀ p, Bin n d s o p → 64 < s + p) → X ⟨"NotFit", [("word", .str "digits")]⟩ S) : Γ k "digits" [fr n d] S Q X := by
  refine digits_ok hk f hd (fun hs ho => h1 0 (.inl ⟨ho, rfl⟩) (by omega)) (fun T hT ho hF => h1 T (.inr ⟨ho, hF⟩) hT) fun h => h2 fun p hp => ?_
  rcases h with h | ⟨h3, h4⟩
  · omega
  · rcases hp with ⟨g1, g2⟩ | ⟨g1, g2⟩
    · exact absurd g1 h3
    · exact Classical.byContradiction fun z => h4 p (by omega) g2
theorem asInts_dg {a m : Nat} : asInts (dgL n d a m) = some ((List.range m).map fun i => ((dg n d (a + i) : Nat) : Int)) := by
  unfold dgL
  rw [← asInts_map, List.map_map]
  rfl
theorem maxT {l : List D} {ns : List Int} {Q : KD} (h : asInts l = some ns) (h0 : 0 < ns.length) (hQ : ∀ m, m ∈ ns → (∀ y, y ∈ ns → y ≤ m) → Q (.int m) S) : bltR .max [.tup l] S Q := by
  simp only [bltR, bllR, h]
  exact ⟨h0, hQ⟩
theorem binary_ok (hk : 1 < k) (f : Fc n d s o) (hd : d < 2 ^ 70) (h1 : ∀ p, Bin n d s o p → s + p ≤ 140 → Q (.tup [.tup (dgL n d 0 s), .tup (dgL n d s p)]) S) (h2 : (∀ p, Bin n d s o p → 140 < s + p) → Q (.tup [.tup (dgL n d 0 140), .tup [.int 1]]) S) : Γ k "_law_binary" [fr n d] S Q X := by
  cases k with
  | zero => omega
  | succ k =>
  refine gam (np := 1) (nn := 3) (b := b__law_binary) rfl rfl ?_
  simp only [b__law_binary, wSs, wS, wT, wE, wEs, wO, wC, wI, wG, wGs, startD, List.map_cons, List.map_nil, List.length_cons, List.length_nil, List.replicate, List.cons_append, List.nil_append, List.append_nil, List.set_cons_zero, List.set_cons_succ, List.getElem?_cons_zero, List.getElem?_cons_succ, itT, wipeD, opAddI, opSubI, opMulI, opDivI, opModI, opPowI, opAddT, cmEq, cmNe, cmLt, cmLe, cmGt, cmGe, cmIn, eqI, eqS, inS2, truB, ixT0, ixT1, ixT2, ixT3, ixT4, ixT6, slcT, lenT, absI, intI, tupleT, listT, listRl, decide_true, decide_false, if_true, if_false, Bool.false_eq_true, reduceIte, decide_eq_true_eq, Bool.not_true, Bool.not_false, line, mI_int, mI_bool, mI_str, mI_tuple, mI_list, mB_int, mB_bool, mB_str, mB_tuple, mB_list, mS_int, mS_bool, mS_str, mS_tuple, mS_list, mT_int, mT_bool, mT_str, mT_tuple, mT_list, mN_int, mN_bool, mN_str, mN_tuple, mN_list, anyT, anyF, Nat.zero_add, Nat.reduceAdd, Nat.reduceLeDiff, true_and]
  have hs := d_lt f hd
  refine ldigits_ok (by omega) f hd (fun T hT hF => ?_) (fun hT => ?_)
  · simp only [wSs, wS, wT, wE, wEs, wO, wC, wI, wG, wGs, startD, List.map_cons, List.map_nil, List.length_cons, List.length_nil, List.replicate, List.cons_append, List.nil_append, List.append_nil, List.set_cons_zero, List.set_cons_succ, List.getElem?_cons_zero, List.getElem?_cons_succ, itT, wipeD, opAddI, opSubI, opMulI, opDivI, opModI, opPowI, opAddT, cmEq, cmNe, cmLt, cmLe, cmGt, cmGe, cmIn, eqI, eqS, inS2, truB, ixT0, ixT1, ixT2, ixT3, ixT4, ixT6, slcT, lenT, absI, intI, tupleT, listT, listRl, decide_true, decide_false, if_true, if_false, Bool.false_eq_true, reduceIte, decide_eq_true_eq, Bool.not_true, Bool.not_false, line, mI_int, mI_bool, mI_str, mI_tuple, mI_list, mB_int, mB_bool, mB_str, mB_tuple, mB_list, mS_int, mS_bool, mS_str, mS_tuple, mS_list, mT_int, mT_bool, mT_str, mT_tuple, mT_list, mN_int, mN_bool, mN_str, mN_tuple, mN_list, anyT, anyF, Nat.zero_add, Nat.reduceAdd, Nat.reduceLeDiff, true_and]
    refine maxT asInts_dg (by simp; exact hF.1) fun m hm hmax => ?_
    simp only [opAddI, opSubI, opMulI, opDivI, opModI, opPowI, opAddT, cmEq, cmNe, cmLt, cmLe, cmGt, cmGe, cmIn, eqI, eqS, inS2, truB, ixT0, ixT1, ixT2, ixT3, ixT4, ixT6, slcT, lenT, absI, intI, tupleT, listT, listRl, decide_true, decide_false, if_true, if_false, Bool.false_eq_true, reduceIte, decide_eq_true_eq, Bool.not_true, Bool.not_false, line, mI_int, mI_bool, mI_str, mI_tuple, mI_list, mB_int, mB_bool, mB_str, mB_tuple, mB_list, mS_int, mS_bool, mS_str, mS_tuple, mS_list, mT_int, mT_bool, mT_str, mT_tuple, mT_list, mN_int, mN_bool, mN_str, mN_tuple, mN_list, anyT, anyF, Nat.zero_add, Nat.reduceAdd, Nat.reduceLeDiff, true_and]
    obtain ⟨u, hu, rfl⟩ := List.mem_map.mp hm
    rw [List.mem_range] at hu
    by_cases ho : o = 1
    · subst ho
      rw [if_pos (by rw [dg_fin f (by omega)]; rfl), dgL_len]
      have hd0 : dgL n d s 0 = [] := rfl
      have hQ := h1 0 (.inl ⟨rfl, rfl⟩) (by omega)
      rw [hd0] at hQ
      by_cases hs0 : s = 0
      · subst hs0
        rw [if_neg (by omega)]
        exact ⟨S, Sto.le_refl, hQ⟩
      · rw [if_pos (by omega)]
        have el : dgL n d 0 s = dgL n d 0 (s - 1) ++ [.int 1] := by
          have := dgL_succ (n := n) (d := d) (a := 0) (m := s - 1)
          rw [show s - 1 + 1 = s by omega, Nat.zero_add, dg_last f (by omega)] at this
          exact this
        have ea : atI (dgL n d 0 s) (-1) = some (.int 1) := by rw [el]; exact at_last
        rw [ixT ea]
        simp only [opAddI, opSubI, opMulI, opDivI, opModI, opPowI, opAddT, cmEq, cmNe, cmLt, cmLe, cmGt, cmGe, cmIn, eqI, eqS, inS2, truB, ixT0, ixT1, ixT2, ixT3, ixT4, ixT6, slcT, lenT, absI, intI, tupleT, listT, listRl, decide_true, decide_false, if_true, if_false, Bool.false_eq_true, reduceIte, decide_eq_true_eq, Bool.not_true, Bool.not_false, line, mI_int, mI_bool, mI_str, mI_tuple, mI_list, mB_int, mB_bool, mB_str, mB_tuple, mB_list, mS_int, mS_bool, mS_str, mS_tuple, mS_list, mT_int, mT_bool, mT_str, mT_tuple, mT_list, mN_int, mN_bool, mN_str, mN_tuple, mN_list, anyT, anyF, Nat.zero_add, Nat.reduceAdd, Nat.reduceLeDiff, true_and]
        rw [if_neg (by decide)]
        exact ⟨S, Sto.le_refl, hQ⟩
    · obtain ⟨v, hv, hv0⟩ := dg_per f ho hF.1 hF.2.1
      have h3 := hmax _ (List.mem_map.mpr ⟨v, List.mem_range.mpr hv, rfl⟩)
      rw [if_neg (by omega)]
      exact ⟨S, Sto.le_refl, h1 T (.inr ⟨ho, hF⟩) hT⟩
  · simp only [wSs, wS, wT, wE, wEs, wO, wC, wI, wG, wGs, startD, List.map_cons, List.map_nil, List.length_cons, List.length_nil, List.replicate, List.cons_append, List.nil_append, List.append_nil, List.set_cons_zero, List.set_cons_succ, List.getElem?_cons_zero, List.getElem?_cons_succ, itT, wipeD, opAddI, opSubI, opMulI, opDivI, opModI, opPowI, opAddT, cmEq, cmNe, cmLt, cmLe, cmGt, cmGe, cmIn, eqI, eqS, inS2, truB, ixT0, ixT1, ixT2, ixT3, ixT4, ixT6, slcT, lenT, absI, intI, tupleT, listT, listRl, decide_true, decide_false, if_true, if_false, Bool.false_eq_true, reduceIte, decide_eq_true_eq, Bool.not_true, Bool.not_false, line, mI_int, mI_bool, mI_str, mI_tuple, mI_list, mB_int, mB_bool, mB_str, mB_tuple, mB_list, mS_int, mS_bool, mS_str, mS_tuple, mS_list, mT_int, mT_bool, mT_str, mT_tuple, mT_list, mN_int, mN_bool, mN_str, mN_tuple, mN_list, anyT, anyF, Nat.zero_add, Nat.reduceAdd, Nat.reduceLeDiff, true_and]
    have ho : o ≠ 1 := fun z => by subst z; exact hT 1 (by omega) (fst_fin f)
    refine maxT (ns := [1]) rfl (by decide) fun m hm _ => ?_
    rw [List.mem_singleton] at hm
    subst hm
    simp only [opAddI, opSubI, opMulI, opDivI, opModI, opPowI, opAddT, cmEq, cmNe, cmLt, cmLe, cmGt, cmGe, cmIn, eqI, eqS, inS2, truB, ixT0, ixT1, ixT2, ixT3, ixT4, ixT6, slcT, lenT, absI, intI, tupleT, listT, listRl, decide_true, decide_false, if_true, if_false, Bool.false_eq_true, reduceIte, decide_eq_true_eq, Bool.not_true, Bool.not_false, line, mI_int, mI_bool, mI_str, mI_tuple, mI_list, mB_int, mB_bool, mB_str, mB_tuple, mB_list, mS_int, mS_bool, mS_str, mS_tuple, mS_list, mT_int, mT_bool, mT_str, mT_tuple, mT_list, mN_int, mN_bool, mN_str, mN_tuple, mN_list, anyT, anyF, Nat.zero_add, Nat.reduceAdd, Nat.reduceLeDiff, true_and]
    rw [if_neg (by decide)]
    refine ⟨S, Sto.le_refl, h2 fun p hp => ?_⟩
    rcases hp with ⟨g1, g2⟩ | ⟨g1, g2⟩
    · exact absurd g1 ho
    · exact Classical.byContradiction fun z => hT p (by omega) g2
theorem raised {w : Str} (h : PyData.strOk w = true ∨ True) : hE (.tag "raised" (.and (.isi [("NotFit", true)]) .wd)) ⟨"NotFit", [("word", .str w)]⟩ = some (.tup [.str "raised", .str w]) := rfl
theorem told_digits_ok (hk : 1 < k) (f : Fc n d s o) (hd : d < 2 ^ 70) (h1 : ∀ p, Bin n d s o p → s + p ≤ 64 → Q (.tup [.str "told", .tup [.tup (dgL n d 0 s), .tup (dgL n d s p)]]) S) (h2 : (∀ p, Bin n d s o p → 64 < s + p) → Q (.tup [.str "raised", .str "digits"]) S) : Γ k "_law_told_digits" [fr n d] S Q X := by
  cases k with
  | zero => omega
  | succ k =>
  refine gam (np := 1) (nn := 2) (b := b__law_told_digits) rfl rfl ?_
  simp only [b__law_told_digits, wSs, wS, wT, wE, wEs, wO, wC, wI, wG, wGs, startD, List.map_cons, List.map_nil, List.length_cons, List.length_nil, List.replicate, List.cons_append, List.nil_append, List.append_nil, List.set_cons_zero, List.set_cons_succ, List.getElem?_cons_zero, List.getElem?_cons_succ, itT, wipeD, opAddI, opSubI, opMulI, opDivI, opModI, opPowI, opAddT, cmEq, cmNe, cmLt, cmLe, cmGt, cmGe, cmIn, eqI, eqS, inS2, truB, ixT0, ixT1, ixT2, ixT3, ixT4, ixT6, slcT, lenT, absI, intI, tupleT, listT, listRl, decide_true, decide_false, if_true, if_false, Bool.false_eq_true, reduceIte, decide_eq_true_eq, Bool.not_true, Bool.not_false, line, mI_int, mI_bool, mI_str, mI_tuple, mI_list, mB_int, mB_bool, mB_str, mB_tuple, mB_list, mS_int, mS_bool, mS_str, mS_tuple, mS_list, mT_int, mT_bool, mT_str, mT_tuple, mT_list, mN_int, mN_bool, mN_str, mN_tuple, mN_list, anyT, anyF, Nat.zero_add, Nat.reduceAdd, Nat.reduceLeDiff, true_and]
  refine digits_ok' (by omega) f hd (fun p hp hl => ⟨S, Sto.le_refl, h1 p hp hl⟩) fun h => ?_
  have e1 : List.lookup ("NotFit" : Str) [(("NotFit" : Str), true)] = some true := by decide +kernel
  simp only [e1, if_true]
  exact ⟨by decide, S, Sto.le_refl, h2 h⟩
theorem ok_dgL {a m : Nat} (h : m ≤ 10000000) : Mi.ok 1 (.tup (dgL n d a m)) = true := ok_mk (by rw [dgL_len]; exact h) fun x hx => by
  obtain ⟨i, _, rfl⟩ := List.mem_map.mp hx
  exact ok_int
theorem eqC {x y : D} {b : Bool} {QB : Bool → Prop} (h1 : plainR S x = some (false, x)) (h2 : plainR S y = some (false, y)) (h3 : decide (min x.dep y.dep ≤ 60) = true) (h4 : D.eqv x y = b) : eqR x y S QB = QB b := by
  unfold eqR
  rw [h1, h2]
  show (min x.dep y.dep ≤ 60 ∧ QB (false == false && D.eqv x y)) = QB b
  rw [h4]
  have := of_decide_eq_true h3
  simp [this]
theorem digits_fit_ok (hk : 8 < k) (f : Fc n d s o) (hd : d < 2 ^ 70) (hQ : Q (.bl true) S) : Γ k "_law_digits_fit" [fr n d] S Q X := by
  cases k with
  | zero => omega
  | succ k =>
  refine gam (np := 1) (nn := 3) (b := b__law_digits_fit) rfl rfl ?_
  simp only [b__law_digits_fit, wSs, wS, wT, wE, wEs, wO, wC, wI, wG, wGs, startD, List.map_cons, List.map_nil, List.length_cons, List.length_nil, List.replicate, List.cons_append, List.nil_append, List.append_nil, List.set_cons_zero, List.set_cons_succ, List.getElem?_cons_zero, List.getElem?_cons_succ, itT, wipeD, opAddI, opSubI, opMulI, opDivI, opModI, opPowI, opAddT, cmEq, cmNe, cmLt, cmLe, cmGt, cmGe, cmIn, eqI, eqS, inS2, truB, ixT0, ixT1, ixT2, ixT3, ixT4, ixT6, slcT, lenT, absI, intI, tupleT, listT, listRl, decide_true, decide_false, if_true, if_false, Bool.false_eq_true, reduceIte, decide_eq_true_eq, Bool.not_true, Bool.not_false, line, mI_int, mI_bool, mI_str, mI_tuple, mI_list, mB_int, mB_bool, mB_str, mB_tuple, mB_list, mS_int, mS_bool, mS_str, mS_tuple, mS_list, mT_int, mT_bool, mT_str, mT_tuple, mT_list, mN_int, mN_bool, mN_str, mN_tuple, mN_list, anyT, anyF, Nat.zero_add, Nat.reduceAdd, Nat.reduceLeDiff, true_and]
  have hs := d_lt f hd
  have eR : ∀ QB : Bool → Prop, eqR (.tup [.str "raised", .str "digits"]) (.tup [.str "raised", .str "digits"]) S QB = QB true := fun QB => eqC rfl rfl (by decide +kernel) (by decide +kernel)
  refine told_digits_ok (by omega) f hd (fun p hp hl => ?_) fun h => ?_
  · simp only [wSs, wS, wT, wE, wEs, wO, wC, wI, wG, wGs, startD, List.map_cons, List.map_nil, List.length_cons, List.length_nil, List.replicate, List.cons_append, List.nil_append, List.append_nil, List.set_cons_zero, List.set_cons_succ, List.getElem?_cons_zero, List.getElem?_cons_succ, itT, wipeD, opAddI, opSubI, opMulI, opDivI, opModI, opPowI, opAddT, cmEq, cmNe, cmLt, cmLe, cmGt, cmGe, cmIn, eqI, eqS, inS2, truB, ixT0, ixT1, ixT2, ixT3, ixT4, ixT6, slcT, lenT, absI, intI, tupleT, listT, listRl, decide_true, decide_false, if_true, if_false, Bool.false_eq_true, reduceIte, decide_eq_true_eq, Bool.not_true, Bool.not_false, line, mI_int, mI_bool, mI_str, mI_tuple, mI_list, mB_int, mB_bool, mB_str, mB_tuple, mB_list, mS_int, mS_bool, mS_str, mS_tuple, mS_list, mT_int, mT_bool, mT_str, mT_tuple, mT_list, mN_int, mN_bool, mN_str, mN_tuple, mN_list, anyT, anyF, Nat.zero_add, Nat.reduceAdd, Nat.reduceLeDiff, true_and]
    refine binary_ok (by omega) f hd (fun p' hp' hl' => ?_) fun h' => absurd (h' p hp) (by omega)
    obtain rfl := hp.uniq hp'
    simp only [wSs, wS, wT, wE, wEs, wO, wC, wI, wG, wGs, startD, List.map_cons, List.map_nil, List.length_cons, List.length_nil, List.replicate, List.cons_append, List.nil_append, List.append_nil, List.set_cons_zero, List.set_cons_succ, List.getElem?_cons_zero, List.getElem?_cons_succ, itT, wipeD, opAddI, opSubI, opMulI, opDivI, opModI, opPowI, opAddT, cmEq, cmNe, cmLt, cmLe, cmGt, cmGe, cmIn, eqI, eqS, inS2, truB, ixT0, ixT1, ixT2, ixT3, ixT4, ixT6, slcT, lenT, absI, intI, tupleT, listT, listRl, decide_true, decide_false, if_true, if_false, Bool.false_eq_true, reduceIte, decide_eq_true_eq, Bool.not_true, Bool.not_false, line, mI_int, mI_bool, mI_str, mI_tuple, mI_list, mB_int, mB_bool, mB_str, mB_tuple, mB_list, mS_int, mS_bool, mS_str, mS_tuple, mS_list, mT_int, mT_bool, mT_str, mT_tuple, mT_list, mN_int, mN_bool, mN_str, mN_tuple, mN_list, anyT, anyF, Nat.zero_add, Nat.reduceAdd, Nat.reduceLeDiff, true_and, dgL_len]
    rw [if_neg (by omega)]
    refine same_ok 2 _ _ _ _ _ (by omega) (ok2 (ok_dgL (by omega)) (ok_dgL (by omega))) ?_
    exact ⟨S, Sto.le_refl, hQ⟩
  · simp only [wSs, wS, wT, wE, wEs, wO, wC, wI, wG, wGs, startD, List.map_cons, List.map_nil, List.length_cons, List.length_nil, List.replicate, List.cons_append, List.nil_append, List.append_nil, List.set_cons_zero, List.set_cons_succ, List.getElem?_cons_zero, List.getElem?_cons_succ, itT, wipeD, opAddI, opSubI, opMulI, opDivI, opModI, opPowI, opAddT, cmEq, cmNe, cmLt, cmLe, cmGt, cmGe, cmIn, eqI, eqS, inS2, truB, ixT0, ixT1, ixT2, ixT3, ixT4, ixT6, slcT, lenT, absI, intI, tupleT, listT, listRl, decide_true, decide_false, if_true, if_false, Bool.false_eq_true, reduceIte, decide_eq_true_eq, Bool.not_true, Bool.not_false, line, mI_int, mI_bool, mI_str, mI_tuple, mI_list, mB_int, mB_bool, mB_str, mB_tuple, mB_list, mS_int, mS_bool, mS_str, mS_tuple, mS_list, mT_int, mT_bool, mT_str, mT_tuple, mT_list, mN_int, mN_bool, mN_str, mN_tuple, mN_list, anyT, anyF, Nat.zero_add, Nat.reduceAdd, Nat.reduceLeDiff, true_and]
    refine binary_ok (by omega) f hd (fun p' hp' hl' => ?_) fun h' => ?_
    · simp only [wSs, wS, wT, wE, wEs, wO, wC, wI, wG, wGs, startD, List.map_cons, List.map_nil, List.length_cons, List.length_nil, List.replicate, List.cons_append, List.nil_append, List.append_nil, List.set_cons_zero, List.set_cons_succ, List.getElem?_cons_zero, List.getElem?_cons_succ, itT, wipeD, opAddI, opSubI, opMulI, opDivI, opModI, opPowI, opAddT, cmEq, cmNe, cmLt, cmLe, cmGt, cmGe, cmIn, eqI, eqS, inS2, truB, ixT0, ixT1, ixT2, ixT3, ixT4, ixT6, slcT, lenT, absI, intI, tupleT, listT, listRl, decide_true, decide_false, if_true, if_false, Bool.false_eq_true, reduceIte, decide_eq_true_eq, Bool.not_true, Bool.not_false, line, mI_int, mI_bool, mI_str, mI_tuple, mI_list, mB_int, mB_bool, mB_str, mB_tuple, mB_list, mS_int, mS_bool, mS_str, mS_tuple, mS_list, mT_int, mT_bool, mT_str, mT_tuple, mT_list, mN_int, mN_bool, mN_str, mN_tuple, mN_list, anyT, anyF, Nat.zero_add, Nat.reduceAdd, Nat.reduceLeDiff, true_and, dgL_len]
      have := h p' hp'
      rw [if_pos (by omega), eR]
      exact ⟨S, Sto.le_refl, hQ⟩
    · simp only [wSs, wS, wT, wE, wEs, wO, wC, wI, wG, wGs, startD, List.map_cons, List.map_nil, List.length_cons, List.length_nil, List.replicate, List.cons_append, List.nil_append, List.append_nil, List.set_cons_zero, List.set_cons_succ, List.getElem?_cons_zero, List.getElem?_cons_succ, itT, wipeD, opAddI, opSubI, opMulI, opDivI, opModI, opPowI, opAddT, cmEq, cmNe, cmLt, cmLe, cmGt, cmGe, cmIn, eqI, eqS, inS2, truB, ixT0, ixT1, ixT2, ixT3, ixT4, ixT6, slcT, lenT, absI, intI, tupleT, listT, listRl, decide_true, decide_false, if_true, if_false, Bool.false_eq_true, reduceIte, decide_eq_true_eq, Bool.not_true, Bool.not_false, line, mI_int, mI_bool, mI_str, mI_tuple, mI_list, mB_int, mB_bool, mB_str, mB_tuple, mB_list, mS_int, mS_bool, mS_str, mS_tuple, mS_list, mT_int, mT_bool, mT_str, mT_tuple, mT_list, mN_int, mN_bool, mN_str, mN_tuple, mN_list, anyT, anyF, Nat.zero_add, Nat.reduceAdd, Nat.reduceLeDiff, true_and, dgL_len]
      rw [if_pos (by decide), eR]
      exact ⟨S, Sto.le_refl, hQ⟩
end K50
namespace K50
open PySem PySem.Spec PyProof.Rows L2 Mi
variable {k : Nat} {S : Sto} {Q : KD} {X : KX} {n d s o i j T p : Nat}
theorem parts_ex : ∀ d : Nat, 0 < d → ∃ s o, d = 2 ^ s * o ∧ o % 2 = 1 := by
  intro d
  induction d using Nat.strongRecOn with
  | ind d ih =>
    intro h
    by_cases h2 : d % 2 = 1
    · exact ⟨0, d, by simp, h2⟩
    · obtain ⟨s, o, e, ho⟩ := ih (d / 2) (by omega) (by omega)
      refine ⟨s + 1, o, ?_, ho⟩
      rw [Nat.pow_succ, Nat.mul_comm (2 ^ s) 2, Nat.mul_assoc, ← e]
      omega
open Classical in
noncomputable def sOf (d : Nat) : Nat := if h : 0 < d then (parts_ex d h).choose else 0
open Classical in
noncomputable def oOf (d : Nat) : Nat := if h : 0 < d then (parts_ex d h).choose_spec.choose else 1
open Classical in
noncomputable def pOf (n d : Nat) : Nat := if h : ∃ p, Bin n d (sOf d) (oOf d) p then h.choose else 1000
theorem fc (hlt : n < d) (hc : Nat.gcd n d = 1) : Fc n d (sOf d) (oOf d) := by
  have h : 0 < d := by omega
  have h1 := (parts_ex d h).choose_spec.choose_spec
  unfold sOf oOf
  rw [dif_pos h, dif_pos h]
  exact ⟨h1.1, h1.2, hlt, hc⟩
theorem pOf_bin (h : Bin n d (sOf d) (oOf d) p) : pOf n d = p := by
  unfold pOf
  have hx : ∃ p, Bin n d (sOf d) (oOf d) p := ⟨p, h⟩
  rw [dif_pos hx]
  exact hx.choose_spec.uniq h
theorem pOf_is (h : pOf n d ≠ 1000) : Bin n d (sOf d) (oOf d) (pOf n d) := by
  unfold pOf at h ⊢
  by_cases hx : ∃ p, Bin n d (sOf d) (oOf d) p
  · rw [dif_pos hx]
    exact hx.choose_spec
  · rw [dif_neg hx] at h
    exact absurd rfl h
abbrev Te := Int × (Nat × Nat)
def teD (y : Te) : D := .tup [.int y.1, fr y.2.1 y.2.2]
def tabL (t : List Te) : List D := t.map teD
structure Tab (t : List Te) (W : Nat) : Prop where
  el : ∀ y ∈ t, y.2.1 < y.2.2 ∧ Nat.gcd y.2.1 y.2.2 = 1 ∧ y.2.2 ∣ W
  len : t.length ≤ 4
  w0 : 0 < W
  w1 : W < 256
  sum : (t.map fun y => y.2.1 * (W / y.2.2)).sum = W
theorem Tab.d_lt {t : List Te} {W : Nat} (h : Tab t W) {y : Te} (hy : y ∈ t) : y.2.2 < 256 := Nat.lt_of_le_of_lt (Nat.le_of_dvd h.w0 (h.el y hy).2.2) h.w1
noncomputable def sp (y : Te) : Nat × Nat := (sOf y.2.2, pOf y.2.1 y.2.2)
noncomputable def sp' (y : Te) : Nat × Nat := if (sp y).1 + (sp y).2 ≤ 140 then sp y else (140, 1)
def spS (a : Nat × Nat) (q : Nat × Nat) : Nat × Nat := (max a.1 q.1, if q.2 = 0 then a.2 else Nat.lcm a.2 q.2)
def spanF (l : List (Nat × Nat)) : Nat × Nat := l.foldl spS (0, 1)
theorem spanF_app {l : List (Nat × Nat)} {q : Nat × Nat} : spanF (l ++ [q]) = spS (spanF l) q := by unfold spanF; rw [List.foldl_append]; rfl
theorem spanF_ok : ∀ (l : List (Nat × Nat)) (a : Nat × Nat), 0 < a.2 → a.1 ≤ (l.foldl spS a).1 ∧ a.2 ∣ (l.foldl spS a).2 ∧ 0 < (l.foldl spS a).2 ∧ ∀ q ∈ l, q.1 ≤ (l.foldl spS a).1 ∧ (q.2 ≠ 0 → q.2 ∣ (l.foldl spS a).2)
  | [], a, h => ⟨Nat.le_refl _, Nat.dvd_refl _, h, fun _ hq => by cases hq⟩
  | q :: l, a, h => by
    have h0 : 0 < (spS a q).2 := by
      unfold spS
      dsimp only
      split
      · exact h
      · exact Nat.lcm_pos h (by omega)
    obtain ⟨h1, h2, h3, h4⟩ := spanF_ok l (spS a q) h0
    rw [List.foldl_cons]
    have e1 : a.1 ≤ (spS a q).1 ∧ q.1 ≤ (spS a q).1 := by unfold spS; dsimp only; omega
    have e2 : a.2 ∣ (spS a q).2 ∧ (q.2 ≠ 0 → q.2 ∣ (spS a q).2) := by
      unfold spS
      dsimp only
      split
      case isTrue hq => exact ⟨Nat.dvd_refl _, fun z => absurd hq z⟩
      case isFalse hq => exact ⟨Nat.dvd_lcm_left _ _, fun _ => Nat.dvd_lcm_right _ _⟩
    refine ⟨by omega, Nat.dvd_trans e2.1 h2, h3, fun x hx => ?_⟩
    rcases List.mem_cons.mp hx with rfl | hx
    · exact ⟨by omega, fun z => Nat.dvd_trans (e2.2 z) h2⟩
    · exact h4 x hx
theorem spanF_big {l : List (Nat × Nat)} {q : Nat × Nat} {m : Nat} (hq : q ∈ l) (h : m < q.1 + q.2) : m < (spanF l).1 + (spanF l).2 := by
  obtain ⟨h1, h2, h3, h4⟩ := spanF_ok l (0, 1) (by decide)
  obtain ⟨h5, h6⟩ := h4 q hq
  have h3 : 0 < (spanF l).2 := h3
  have h5 : q.1 ≤ (spanF l).1 := h5
  by_cases hz : q.2 = 0
  · omega
  · have := Nat.le_of_dvd h3 (h6 hz)
    omega
noncomputable def spA (t : List Te) : Nat := (spanF (t.map sp)).1
noncomputable def spL (t : List Te) : Nat := (spanF (t.map sp)).2
theorem sp_big {t : List Te} {y : Te} (hy : y ∈ t) (h : 64 < (sp y).1 + (sp y).2) : 64 < spA t + spL t := spanF_big (List.mem_map_of_mem hy) h
theorem sp_alike {t : List Te} : (spA t + spL t ≤ 64 → spanF (t.map sp') = (spA t, spL t)) ∧ (64 < spA t + spL t → 64 < (spanF (t.map sp')).1 + (spanF (t.map sp')).2) := by
  by_cases h : ∀ y ∈ t, (sp y).1 + (sp y).2 ≤ 140
  · have e : t.map sp' = t.map sp := List.map_congr_left fun y hy => if_pos (h y hy)
    rw [e]
    exact ⟨fun _ => rfl, fun z => z⟩
  · obtain ⟨y, hy, hb⟩ : ∃ y ∈ t, 140 < (sp y).1 + (sp y).2 := Classical.byContradiction fun z => h fun y hy => Classical.byContradiction fun q => z ⟨y, hy, by omega⟩
    have h1 := sp_big hy (by omega)
    refine ⟨fun z => by omega, fun _ => spanF_big (q := sp' y) (List.mem_map_of_mem hy) ?_⟩
    unfold sp'
    rw [if_neg (by omega)]
    decide
theorem spanF_le {b : Nat} (hb : 1 ≤ b) : ∀ (l : List (Nat × Nat)) (a : Nat × Nat), (∀ q ∈ l, q.1 ≤ b ∧ q.2 ≤ b) → (l.foldl spS a).2 ≤ a.2 * b ^ l.length ∧ (l.foldl spS a).1 ≤ max a.1 b
  | [], a, _ => by simp; omega
  | q :: l, a, h => by
    obtain ⟨h1, h2⟩ := spanF_le hb l (spS a q) fun x hx => h x (List.mem_cons_of_mem _ hx)
    obtain ⟨q1, q2⟩ := h q List.mem_cons_self
    rw [List.foldl_cons, List.length_cons]
    have e1 : (spS a q).2 ≤ a.2 * b := by
      unfold spS
      dsimp only
      split
      · exact Nat.le_mul_of_pos_right _ hb
      · refine Nat.le_trans (show Nat.lcm a.2 q.2 ≤ a.2 * q.2 from Nat.div_le_self _ _) (Nat.mul_le_mul_left _ q2)
    have e2 : (spS a q).1 ≤ max a.1 b := by unfold spS; dsimp only; omega
    refine ⟨?_, by omega⟩
    rw [Nat.pow_succ, Nat.mul_comm (b ^ _) b, ← Nat.mul_assoc]
    exact Nat.le_trans h1 (Nat.mul_le_mul_right _ e1)
end K50
namespace K50
open PySem PySem.Spec PyProof.Rows L2 Mi
variable {k : Nat} {S : Sto} {Q : KD} {X : KX} {n d s o i j T p : Nat} {t : List Te} {W : Nat}
theorem eqNil {l : List D} {QB : Bool → Prop} (h : D.pures l = true) : eqR (.tup l) (.tup []) S QB = QB (decide (l = [])) := by
  have h1 : D.pure (.tup l) = true := h
  have h2 : D.pure (.tup []) = true := rfl
  have e : ∀ d, plainR S (.tup d) = if D.pure (.tup d) = true then some (false, .tup d) else none := fun d => rfl
  unfold eqR
  rw [e, e, if_pos h1, if_pos h2]
  have d1 : min (D.tup l).dep (D.tup []).dep ≤ 60 := Nat.le_trans (Nat.min_le_right _ _) (by simp [D.dep, D.deps])
  have e1 : D.eqv (.tup l) (.tup []) = decide (l = []) := by
    cases l with
    | nil => rfl
    | cons a l => simp [D.eqv, D.eqvs]
  show (_ ∧ QB _) = _
  rw [e1]
  simp [d1]
theorem pures_ints : ∀ l : List Int, D.pures (l.map D.int) = true
  | [] => rfl
  | y :: P => by
    show (true && D.pures (P.map D.int)) = true
    rw [pures_ints P]
    rfl
theorem dgL_pure {a m : Nat} : D.pures (dgL n d a m) = true := by
  have e : dgL n d a m = ((List.range m).map fun i => ((dg n d (a + i) : Nat) : Int)).map D.int := by unfold dgL; rw [List.map_map]; rfl
  rw [e]
  exact pures_ints _
theorem tab_get {dd : D} (h : (tabL t)[i]? = some dd) : ∃ hi : i < t.length, dd = teD t[i] := by
  unfold tabL at h
  rw [List.getElem?_map, Option.map_eq_some_iff] at h
  obtain ⟨y, h1, h2⟩ := h
  obtain ⟨hi, e⟩ := List.getElem?_eq_some_iff.mp h1
  exact ⟨hi, by rw [← h2, e]⟩
theorem lcmI {i j : Int} {Q : KD} : bltR .lcm [.int i, .int j] S Q = (i.natAbs < 2 ^ 64 ∧ j.natAbs < 2 ^ 64 ∧ Q (.int ((Nat.lcm i.natAbs j.natAbs : Nat) : Int)) S) := rfl
theorem maxI {i j : Int} {Q : KD} : bltR .max [.int i, .int j] S Q = Q (.int (if j > i then j else i)) S := rfl
theorem max_nat {a b : Nat} : (if ((b : Nat) : Int) > ((a : Nat) : Int) then ((b : Nat) : Int) else ((a : Nat) : Int)) = ((max a b : Nat) : Int) := by
  split <;> omega
theorem span_ok (hk : 1 < k) (h : Tab t W) (h1 : spA t + spL t ≤ 64 → Q (.tup [.int (spA t : Nat), .int (spL t : Nat)]) S) (h2 : 64 < spA t + spL t → X ⟨"NotFit", [("word", .str "tree")]⟩ S) : Γ k "span" [.tup (tabL t)] S Q X := by
  cases k with
  | zero => omega
  | succ k =>
  refine gam (np := 1) (nn := 7) (b := b_span) rfl rfl ?_
  simp only [b_span, wSs, wS, wT, wE, wEs, wO, wC, wI, wG, wGs, startD, List.map_cons, List.map_nil, List.length_cons, List.length_nil, List.replicate, List.cons_append, List.nil_append, List.append_nil, List.set_cons_zero, List.set_cons_succ, List.getElem?_cons_zero, List.getElem?_cons_succ, itT, wipeD, opAddI, opSubI, opMulI, opDivI, opModI, opPowI, opAddT, cmEq, cmNe, cmLt, cmLe, cmGt, cmGe, cmIn, eqI, eqS, inS2, truB, ixT0, ixT1, ixT2, ixT3, ixT4, ixT6, slcT, lenT, absI, intI, tupleT, listT, listRl, decide_true, decide_false, if_true, if_false, Bool.false_eq_true, reduceIte, decide_eq_true_eq, Bool.not_true, Bool.not_false, line, mI_int, mI_bool, mI_str, mI_tuple, mI_list, mB_int, mB_bool, mB_str, mB_tuple, mB_list, mS_int, mS_bool, mS_str, mS_tuple, mS_list, mT_int, mT_bool, mT_str, mT_tuple, mT_list, mN_int, mN_bool, mN_str, mN_tuple, mN_list, anyT, anyF, Nat.zero_add, Nat.reduceAdd, Nat.reduceLeDiff, true_and]
  have hl := h.len
  refine forL_inv (tabL t) (fun i σ S2 => ∃ x3 x4 x5 x6, σ = [some (.tup (tabL t)), some (.int (spanF ((t.take i).map sp)).1), some (.int (spanF ((t.take i).map sp)).2), x3, x4, x5, x6] ∧ S2 = S ∧ ∀ y ∈ t.take i, (sp y).1 + (sp y).2 ≤ 64) (fun _ _ _ _ => trivial) ?_ ?_
    ⟨_, _, _, _, rfl, rfl, fun y hy => by simp at hy⟩
  · rintro i dd σ S2 NX hd' ⟨x3, x4, x5, x6, rfl, rfl, k4⟩ hN
    obtain ⟨hi, rfl⟩ := tab_get hd'
    have hy := List.getElem_mem hi
    obtain ⟨e1, e2, e3⟩ := h.el _ hy
    have hd := h.d_lt hy
    have f := fc e1 e2
    simp only [s_span_1, teD, wSs, wS, wT, wE, wEs, wO, wC, wI, wG, wGs, startD, List.map_cons, List.map_nil, List.length_cons, List.length_nil, List.replicate, List.cons_append, List.nil_append, List.append_nil, List.set_cons_zero, List.set_cons_succ, List.getElem?_cons_zero, List.getElem?_cons_succ, itT, wipeD, opAddI, opSubI, opMulI, opDivI, opModI, opPowI, opAddT, cmEq, cmNe, cmLt, cmLe, cmGt, cmGe, cmIn, eqI, eqS, inS2, truB, ixT0, ixT1, ixT2, ixT3, ixT4, ixT6, slcT, lenT, absI, intI, tupleT, listT, listRl, decide_true, decide_false, if_true, if_false, Bool.false_eq_true, reduceIte, decide_eq_true_eq, Bool.not_true, Bool.not_false, line, mI_int, mI_bool, mI_str, mI_tuple, mI_list, mB_int, mB_bool, mB_str, mB_tuple, mB_list, mS_int, mS_bool, mS_str, mS_tuple, mS_list, mT_int, mT_bool, mT_str, mT_tuple, mT_list, mN_int, mN_bool, mN_str, mN_tuple, mN_list, anyT, anyF, Nat.zero_add, Nat.reduceAdd, Nat.reduceLeDiff, true_and]
    refine ⟨by decide, digits_ok' (by omega) f (by omega) (fun p hp hsp => ?_) fun hp => ?_⟩
    · have ep := pOf_bin hp
      have hle : (sp t[i]).1 + (sp t[i]).2 ≤ 64 := by unfold sp; dsimp only; rw [ep]; exact hsp
      have hb : ∀ q ∈ (t.take i).map sp, q.1 ≤ 64 ∧ q.2 ≤ 64 := fun q hq => by
        obtain ⟨y, hy, rfl⟩ := List.mem_map.mp hq
        have := k4 y hy
        omega
      have hsz := (spanF_le (b := 64) (by decide) _ (0, 1) hb).1
      have hsz2 : (spanF ((t.take i).map sp)).2 ≤ 64 ^ 4 := by
        refine Nat.le_trans hsz ?_
        rw [Nat.one_mul]
        refine Nat.pow_le_pow_right (by decide) ?_
        rw [List.length_map, List.length_take]
        omega
      simp only [wSs, wS, wT, wE, wEs, wO, wC, wI, wG, wGs, startD, List.map_cons, List.map_nil, List.length_cons, List.length_nil, List.replicate, List.cons_append, List.nil_append, List.append_nil, List.set_cons_zero, List.set_cons_succ, List.getElem?_cons_zero, List.getElem?_cons_succ, itT, wipeD, opAddI, opSubI, opMulI, opDivI, opModI, opPowI, opAddT, cmEq, cmNe, cmLt, cmLe, cmGt, cmGe, cmIn, eqI, eqS, inS2, truB, ixT0, ixT1, ixT2, ixT3, ixT4, ixT6, slcT, lenT, absI, intI, tupleT, listT, listRl, decide_true, decide_false, if_true, if_false, Bool.false_eq_true, reduceIte, decide_eq_true_eq, Bool.not_true, Bool.not_false, line, mI_int, mI_bool, mI_str, mI_tuple, mI_list, mB_int, mB_bool, mB_str, mB_tuple, mB_list, mS_int, mS_bool, mS_str, mS_tuple, mS_list, mT_int, mT_bool, mT_str, mT_tuple, mT_list, mN_int, mN_bool, mN_str, mN_tuple, mN_list, anyT, anyF, Nat.zero_add, Nat.reduceAdd, Nat.reduceLeDiff, true_and, maxI, dgL_len, max_nat]
      rw [eqNil dgL_pure]
      have et : (t.take (i + 1)).map sp = (t.take i).map sp ++ [sp t[i]] := by rw [List.take_succ_eq_append_getElem hi, List.map_append]; rfl
      have k4' : ∀ y ∈ t.take (i + 1), (sp y).1 + (sp y).2 ≤ 64 := fun y hy => by
        rw [List.take_succ_eq_append_getElem hi] at hy
        rcases List.mem_append.mp hy with hy | hy
        · exact k4 y hy
        · rw [List.mem_singleton] at hy
          rw [hy]
          exact hle
      by_cases hp0 : p = 0
      · have hn : dgL t[i].2.1 t[i].2.2 (sOf t[i].2.2) p = [] := by rw [hp0]; rfl
        rw [hn]
        simp only [opAddI, opSubI, opMulI, opDivI, opModI, opPowI, opAddT, cmEq, cmNe, cmLt, cmLe, cmGt, cmGe, cmIn, eqI, eqS, inS2, truB, ixT0, ixT1, ixT2, ixT3, ixT4, ixT6, slcT, lenT, absI, intI, tupleT, listT, listRl, decide_true, decide_false, if_true, if_false, Bool.false_eq_true, reduceIte, decide_eq_true_eq, Bool.not_true, Bool.not_false, line, mI_int, mI_bool, mI_str, mI_tuple, mI_list, mB_int, mB_bool, mB_str, mB_tuple, mB_list, mS_int, mS_bool, mS_str, mS_tuple, mS_list, mT_int, mT_bool, mT_str, mT_tuple, mT_list, mN_int, mN_bool, mN_str, mN_tuple, mN_list, anyT, anyF, Nat.zero_add, Nat.reduceAdd, Nat.reduceLeDiff, true_and]
        have ev : spanF ((t.take (i + 1)).map sp) = (max (spanF ((t.take i).map sp)).1 (sOf t[i].2.2), (spanF ((t.take i).map sp)).2) := by
          rw [et, spanF_app]
          unfold spS sp
          dsimp only
          rw [ep, if_pos hp0]
        simp only [ev] at hN
        exact hN _ _ ⟨_, _, _, _, rfl, rfl, k4'⟩
      · have hn : dgL t[i].2.1 t[i].2.2 (sOf t[i].2.2) p ≠ [] := fun z => by
          have := dgL_len (n := t[i].2.1) (d := t[i].2.2) (a := sOf t[i].2.2) (m := p)
          rw [z] at this
          simp at this
          omega
        rw [decide_eq_false hn]
        simp only [opAddI, opSubI, opMulI, opDivI, opModI, opPowI, opAddT, cmEq, cmNe, cmLt, cmLe, cmGt, cmGe, cmIn, eqI, eqS, inS2, truB, ixT0, ixT1, ixT2, ixT3, ixT4, ixT6, slcT, lenT, absI, intI, tupleT, listT, listRl, decide_true, decide_false, if_true, if_false, Bool.false_eq_true, reduceIte, decide_eq_true_eq, Bool.not_true, Bool.not_false, line, mI_int, mI_bool, mI_str, mI_tuple, mI_list, mB_int, mB_bool, mB_str, mB_tuple, mB_list, mS_int, mS_bool, mS_str, mS_tuple, mS_list, mT_int, mT_bool, mT_str, mT_tuple, mT_list, mN_int, mN_bool, mN_str, mN_tuple, mN_list, anyT, anyF, Nat.zero_add, Nat.reduceAdd, Nat.reduceLeDiff, true_and, lcmI, Int.natAbs_natCast]
        have ev : spanF ((t.take (i + 1)).map sp) = (max (spanF ((t.take i).map sp)).1 (sOf t[i].2.2), Nat.lcm (spanF ((t.take i).map sp)).2 p) := by
          rw [et, spanF_app]
          unfold spS sp
          dsimp only
          rw [ep, if_neg hp0]
        simp only [ev] at hN
        exact ⟨by omega, by omega, hN _ _ ⟨_, _, _, _, rfl, rfl, k4'⟩⟩
    · have e1 : List.lookup ("NotFit" : Str) [(("NotFit" : Str), true)] = some true := by decide +kernel
      simp only [e1, true_and]
      refine ⟨S2, Sto.le_refl, h2 (sp_big hy ?_)⟩
      unfold sp
      dsimp only
      by_cases hq : pOf t[i].2.1 t[i].2.2 = 1000
      · omega
      · exact hp _ (pOf_is hq)
  · rintro σ S2 ⟨x3, x4, x5, x6, rfl, rfl, k4⟩
    have el : (tabL t).length = t.length := by unfold tabL; rw [List.length_map]
    rw [el, List.take_length]
    simp only [wSs, wS, wT, wE, wEs, wO, wC, wI, wG, wGs, startD, List.map_cons, List.map_nil, List.length_cons, List.length_nil, List.replicate, List.cons_append, List.nil_append, List.append_nil, List.set_cons_zero, List.set_cons_succ, List.getElem?_cons_zero, List.getElem?_cons_succ, itT, wipeD, opAddI, opSubI, opMulI, opDivI, opModI, opPowI, opAddT, cmEq, cmNe, cmLt, cmLe, cmGt, cmGe, cmIn, eqI, eqS, inS2, truB, ixT0, ixT1, ixT2, ixT3, ixT4, ixT6, slcT, lenT, absI, intI, tupleT, listT, listRl, decide_true, decide_false, if_true, if_false, Bool.false_eq_true, reduceIte, decide_eq_true_eq, Bool.not_true, Bool.not_false, line, mI_int, mI_bool, mI_str, mI_tuple, mI_list, mB_int, mB_bool, mB_str, mB_tuple, mB_list, mS_int, mS_bool, mS_str, mS_tuple, mS_list, mT_int, mT_bool, mT_str, mT_tuple, mT_list, mN_int, mN_bool, mN_str, mN_tuple, mN_list, anyT, anyF, Nat.zero_add, Nat.reduceAdd, Nat.reduceLeDiff, true_and, hM]
    by_cases hc : spA t + spL t ≤ 64
    · rw [if_neg (by unfold spA spL at hc; omega)]
      exact ⟨S2, Sto.le_refl, h1 hc⟩
    · rw [if_pos (by unfold spA spL at hc; omega)]
      exact ⟨by decide, S2, Sto.le_refl, h2 (by omega)⟩
end K50
namespace K50
open PySem PySem.Spec PyProof.Rows L2 Mi
variable {k : Nat} {S : Sto} {Q : KD} {X : KX} {n d s o i j T p : Nat} {t : List Te} {W : Nat}
theorem lspan_ok (hk : 2 < k) (h : Tab t W) (hQ : Q (.tup [.int ((spanF (t.map sp')).1 : Nat), .int ((spanF (t.map sp')).2 : Nat)]) S) : Γ k "_law_span" [.tup (tabL t)] S Q X := by
  cases k with
  | zero => omega
  | succ k =>
  refine gam (np := 1) (nn := 7) (b := b__law_span) rfl rfl ?_
  simp only [b__law_span, wSs, wS, wT, wE, wEs, wO, wC, wI, wG, wGs, startD, List.map_cons, List.map_nil, List.length_cons, List.length_nil, List.replicate, List.cons_append, List.nil_append, List.append_nil, List.set_cons_zero, List.set_cons_succ, List.getElem?_cons_zero, List.getElem?_cons_succ, itT, wipeD, opAddI, opSubI, opMulI, opDivI, opModI, opPowI, opAddT, cmEq, cmNe, cmLt, cmLe, cmGt, cmGe, cmIn, eqI, eqS, inS2, truB, ixT0, ixT1, ixT2, ixT3, ixT4, ixT6, slcT, lenT, absI, intI, tupleT, listT, listRl, decide_true, decide_false, if_true, if_false, Bool.false_eq_true, reduceIte, decide_eq_true_eq, Bool.not_true, Bool.not_false, line, mI_int, mI_bool, mI_str, mI_tuple, mI_list, mB_int, mB_bool, mB_str, mB_tuple, mB_list, mS_int, mS_bool, mS_str, mS_tuple, mS_list, mT_int, mT_bool, mT_str, mT_tuple, mT_list, mN_int, mN_bool, mN_str, mN_tuple, mN_list, anyT, anyF, Nat.zero_add, Nat.reduceAdd, Nat.reduceLeDiff, true_and]
  have hl := h.len
  refine forL_inv (tabL t) (fun i σ S2 => ∃ x3 x4 x5 x6, σ = [some (.tup (tabL t)), some (.int (spanF ((t.take i).map sp')).1), some (.int (spanF ((t.take i).map sp')).2), x3, x4, x5, x6] ∧ S2 = S) (fun _ _ _ _ => trivial) ?_ ?_
    ⟨_, _, _, _, rfl, rfl⟩
  · rintro i dd σ S2 NX hd' ⟨x3, x4, x5, x6, rfl, rfl⟩ hN
    obtain ⟨hi, rfl⟩ := tab_get hd'
    have hy := List.getElem_mem hi
    obtain ⟨e1, e2, e3⟩ := h.el _ hy
    have hd := h.d_lt hy
    have f := fc e1 e2
    have hb : ∀ q ∈ (t.take i).map sp', q.1 ≤ 140 ∧ q.2 ≤ 140 := fun q hq => by
      obtain ⟨y, hy, rfl⟩ := List.mem_map.mp hq
      unfold sp'
      split
      · omega
      · exact ⟨by decide, by decide⟩
    have hsz2 : (spanF ((t.take i).map sp')).2 ≤ 140 ^ 4 := by
      refine Nat.le_trans (spanF_le (b := 140) (by decide) _ (0, 1) hb).1 ?_
      rw [Nat.one_mul]
      refine Nat.pow_le_pow_right (by decide) ?_
      rw [List.length_map, List.length_take]
      omega
    have hpos : 0 < (spanF ((t.take i).map sp')).2 := (spanF_ok _ (0, 1) (by decide)).2.2.1
    have et : (t.take (i + 1)).map sp' = (t.take i).map sp' ++ [sp' t[i]] := by rw [List.take_succ_eq_append_getElem hi, List.map_append]; rfl
    have key : ∀ (l1 l2 : List D) (a b : Nat), l1.length = a → l2.length = b → b ≤ 140 → sp' t[i] = (a, b) →
        wSs (Γ k) G0 (.cons (.set 1 (.blt .max (.cons (.var 1) (.cons (.blt .len (.cons (.var 5) .nil)) .nil)))) (.cons (.ite (.cmp .gt (.blt .len (.cons (.var 6) .nil)) (.lit (.int (0)))) (.cons (.set 2 (.op .fdiv (.op .mul (.var 2) (.blt .len (.cons (.var 6) .nil))) (.call "_law_gcd" (.cons (.var 2) (.cons (.blt .len (.cons (.var 6) .nil)) .nil))))) .nil) .nil) .nil))
          { nx := NX, rt := fun d S' => ∃ S0 : Sto, S0.le S' ∧ Q d S0, bk := fun σ S' => ∃ S0 : Sto, S0.le S' ∧ Q (.non) S0, ct := NX, xr := fun x _ S' => ∃ S0 : Sto, S0.le S' ∧ X x S0 }
          [some (.tup (tabL t)), some (.int (spanF ((t.take i).map sp')).1), some (.int (spanF ((t.take i).map sp')).2), some (.int t[i].1), some (fr t[i].2.1 t[i].2.2), some (.tup l1), some (.tup l2)] S2 := by
      intro l1 l2 a b ha hb2 hbl hs
      simp only [wSs, wS, wT, wE, wEs, wO, wC, wI, wG, wGs, startD, List.map_cons, List.map_nil, List.length_cons, List.length_nil, List.replicate, List.cons_append, List.nil_append, List.append_nil, List.set_cons_zero, List.set_cons_succ, List.getElem?_cons_zero, List.getElem?_cons_succ, itT, wipeD, opAddI, opSubI, opMulI, opDivI, opModI, opPowI, opAddT, cmEq, cmNe, cmLt, cmLe, cmGt, cmGe, cmIn, eqI, eqS, inS2, truB, ixT0, ixT1, ixT2, ixT3, ixT4, ixT6, slcT, lenT, absI, intI, tupleT, listT, listRl, decide_true, decide_false, if_true, if_false, Bool.false_eq_true, reduceIte, decide_eq_true_eq, Bool.not_true, Bool.not_false, line, mI_int, mI_bool, mI_str, mI_tuple, mI_list, mB_int, mB_bool, mB_str, mB_tuple, mB_list, mS_int, mS_bool, mS_str, mS_tuple, mS_list, mT_int, mT_bool, mT_str, mT_tuple, mT_list, mN_int, mN_bool, mN_str, mN_tuple, mN_list, anyT, anyF, Nat.zero_add, Nat.reduceAdd, Nat.reduceLeDiff, true_and, maxI, ha, hb2, max_nat]
      by_cases hb0 : b = 0
      · rw [if_neg (by omega)]
        have ev : spanF ((t.take (i + 1)).map sp') = (max (spanF ((t.take i).map sp')).1 a, (spanF ((t.take i).map sp')).2) := by
          rw [et, spanF_app, hs]
          unfold spS
          dsimp only
          rw [if_pos hb0]
        simp only [ev] at hN
        exact hN _ _ ⟨_, _, _, _, rfl, rfl⟩
      · rw [if_pos (by omega)]
        have sa : Sz 40 ((spanF ((t.take i).map sp')).2 : Int) := szn (Nat.lt_of_le_of_lt hsz2 (by decide))
        have sb : Sz 40 (b : Int) := szn (by omega)
        refine ⟨sa.cm sb, gcd_ok (by omega) ?_⟩
        have hg : 0 < Nat.gcd (spanF ((t.take i).map sp')).2 b := Nat.gcd_pos_of_pos_left _ hpos
        have hg2 : Nat.gcd (spanF ((t.take i).map sp')).2 b ≤ b := Nat.gcd_le_right _ (by omega)
        have sg : Sz 40 ((Nat.gcd (spanF ((t.take i).map sp')).2 b : Nat) : Int) := szn (by omega)
        have ev : spanF ((t.take (i + 1)).map sp') = (max (spanF ((t.take i).map sp')).1 a, Nat.lcm (spanF ((t.take i).map sp')).2 b) := by
          rw [et, spanF_app, hs]
          unfold spS
          dsimp only
          rw [if_neg hb0]
        have el : ((spanF ((t.take i).map sp')).2 : Int) * (b : Int) / ((Nat.gcd (spanF ((t.take i).map sp')).2 b : Nat) : Int) = ((Nat.lcm (spanF ((t.take i).map sp')).2 b : Nat) : Int) := rfl
        simp only [ev] at hN
        rw [opDivI, el]
        exact ⟨sg.cd (by omega), hN _ _ ⟨_, _, _, _, rfl, rfl⟩⟩
    simp only [s__law_span_1, teD, wSs, wS, wT, wE, wEs, wO, wC, wI, wG, wGs, startD, List.map_cons, List.map_nil, List.length_cons, List.length_nil, List.replicate, List.cons_append, List.nil_append, List.append_nil, List.set_cons_zero, List.set_cons_succ, List.getElem?_cons_zero, List.getElem?_cons_succ, itT, wipeD]
    refine binary_ok (by omega) f (by omega) (fun p hp hsp => ?_) fun hp => ?_
    · have ep := pOf_bin hp
      have := key (dgL t[i].2.1 t[i].2.2 0 (sOf t[i].2.2)) (dgL t[i].2.1 t[i].2.2 (sOf t[i].2.2) p) _ _ dgL_len dgL_len (by omega) (by unfold sp' sp; dsimp only; rw [ep, if_pos hsp])
      simp only [wSs, wS, wT, wE, wEs, wO, wC, wI, wG, wGs, startD, List.map_cons, List.map_nil, List.length_cons, List.length_nil, List.replicate, List.cons_append, List.nil_append, List.append_nil, List.set_cons_zero, List.set_cons_succ, List.getElem?_cons_zero, List.getElem?_cons_succ, itT, wipeD] at this ⊢
      exact this
    · have := key (dgL t[i].2.1 t[i].2.2 0 140) [.int 1] 140 1 dgL_len rfl (by decide) (by
        unfold sp'
        refine if_neg ?_
        unfold sp
        dsimp only
        by_cases hq : pOf t[i].2.1 t[i].2.2 = 1000
        · omega
        · have := hp _ (pOf_is hq)
          omega)
      simp only [wSs, wS, wT, wE, wEs, wO, wC, wI, wG, wGs, startD, List.map_cons, List.map_nil, List.length_cons, List.length_nil, List.replicate, List.cons_append, List.nil_append, List.append_nil, List.set_cons_zero, List.set_cons_succ, List.getElem?_cons_zero, List.getElem?_cons_succ, itT, wipeD] at this ⊢
      exact this
  · rintro σ S2 ⟨x3, x4, x5, x6, rfl, rfl⟩
    have el : (tabL t).length = t.length := by unfold tabL; rw [List.length_map]
    rw [el, List.take_length]
    simp only [wSs, wS, wT, wE, wEs, wO, wC, wI, wG, wGs, startD, List.map_cons, List.map_nil, List.length_cons, List.length_nil, List.replicate, List.cons_append, List.nil_append, List.append_nil, List.set_cons_zero, List.set_cons_succ, List.getElem?_cons_zero, List.getElem?_cons_succ, itT, wipeD, opAddI, opSubI, opMulI, opDivI, opModI, opPowI, opAddT, cmEq, cmNe, cmLt, cmLe, cmGt, cmGe, cmIn, eqI, eqS, inS2, truB, ixT0, ixT1, ixT2, ixT3, ixT4, ixT6, slcT, lenT, absI, intI, tupleT, listT, listRl, decide_true, decide_false, if_true, if_false, Bool.false_eq_true, reduceIte, decide_eq_true_eq, Bool.not_true, Bool.not_false, line, mI_int, mI_bool, mI_str, mI_tuple, mI_list, mB_int, mB_bool, mB_str, mB_tuple, mB_list, mS_int, mS_bool, mS_str, mS_tuple, mS_list, mT_int, mT_bool, mT_str, mT_tuple, mT_list, mN_int, mN_bool, mN_str, mN_tuple, mN_list, anyT, anyF, Nat.zero_add, Nat.reduceAdd, Nat.reduceLeDiff, true_and]
    exact ⟨S2, Sto.le_refl, hQ⟩
end K50
namespace K50
open PySem PySem.Spec PyProof.Rows L2 Mi
variable {k : Nat} {S : Sto} {Q : KD} {X : KX} {n d s o i j T p : Nat} {t : List Te} {W : Nat}
def rq (q : Rat) : D := fr q.num q.den
theorem nrm_mk {n : Int} {d : Nat} (hd : d ≠ 0) : nrm n d = rq (mkRat n d) := by
  unfold nrm rq fr
  rw [Rat.num_mkRat, Rat.den_mkRat, if_neg hd, if_neg hd]
  have e : Int.gcd n (d : Int) = d.gcd n.natAbs := by
    show Nat.gcd n.natAbs d = _
    exact Nat.gcd_comm _ _
  rw [e]
  rfl
structure Zq (m : Nat) (q : Rat) : Prop where
  n : Sz m q.num
  d : Sz m (q.den : Int)
theorem Zq.mono {m m' : Nat} {q : Rat} (h : Zq m q) (hm : m ≤ m') : Zq m' q := ⟨h.n.mono hm, h.d.mono hm⟩
theorem Zq.of {m : Nat} {x : Int} {E : Nat} (hx : x.natAbs < 2 ^ m) (hd : E < 2 ^ m) (h0 : E ≠ 0) : Zq m (mkRat x E) := by
  constructor
  · unfold Sz
    rw [Rat.num_mkRat, if_neg h0]
    exact Nat.lt_of_le_of_lt (Int.natAbs_ediv_le_natAbs _ _) hx
  · refine szn ?_
    rw [Rat.den_mkRat, if_neg h0]
    exact Nat.lt_of_le_of_lt (Nat.div_le_self _ _) hd
variable {a b : Rat}
theorem den_pos' : (0 : Int) < (a.den : Int) := by have := a.den_pos; omega
theorem lplus_rq (hk : 2 < k) (za : Zq 1500 a) (zb : Zq 1500 b) (hQ : Q (rq (a + b)) S) : Γ k "_law_plus" [rq a, rq b] S Q X := by
  cases k with
  | zero => omega
  | succ k =>
  refine gam (np := 2) (nn := 2) (b := b__law_plus) rfl rfl ?_
  simp only [b__law_plus, rq, fr, wSs, wS, wT, wE, wEs, wO, wC, wI, wG, wGs, startD, List.map_cons, List.map_nil, List.length_cons, List.length_nil, List.replicate, List.cons_append, List.nil_append, List.append_nil, List.set_cons_zero, List.set_cons_succ, List.getElem?_cons_zero, List.getElem?_cons_succ, itT, wipeD, opAddI, opSubI, opMulI, opDivI, opModI, opPowI, opAddT, cmEq, cmNe, cmLt, cmLe, cmGt, cmGe, cmIn, eqI, eqS, inS2, truB, ixT0, ixT1, ixT2, ixT3, ixT4, ixT6, slcT, lenT, absI, intI, tupleT, listT, listRl, decide_true, decide_false, if_true, if_false, Bool.false_eq_true, reduceIte, decide_eq_true_eq, Bool.not_true, Bool.not_false, line, mI_int, mI_bool, mI_str, mI_tuple, mI_list, mB_int, mB_bool, mB_str, mB_tuple, mB_list, mS_int, mS_bool, mS_str, mS_tuple, mS_list, mT_int, mT_bool, mT_str, mT_tuple, mT_list, mN_int, mN_bool, mN_str, mN_tuple, mN_list, anyT, anyF, Nat.zero_add, Nat.reduceAdd, Nat.reduceLeDiff, true_and]
  refine ⟨za.n.cm zb.d, zb.n.cm za.d, za.d.cm zb.d, lfrac (by omega) (Int.mul_pos den_pos' den_pos') (za.d.mul zb.d) (by decide) ⟨S, Sto.le_refl, ?_⟩⟩
  rw [← Int.natCast_mul, nrm_mk (Nat.mul_ne_zero a.den_nz b.den_nz), ← Rat.add_def']
  exact hQ
theorem ltimes_rq (hk : 2 < k) (za : Zq 1500 a) (zb : Zq 1500 b) (hQ : Q (rq (a * b)) S) : Γ k "_law_times" [rq a, rq b] S Q X := by
  cases k with
  | zero => omega
  | succ k =>
  refine gam (np := 2) (nn := 2) (b := b__law_times) rfl rfl ?_
  simp only [b__law_times, rq, fr, wSs, wS, wT, wE, wEs, wO, wC, wI, wG, wGs, startD, List.map_cons, List.map_nil, List.length_cons, List.length_nil, List.replicate, List.cons_append, List.nil_append, List.append_nil, List.set_cons_zero, List.set_cons_succ, List.getElem?_cons_zero, List.getElem?_cons_succ, itT, wipeD, opAddI, opSubI, opMulI, opDivI, opModI, opPowI, opAddT, cmEq, cmNe, cmLt, cmLe, cmGt, cmGe, cmIn, eqI, eqS, inS2, truB, ixT0, ixT1, ixT2, ixT3, ixT4, ixT6, slcT, lenT, absI, intI, tupleT, listT, listRl, decide_true, decide_false, if_true, if_false, Bool.false_eq_true, reduceIte, decide_eq_true_eq, Bool.not_true, Bool.not_false, line, mI_int, mI_bool, mI_str, mI_tuple, mI_list, mB_int, mB_bool, mB_str, mB_tuple, mB_list, mS_int, mS_bool, mS_str, mS_tuple, mS_list, mT_int, mT_bool, mT_str, mT_tuple, mT_list, mN_int, mN_bool, mN_str, mN_tuple, mN_list, anyT, anyF, Nat.zero_add, Nat.reduceAdd, Nat.reduceLeDiff, true_and]
  refine ⟨za.n.cm zb.n, za.d.cm zb.d, lfrac (by omega) (Int.mul_pos den_pos' den_pos') (za.d.mul zb.d) (by decide) ⟨S, Sto.le_refl, ?_⟩⟩
  rw [← Int.natCast_mul, nrm_mk (Nat.mul_ne_zero a.den_nz b.den_nz), ← Rat.mul_def']
  exact hQ
theorem div_eq (hb : 0 < b.num) : mkRat (a.num * b.den) (a.den * b.num.toNat) = a / b := by
  have e1 : a = (a.num : Rat) / (a.den : Rat) := by rw [← Rat.mkRat_eq_div]; exact (Rat.mkRat_self a).symm
  have e2 : b = (b.num : Rat) / (b.den : Rat) := by rw [← Rat.mkRat_eq_div]; exact (Rat.mkRat_self b).symm
  have hn : ((b.num.toNat : Nat) : Rat) = (b.num : Rat) := by
    have : ((b.num.toNat : Nat) : Int) = b.num := by omega
    rw [← this]
    rfl
  have h1 : (a.den : Rat) ≠ 0 := fun z => by
    have := Rat.natCast_pos.mpr a.den_pos
    rw [z] at this
    exact absurd this (by decide)
  have h2 : (b.den : Rat) ≠ 0 := fun z => by
    have := Rat.natCast_pos.mpr b.den_pos
    rw [z] at this
    exact absurd this (by decide)
  have h3 : (b.num : Rat) ≠ 0 := fun z => by
    have := Rat.intCast_pos.mpr hb
    rw [z] at this
    exact absurd this (by decide)
  have key : ∀ an ad bn bd : Rat, ad ≠ 0 → bn ≠ 0 → bd ≠ 0 → an * bd / (ad * bn) = an / ad / (bn / bd) := by
    intro an ad bn bd h1 h2 h3
    grind
  rw [Rat.mkRat_eq_div, Rat.intCast_mul, Rat.natCast_mul, hn]
  have e4 : a / b = ((a.num : Rat) / (a.den : Rat)) / ((b.num : Rat) / (b.den : Rat)) := by rw [← e1, ← e2]
  rw [e4]
  exact key _ _ _ _ h1 h3 h2
theorem lover_rq (hk : 2 < k) (za : Zq 1500 a) (zb : Zq 1500 b) (hb : 0 < b.num) (hQ : Q (rq (a / b)) S) : Γ k "_law_over" [rq a, rq b] S Q X := by
  cases k with
  | zero => omega
  | succ k =>
  refine gam (np := 2) (nn := 2) (b := b__law_over) rfl rfl ?_
  simp only [b__law_over, rq, fr, wSs, wS, wT, wE, wEs, wO, wC, wI, wG, wGs, startD, List.map_cons, List.map_nil, List.length_cons, List.length_nil, List.replicate, List.cons_append, List.nil_append, List.append_nil, List.set_cons_zero, List.set_cons_succ, List.getElem?_cons_zero, List.getElem?_cons_succ, itT, wipeD, opAddI, opSubI, opMulI, opDivI, opModI, opPowI, opAddT, cmEq, cmNe, cmLt, cmLe, cmGt, cmGe, cmIn, eqI, eqS, inS2, truB, ixT0, ixT1, ixT2, ixT3, ixT4, ixT6, slcT, lenT, absI, intI, tupleT, listT, listRl, decide_true, decide_false, if_true, if_false, Bool.false_eq_true, reduceIte, decide_eq_true_eq, Bool.not_true, Bool.not_false, line, mI_int, mI_bool, mI_str, mI_tuple, mI_list, mB_int, mB_bool, mB_str, mB_tuple, mB_list, mS_int, mS_bool, mS_str, mS_tuple, mS_list, mT_int, mT_bool, mT_str, mT_tuple, mT_list, mN_int, mN_bool, mN_str, mN_tuple, mN_list, anyT, anyF, Nat.zero_add, Nat.reduceAdd, Nat.reduceLeDiff, true_and]
  rw [if_neg (by omega)]
  have hm : 0 < (a.den : Int) * b.num := Int.mul_pos den_pos' hb
  refine ⟨za.n.cm zb.d, za.d.cm zb.n, lfrac (by omega) hm (za.d.mul zb.n) (by decide) ⟨S, Sto.le_refl, ?_⟩⟩
  have e : (a.den : Int) * b.num = ((a.den * b.num.toNat : Nat) : Int) := by rw [Int.natCast_mul]; congr 1; omega
  rw [e, nrm_mk (Nat.mul_ne_zero a.den_nz (by omega)), div_eq hb]
  exact hQ
theorem fraction_rq {n : Int} (hk : 0 < k) (hd : 0 < d) (hs : d < 2 ^ 250) (hQ : Q (rq (mkRat n d)) S) : Γ k "fraction" [.int n, .int (d : Int)] S Q X := by
  refine frac (m := 250) hk (by omega) (szn hs) (by decide) ?_
  rw [if_neg (by omega), nrm_mk (by omega)]
  exact hQ
theorem plus_rq (hk : 1 < k) (za : Zq 1500 a) (zb : Zq 1500 b) (hQ : Q (rq (a + b)) S) : Γ k "plus" [rq a, rq b] S Q X := by
  cases k with
  | zero => omega
  | succ k =>
  refine gam (np := 2) (nn := 2) (b := b_plus) rfl rfl ?_
  simp only [b_plus, rq, fr, wSs, wS, wT, wE, wEs, wO, wC, wI, wG, wGs, startD, List.map_cons, List.map_nil, List.length_cons, List.length_nil, List.replicate, List.cons_append, List.nil_append, List.append_nil, List.set_cons_zero, List.set_cons_succ, List.getElem?_cons_zero, List.getElem?_cons_succ, itT, wipeD, opAddI, opSubI, opMulI, opDivI, opModI, opPowI, opAddT, cmEq, cmNe, cmLt, cmLe, cmGt, cmGe, cmIn, eqI, eqS, inS2, truB, ixT0, ixT1, ixT2, ixT3, ixT4, ixT6, slcT, lenT, absI, intI, tupleT, listT, listRl, decide_true, decide_false, if_true, if_false, Bool.false_eq_true, reduceIte, decide_eq_true_eq, Bool.not_true, Bool.not_false, line, mI_int, mI_bool, mI_str, mI_tuple, mI_list, mB_int, mB_bool, mB_str, mB_tuple, mB_list, mS_int, mS_bool, mS_str, mS_tuple, mS_list, mT_int, mT_bool, mT_str, mT_tuple, mT_list, mN_int, mN_bool, mN_str, mN_tuple, mN_list, anyT, anyF, Nat.zero_add, Nat.reduceAdd, Nat.reduceLeDiff, true_and]
  have hpos : 0 < (a.den : Int) * (b.den : Int) := Int.mul_pos den_pos' den_pos'
  have hres : nrm (a.num * (b.den : Int) + b.num * (a.den : Int)) ((a.den : Int) * (b.den : Int)) = rq (a + b) := by
    rw [← Int.natCast_mul, nrm_mk (Nat.mul_ne_zero a.den_nz b.den_nz), ← Rat.add_def']
  have fin : CMulW a.num b.den ∧ CMulW b.num a.den ∧ CMulW (a.den : Int) b.den ∧ Γ k "fraction" [D.int (a.num * b.den + b.num * a.den), D.int ((a.den : Int) * b.den)] S (fun d S' => ∃ S0, S0.le S' ∧ Q d S0) (fun x S' => ∃ S0, S0.le S' ∧ X x S0) := by
    refine ⟨za.n.cm zb.d, zb.n.cm za.d, za.d.cm zb.d, frac (by omega) (by omega) (za.d.mul zb.d) (by decide) ?_⟩
    rw [if_neg (by omega), hres]
    exact ⟨S, Sto.le_refl, hQ⟩
  by_cases h1 : (a.den : Int) = 1
  · rw [if_pos h1]
    by_cases h2 : (b.den : Int) = 1
    · rw [if_pos h2]
      refine ⟨S, Sto.le_refl, ?_⟩
      have e : D.tup [.int (a.num + b.num), .int 1] = rq (a + b) := by
        rw [← hres, h1, h2]
        unfold nrm
        rw [Int.mul_one, Int.mul_one, Int.mul_one, Int.gcd_one_right]
        simp
      rw [e]
      exact hQ
    · rw [if_neg h2]
      exact fin
  · rw [if_neg h1]
    exact fin
theorem over_rq (hk : 1 < k) (za : Zq 1500 a) (zb : Zq 1500 b) (hb : 0 < b.num) (hQ : Q (rq (a / b)) S) : Γ k "over" [rq a, rq b] S Q X := by
  cases k with
  | zero => omega
  | succ k =>
  refine gam (np := 2) (nn := 2) (b := b_over) rfl rfl ?_
  simp only [b_over, rq, fr, wSs, wS, wT, wE, wEs, wO, wC, wI, wG, wGs, startD, List.map_cons, List.map_nil, List.length_cons, List.length_nil, List.replicate, List.cons_append, List.nil_append, List.append_nil, List.set_cons_zero, List.set_cons_succ, List.getElem?_cons_zero, List.getElem?_cons_succ, itT, wipeD, opAddI, opSubI, opMulI, opDivI, opModI, opPowI, opAddT, cmEq, cmNe, cmLt, cmLe, cmGt, cmGe, cmIn, eqI, eqS, inS2, truB, ixT0, ixT1, ixT2, ixT3, ixT4, ixT6, slcT, lenT, absI, intI, tupleT, listT, listRl, decide_true, decide_false, if_true, if_false, Bool.false_eq_true, reduceIte, decide_eq_true_eq, Bool.not_true, Bool.not_false, line, mI_int, mI_bool, mI_str, mI_tuple, mI_list, mB_int, mB_bool, mB_str, mB_tuple, mB_list, mS_int, mS_bool, mS_str, mS_tuple, mS_list, mT_int, mT_bool, mT_str, mT_tuple, mT_list, mN_int, mN_bool, mN_str, mN_tuple, mN_list, anyT, anyF, Nat.zero_add, Nat.reduceAdd, Nat.reduceLeDiff, true_and]
  rw [if_neg (by omega)]
  have hm : 0 < (a.den : Int) * b.num := Int.mul_pos den_pos' hb
  have e : (a.den : Int) * b.num = ((a.den * b.num.toNat : Nat) : Int) := by rw [Int.natCast_mul]; congr 1; omega
  refine ⟨za.n.cm zb.d, za.d.cm zb.n, frac (by omega) (by omega) (za.d.mul zb.n) (by decide) ?_⟩
  rw [if_neg (by omega), e, nrm_mk (Nat.mul_ne_zero a.den_nz (by omega)), div_eq hb]
  exact ⟨S, Sto.le_refl, hQ⟩
theorem rq_int {x : Int} : rq (x : Rat) = fr x 1 := by unfold rq; rw [Rat.num_intCast, Rat.den_intCast]; rfl
theorem half_pow {m : Nat} : rq ((1 / 2 : Rat) ^ m) = fr 1 ((2 ^ m : Nat) : Int) := by
  unfold rq
  rw [Rat.num_pow, Rat.den_pow]
  have e1 : (1 / 2 : Rat).num = 1 := by decide +kernel
  have e2 : (1 / 2 : Rat).den = 2 := by decide +kernel
  rw [e1, e2, Int.one_pow]
theorem power_half {m : Nat} (hk : 0 < k) (hm : m ≤ 200) (hQ : Q (rq ((1 / 2 : Rat) ^ m)) S) : Γ k "_law_power" [fr 1 2, .int (m : Int)] S Q X := by
  cases k with
  | zero => omega
  | succ k =>
  refine gam (np := 2) (nn := 5) (b := b__law_power) rfl rfl ?_
  simp only [b__law_power, fr, wSs, wS, wT, wE, wEs, wO, wC, wI, wG, wGs, startD, List.map_cons, List.map_nil, List.length_cons, List.length_nil, List.replicate, List.cons_append, List.nil_append, List.append_nil, List.set_cons_zero, List.set_cons_succ, List.getElem?_cons_zero, List.getElem?_cons_succ, itT, wipeD, opAddI, opSubI, opMulI, opDivI, opModI, opPowI, opAddT, cmEq, cmNe, cmLt, cmLe, cmGt, cmGe, cmIn, eqI, eqS, inS2, truB, ixT0, ixT1, ixT2, ixT3, ixT4, ixT6, slcT, lenT, absI, intI, tupleT, listT, listRl, decide_true, decide_false, if_true, if_false, Bool.false_eq_true, reduceIte, decide_eq_true_eq, Bool.not_true, Bool.not_false, line, mI_int, mI_bool, mI_str, mI_tuple, mI_list, mB_int, mB_bool, mB_str, mB_tuple, mB_list, mS_int, mS_bool, mS_str, mS_tuple, mS_list, mT_int, mT_bool, mT_str, mT_tuple, mT_list, mN_int, mN_bool, mN_str, mN_tuple, mN_list, anyT, anyF, Nat.zero_add, Nat.reduceAdd, Nat.reduceLeDiff, true_and]
  refine ⟨⟨by omega, by omega⟩, ?_⟩
  rw [Int.toNat_natCast]
  refine forL_inv (rngD 0 m) (fun i σ S2 => ∃ x4, σ = [some (.tup [.int 1, .int 2]), some (.int (m : Int)), some (.int 1), some (.int ((2 ^ i : Nat) : Int)), x4] ∧ S2 = S) (fun _ _ _ _ => trivial) ?_ ?_ ⟨_, rfl, rfl⟩
  · rintro i dd σ S2 NX hd' ⟨x4, rfl, rfl⟩ hN
    have hi : i < m := by
      have := (List.getElem?_eq_some_iff.mp hd').1
      simpa [rngD] using this
    have s1 : Sz 201 ((2 ^ i : Nat) : Int) := szn (Nat.pow_lt_pow_right (by decide) (by omega))
    have s2 : Sz 2 2 := by unfold Sz; decide
    have s3 : Sz 1 1 := by unfold Sz; decide
    simp only [s__law_power_1, wSs, wS, wT, wE, wEs, wO, wC, wI, wG, wGs, startD, List.map_cons, List.map_nil, List.length_cons, List.length_nil, List.replicate, List.cons_append, List.nil_append, List.append_nil, List.set_cons_zero, List.set_cons_succ, List.getElem?_cons_zero, List.getElem?_cons_succ, itT, wipeD, opAddI, opSubI, opMulI, opDivI, opModI, opPowI, opAddT, cmEq, cmNe, cmLt, cmLe, cmGt, cmGe, cmIn, eqI, eqS, inS2, truB, ixT0, ixT1, ixT2, ixT3, ixT4, ixT6, slcT, lenT, absI, intI, tupleT, listT, listRl, decide_true, decide_false, if_true, if_false, Bool.false_eq_true, reduceIte, decide_eq_true_eq, Bool.not_true, Bool.not_false, line, mI_int, mI_bool, mI_str, mI_tuple, mI_list, mB_int, mB_bool, mB_str, mB_tuple, mB_list, mS_int, mS_bool, mS_str, mS_tuple, mS_list, mT_int, mT_bool, mT_str, mT_tuple, mT_list, mN_int, mN_bool, mN_str, mN_tuple, mN_list, anyT, anyF, Nat.zero_add, Nat.reduceAdd, Nat.reduceLeDiff, true_and, Int.mul_one]
    have e : ((2 ^ (i + 1) : Nat) : Int) = ((2 ^ i : Nat) : Int) * 2 := by rw [Nat.pow_succ, Int.natCast_mul]; rfl
    rw [e] at hN
    exact ⟨s3.cm s3, s1.cm s2, hN _ _ ⟨_, rfl, rfl⟩⟩
  · rintro σ S2 ⟨x4, rfl, rfl⟩
    have hl : (rngD 0 m).length = m := by simp [rngD]
    rw [hl]
    simp only [wSs, wS, wT, wE, wEs, wO, wC, wI, wG, wGs, startD, List.map_cons, List.map_nil, List.length_cons, List.length_nil, List.replicate, List.cons_append, List.nil_append, List.append_nil, List.set_cons_zero, List.set_cons_succ, List.getElem?_cons_zero, List.getElem?_cons_succ, itT, wipeD, opAddI, opSubI, opMulI, opDivI, opModI, opPowI, opAddT, cmEq, cmNe, cmLt, cmLe, cmGt, cmGe, cmIn, eqI, eqS, inS2, truB, ixT0, ixT1, ixT2, ixT3, ixT4, ixT6, slcT, lenT, absI, intI, tupleT, listT, listRl, decide_true, decide_false, if_true, if_false, Bool.false_eq_true, reduceIte, decide_eq_true_eq, Bool.not_true, Bool.not_false, line, mI_int, mI_bool, mI_str, mI_tuple, mI_list, mB_int, mB_bool, mB_str, mB_tuple, mB_list, mS_int, mS_bool, mS_str, mS_tuple, mS_list, mT_int, mT_bool, mT_str, mT_tuple, mT_list, mN_int, mN_bool, mN_str, mN_tuple, mN_list, anyT, anyF, Nat.zero_add, Nat.reduceAdd, Nat.reduceLeDiff, true_and]
    refine ⟨S2, Sto.le_refl, ?_⟩
    rw [half_pow] at hQ
    exact hQ
end K50
namespace K50
open PySem PySem.Spec PyProof.Rows L2 Mi
variable {k : Nat} {S : Sto} {Q : KD} {X : KX} {n d s o i j T p : Nat} {t : List Te} {W : Nat}
abbrev ry (y : Te) (k : Nat) : Nat := rs y.2.1 y.2.2 k
def Rk (t : List Te) (W k : Nat) : Nat := (t.map fun y => ry y k * (W / y.2.2)).sum
def mk (t : List Te) (W k : Nat) : Nat := Rk t W k / W
def tel (k : Nat) (y : Te) : Option D := if y.2.2 ≤ 2 * ry y k then some (.int y.1) else none
def toL (t : List Te) (k : Nat) : List D := t.filterMap (tel k)
theorem rs_step (hd : 0 < d) : 2 * rs n d i = d * dg n d i + rs n d (i + 1) := by
  rw [rs_succ]
  exact (Nat.div_add_mod _ _).symm
theorem Tab.dpos (h : Tab t W) {y : Te} (hy : y ∈ t) : 0 < y.2.2 := by
  have := (h.el y hy).1
  omega
theorem Tab.div (h : Tab t W) {y : Te} (hy : y ∈ t) : y.2.2 * (W / y.2.2) = W := Nat.mul_div_cancel' (h.el y hy).2.2
theorem sum_step (f g c : Te → Nat) (w : Nat) : ∀ l : List Te, (∀ y ∈ l, 2 * f y = w * c y + g y) → 2 * (l.map f).sum = w * (l.map c).sum + (l.map g).sum
  | [], _ => by simp
  | y :: l, h => by
    have h1 := h y List.mem_cons_self
    have h2 := sum_step f g c w l fun x hx => h x (List.mem_cons_of_mem _ hx)
    simp only [List.map_cons, List.sum_cons, Nat.mul_add] at *
    omega
theorem Rk_step (h : Tab t W) (k : Nat) : 2 * Rk t W k = W * (t.map fun y => dg y.2.1 y.2.2 k).sum + Rk t W (k + 1) := by
  refine sum_step _ _ _ W t fun y hy => ?_
  have h1 := rs_step (n := y.2.1) (i := k) (h.dpos hy)
  have h2 := h.div hy
  calc 2 * (ry y k * (W / y.2.2)) = (2 * ry y k) * (W / y.2.2) := by rw [Nat.mul_assoc]
    _ = (y.2.2 * dg y.2.1 y.2.2 k + ry y (k + 1)) * (W / y.2.2) := by rw [h1]
    _ = y.2.2 * (W / y.2.2) * dg y.2.1 y.2.2 k + ry y (k + 1) * (W / y.2.2) := by rw [Nat.add_mul, Nat.mul_right_comm]
    _ = _ := by rw [h2]
theorem Rk_dvd (h : Tab t W) : ∀ k, W ∣ Rk t W k
  | 0 => by
    have e : Rk t W 0 = W := by
      have := h.sum
      unfold Rk
      rw [← this]
      congr 1
      refine List.map_congr_left fun y hy => ?_
      rw [this]
      unfold ry
      rw [rs_zero (h.el y hy).1]
    rw [e]
    exact Nat.dvd_refl _
  | k + 1 => by
    have h1 := Rk_step h k
    have h2 := Rk_dvd h k
    have h3 : W ∣ W * (t.map fun y => dg y.2.1 y.2.2 k).sum + Rk t W (k + 1) := by
      rw [← h1]
      exact Nat.dvd_trans h2 ⟨2, Nat.mul_comm _ _⟩
    exact (Nat.dvd_add_right ⟨_, rfl⟩).mp h3
theorem Rk_mk (h : Tab t W) (k : Nat) : Rk t W k = W * mk t W k := (Nat.mul_div_cancel' (Rk_dvd h k)).symm
theorem sum_lt (f : Te → Nat) (w : Nat) : ∀ l : List Te, (∀ y ∈ l, f y ≤ w) → (l.map f).sum ≤ l.length * w
  | [], _ => by simp
  | y :: l, h => by
    have h1 := h y List.mem_cons_self
    have h2 := sum_lt f w l fun x hx => h x (List.mem_cons_of_mem _ hx)
    simp only [List.map_cons, List.sum_cons, List.length_cons, Nat.add_mul, Nat.one_mul]
    omega
theorem ry_le (h : Tab t W) {y : Te} (hy : y ∈ t) : ry y k * (W / y.2.2) ≤ W := by
  have h1 := rs_lt (n := y.2.1) (i := k) (h.dpos hy)
  calc ry y k * (W / y.2.2) ≤ y.2.2 * (W / y.2.2) := Nat.mul_le_mul_right _ (Nat.le_of_lt h1)
    _ = W := h.div hy
theorem mk_le (h : Tab t W) : mk t W k ≤ 4 := by
  have h1 : Rk t W k ≤ t.length * W := sum_lt _ W t fun y hy => ry_le h hy
  have h2 : t.length * W ≤ 4 * W := Nat.mul_le_mul_right _ h.len
  exact Nat.div_le_of_le_mul (by rw [Nat.mul_comm]; omega)
def lowF (t : List Te) : Nat := t.foldl (fun a y => Nat.lcm a y.2.2) 1
theorem low_ok : ∀ (l : List Te) (a : Nat), (∀ y ∈ l, 0 < y.2.2) → 0 < a → (a ∣ l.foldl (fun a y => Nat.lcm a y.2.2) a) ∧ (∀ y ∈ l, y.2.2 ∣ l.foldl (fun a y => Nat.lcm a y.2.2) a) ∧ 0 < l.foldl (fun a y => Nat.lcm a y.2.2) a ∧ ∀ w, a ∣ w → (∀ y ∈ l, y.2.2 ∣ w) → l.foldl (fun a y => Nat.lcm a y.2.2) a ∣ w
  | [], a, _, h => ⟨Nat.dvd_refl _, (fun _ hy => by cases hy), h, fun w hw _ => hw⟩
  | y :: l, a, hl, h => by
    obtain ⟨h1, h2, h3, h4⟩ := low_ok l (Nat.lcm a y.2.2) (fun x hx => hl x (List.mem_cons_of_mem _ hx)) (Nat.lcm_pos h (hl y List.mem_cons_self))
    rw [List.foldl_cons]
    refine ⟨Nat.dvd_trans (Nat.dvd_lcm_left _ _) h1, fun x hx => ?_, h3, fun w hw hx => h4 w (Nat.lcm_dvd hw (hx y List.mem_cons_self)) fun z hz => hx z (List.mem_cons_of_mem _ hz)⟩
    rcases List.mem_cons.mp hx with rfl | hx
    · exact Nat.dvd_trans (Nat.dvd_lcm_right _ _) h1
    · exact h2 x hx
theorem low_take (i : Nat) (hi : i < t.length) : lowF (t.take (i + 1)) = Nat.lcm (lowF (t.take i)) t[i].2.2 := by
  unfold lowF
  rw [List.take_succ_eq_append_getElem hi, List.foldl_append]
  rfl
theorem low_w (h : Tab t W) (i : Nat) : 0 < lowF (t.take i) ∧ lowF (t.take i) ∣ W := by
  obtain ⟨h1, h2, h3, h4⟩ := low_ok (t.take i) 1 (fun y hy => h.dpos (List.mem_of_mem_take hy)) (by decide)
  exact ⟨h3, h4 W ⟨W, by simp⟩ fun y hy => (h.el y (List.mem_of_mem_take hy)).2.2⟩
theorem low_all (h : Tab t W) : 0 < lowF t ∧ lowF t ∣ W ∧ lowF t < 256 ∧ ∀ y ∈ t, y.2.2 ∣ lowF t := by
  obtain ⟨h1, h2, h3, h4⟩ := low_ok t 1 (fun y hy => h.dpos hy) (by decide)
  have h5 : lowF t ∣ W := h4 W ⟨W, by simp⟩ fun y hy => (h.el y hy).2.2
  exact ⟨h3, h5, Nat.lt_of_le_of_lt (Nat.le_of_dvd h.w0 h5) h.w1, h2⟩
def reL (t : List Te) (k : Nat) : List D := t.map fun y => D.int ((ry y k * (lowF t / y.2.2) : Nat) : Int)
theorem sum_scale (f : Te → Nat) (c : Nat) : ∀ l : List Te, (l.map fun y => f y * c).sum = (l.map f).sum * c
  | [] => by simp
  | y :: l => by simp only [List.map_cons, List.sum_cons, Nat.add_mul, sum_scale f c l]
theorem sum_low (h : Tab t W) : (t.map fun y => ry y k * (lowF t / y.2.2)).sum / lowF t = mk t W k := by
  obtain ⟨h1, ⟨e, he⟩, h3, h4⟩ := low_all h
  have e0 : 0 < e := Nat.pos_of_ne_zero fun z => by rw [z, Nat.mul_zero] at he; have := h.w0; omega
  have hR : Rk t W k = (t.map fun y => ry y k * (lowF t / y.2.2)).sum * e := by
    rw [← sum_scale]
    unfold Rk
    congr 1
    refine List.map_congr_left fun y hy => ?_
    obtain ⟨c, hc⟩ := h4 y hy
    have hp := h.dpos hy
    have hW : W = y.2.2 * (c * e) := by rw [he, hc, Nat.mul_assoc]
    rw [hW, hc, Nat.mul_div_cancel_left _ hp, Nat.mul_div_cancel_left _ hp, Nat.mul_assoc]
  unfold mk
  rw [hR]
  have hW2 : W = lowF t * e := he
  rw [hW2, Nat.mul_div_mul_right _ _ e0]
theorem re_next (h : Tab t W) {y : Te} (hy : y ∈ t) : 2 * (ry y k * (lowF t / y.2.2)) % lowF t = ry y (k + 1) * (lowF t / y.2.2) := by
  obtain ⟨h1, _, h3, h4⟩ := low_all h
  obtain ⟨c, hc⟩ := h4 y hy
  have hp := h.dpos hy
  unfold ry
  rw [rs_succ]
  generalize lowF t = w at *
  subst hc
  rw [Nat.mul_div_cancel_left _ hp, ← Nat.mul_assoc, Nat.mul_mod_mul_right]
theorem re_ge (h : Tab t W) {y : Te} (hy : y ∈ t) : lowF t ≤ 2 * (ry y k * (lowF t / y.2.2)) ↔ y.2.2 ≤ 2 * ry y k := by
  obtain ⟨h1, _, h3, h4⟩ := low_all h
  obtain ⟨c, hc⟩ := h4 y hy
  have hp := h.dpos hy
  have c0 : 0 < c := Nat.pos_of_ne_zero fun z => by rw [z, Nat.mul_zero] at hc; omega
  rw [hc, Nat.mul_div_cancel_left _ hp, ← Nat.mul_assoc]
  exact Nat.mul_le_mul_right_iff c0
theorem filt_range {α β : Type} (f : α → Option β) (l : List α) : ∀ m, m ≤ l.length → (List.range m).filterMap (fun i => (l[i]?).bind f) = (l.take m).filterMap f
  | 0, _ => by simp
  | m + 1, h => by
    rw [List.range_succ, List.filterMap_append, filt_range f l m (by omega), List.take_succ_eq_append_getElem (by omega), List.filterMap_append]
    congr 1
    rw [List.filterMap_cons, List.filterMap_cons, List.getElem?_eq_getElem (by omega)]
    rfl
end K50
namespace K50
open PySem PySem.Spec PyProof.Rows L2 Mi
variable {k : Nat} {S : Sto} {Q : KD} {X : KX} {n d s o i j T p : Nat} {t : List Te} {W : Nat}
def Fd (S : Sto) (fp : Addr) (t : List Te) (W m : Nat) (fl : List D) : Prop := fl.length = m ∧ ∀ i, i < m → ∃ q, q ≠ fp ∧ fl[i]? = some (.tup [.int (mk t W i : Nat), .ref q]) ∧ S q = some (.lst (toL t i))
theorem Fd.push {fp q : Addr} {m : Nat} {fl : List D} {S2 : Sto} (h : Fd S fp t W m fl) (hq : q ≠ fp) (h2 : ∀ b c, b ≠ fp → S b = some c → S2 b = some c) (hS : S2 q = some (.lst (toL t m))) : Fd S2 fp t W (m + 1) (fl ++ [.tup [.int (mk t W m : Nat), .ref q]]) := by
  obtain ⟨h1, h3⟩ := h
  refine ⟨by simp [h1], fun i hi => ?_⟩
  by_cases him : i < m
  · obtain ⟨r, r1, r2, r3⟩ := h3 i him
    exact ⟨r, r1, by rw [List.getElem?_append_left (by omega)]; exact r2, h2 _ _ r1 r3⟩
  · have e : i = m := by omega
    subst e
    exact ⟨q, hq, by rw [List.getElem?_append_right (by omega), h1]; simp, hS⟩
theorem Fd.mono {fp : Addr} {m : Nat} {fl : List D} {S2 : Sto} (h : Fd S fp t W m fl) (h2 : ∀ b c, b ≠ fp → S b = some c → S2 b = some c) : Fd S2 fp t W m fl :=
  ⟨h.1, fun i hi => by obtain ⟨r, r1, r2, r3⟩ := h.2 i hi; exact ⟨r, r1, r2, h2 _ _ r1 r3⟩⟩
def gRe (w : Nat) : D → Option D
  | .tup [.int _, .tup [.int n, .int d]] => some (.int (n * ((w : Int) / d)))
  | _ => none
theorem gRe_tab (w : Nat) : (tabL t).filterMap (gRe w) = t.map fun y => D.int ((y.2.1 * (w / y.2.2) : Nat) : Int) := by
  unfold tabL
  rw [List.filterMap_map]
  have e : gRe w ∘ teD = some ∘ fun y => D.int ((y.2.1 * (w / y.2.2) : Nat) : Int) := rfl
  rw [e, List.filterMap_eq_map]
def gTo (t : List Te) (k : Nat) : D → Option D
  | .int j => (t[j.toNat]?).bind (tel k)
  | _ => none
theorem gTo_tab (m : Nat) : (rngD 0 t.length).filterMap (gTo t m) = toL t m := by
  unfold rngD toL
  rw [List.filterMap_map]
  have e : (gTo t m ∘ fun (i : Nat) => D.int (0 + (i : Int))) = fun i => (t[i]?).bind (tel m) := by
    funext i
    show (t[(0 + (i : Int)).toNat]?).bind (tel m) = _
    rw [Int.zero_add, Int.toNat_natCast]
  rw [e, filt_range (tel m) t t.length (Nat.le_refl _), List.take_length]
def gNx (w : Nat) : D → Option D
  | .int j => some (.int (2 * j % w))
  | _ => none
theorem gNx_tab (h : Tab t W) (m : Nat) : (reL t m).filterMap (gNx (lowF t)) = reL t (m + 1) := by
  unfold reL
  rw [List.filterMap_map]
  have e : (gNx (lowF t) ∘ fun y : Te => D.int ((ry y m * (lowF t / y.2.2) : Nat) : Int)) = some ∘ fun y => D.int ((2 * (ry y m * (lowF t / y.2.2)) % lowF t : Nat) : Int) := rfl
  rw [e, List.filterMap_eq_map]
  refine List.map_congr_left fun y hy => ?_
  rw [re_next h hy]
theorem reL_ints (m : Nat) : asInts (reL t m) = some (t.map fun y => ((ry y m * (lowF t / y.2.2) : Nat) : Int)) := by
  unfold reL
  rw [← asInts_map, List.map_map]
  rfl
theorem sum_cast (f : Te → Nat) : ∀ l : List Te, (l.map fun y => ((f y : Nat) : Int)).sum = (((l.map f).sum : Nat) : Int)
  | [] => rfl
  | y :: l => by simp only [List.map_cons, List.sum_cons, sum_cast f l, Int.natCast_add]
theorem reL_get {i m : Nat} (hi : i < t.length) : (reL t m)[i]? = some (.int ((ry t[i] m * (lowF t / t[i].2.2) : Nat) : Int)) := by
  unfold reL
  rw [List.getElem?_map, List.getElem?_eq_getElem hi]
  rfl
theorem tabL_get {i : Nat} (hi : i < t.length) : (tabL t)[i]? = some (teD t[i]) := by
  unfold tabL
  rw [List.getElem?_map, List.getElem?_eq_getElem hi]
  rfl
theorem sumL {a : Addr} {l : List D} {ns : List Int} {Q : KD} (h : S a = some (.lst l)) (hn : asInts l = some ns) : bltR .sum [.ref a] S Q = Q (.int ns.sum) S := by simp only [bltR, h, bllR, hn]
theorem levels_ok (hk : 2 < k) (h : Tab t W) (h1 : spA t + spL t ≤ 64 → ∀ fp fl S', S.le S' → S' fp = some (.lst fl) → Fd S' fp t W (spA t + spL t) fl → Q (.tup [.int (spA t : Nat), .ref fp]) S') (h2 : 64 < spA t + spL t → X ⟨"NotFit", [("word", .str "tree")]⟩ S) : Γ k "levels" [.tup (tabL t)] S Q X := by
  cases k with
  | zero => omega
  | succ k =>
  refine gam (np := 1) (nn := 12) (b := b_levels) rfl rfl ?_
  simp only [b_levels, wSs, wS, wT, wE, wEs, wO, wC, wI, wG, wGs, startD, List.map_cons, List.map_nil, List.length_cons, List.length_nil, List.replicate, List.cons_append, List.nil_append, List.append_nil, List.set_cons_zero, List.set_cons_succ, List.getElem?_cons_zero, List.getElem?_cons_succ, itT, wipeD, opAddI, opSubI, opMulI, opDivI, opModI, opPowI, opAddT, cmEq, cmNe, cmLt, cmLe, cmGt, cmGe, cmIn, eqI, eqS, inS2, truB, ixT0, ixT1, ixT2, ixT3, ixT4, ixT6, slcT, lenT, absI, intI, tupleT, listT, listRl, decide_true, decide_false, if_true, if_false, Bool.false_eq_true, reduceIte, decide_eq_true_eq, Bool.not_true, Bool.not_false, line, mI_int, mI_bool, mI_str, mI_tuple, mI_list, mB_int, mB_bool, mB_str, mB_tuple, mB_list, mS_int, mS_bool, mS_str, mS_tuple, mS_list, mT_int, mT_bool, mT_str, mT_tuple, mT_list, mN_int, mN_bool, mN_str, mN_tuple, mN_list, anyT, anyF, Nat.zero_add, Nat.reduceAdd, Nat.reduceLeDiff, true_and]
  have hl := h.len
  refine span_ok (by omega) h (fun hAL => ?_) fun hAL => ⟨S, Sto.le_refl, h2 hAL⟩
  have h1 := h1 hAL
  generalize spA t = A at h1 hAL ⊢
  generalize spL t = L at h1 hAL ⊢
  simp only [wSs, wS, wT, wE, wEs, wO, wC, wI, wG, wGs, startD, List.map_cons, List.map_nil, List.length_cons, List.length_nil, List.replicate, List.cons_append, List.nil_append, List.append_nil, List.set_cons_zero, List.set_cons_succ, List.getElem?_cons_zero, List.getElem?_cons_succ, itT, wipeD, opAddI, opSubI, opMulI, opDivI, opModI, opPowI, opAddT, cmEq, cmNe, cmLt, cmLe, cmGt, cmGe, cmIn, eqI, eqS, inS2, truB, ixT0, ixT1, ixT2, ixT3, ixT4, ixT6, slcT, lenT, absI, intI, tupleT, listT, listRl, decide_true, decide_false, if_true, if_false, Bool.false_eq_true, reduceIte, decide_eq_true_eq, Bool.not_true, Bool.not_false, line, mI_int, mI_bool, mI_str, mI_tuple, mI_list, mB_int, mB_bool, mB_str, mB_tuple, mB_list, mS_int, mS_bool, mS_str, mS_tuple, mS_list, mT_int, mT_bool, mT_str, mT_tuple, mT_list, mN_int, mN_bool, mN_str, mN_tuple, mN_list, anyT, anyF, Nat.zero_add, Nat.reduceAdd, Nat.reduceLeDiff, true_and]
  refine forL_inv (tabL t) (fun i σ S2 => ∃ x7 x8, σ = [some (.tup (tabL t)), some (.int (lowF (t.take i) : Nat)), none, none, none, some (.int (A : Nat)), some (.int (L : Nat)), x7, x8, none, none, none] ∧ S2 = S) (fun _ _ _ _ => trivial) ?_ ?_ ⟨_, _, rfl, rfl⟩
  · rintro i dd σ S2 NX hd' ⟨x7, x8, rfl, rfl⟩ hN
    obtain ⟨hi, rfl⟩ := tab_get hd'
    have hw := low_w h i
    have hw2 := Nat.le_of_dvd h.w0 hw.2
    have hw3 := h.w1
    have hd := h.d_lt (List.getElem_mem hi)
    rw [low_take i hi] at hN
    simp only [s_levels_1, teD, fr, wSs, wS, wT, wE, wEs, wO, wC, wI, wG, wGs, startD, List.map_cons, List.map_nil, List.length_cons, List.length_nil, List.replicate, List.cons_append, List.nil_append, List.append_nil, List.set_cons_zero, List.set_cons_succ, List.getElem?_cons_zero, List.getElem?_cons_succ, itT, wipeD, opAddI, opSubI, opMulI, opDivI, opModI, opPowI, opAddT, cmEq, cmNe, cmLt, cmLe, cmGt, cmGe, cmIn, eqI, eqS, inS2, truB, ixT0, ixT1, ixT2, ixT3, ixT4, ixT6, slcT, lenT, absI, intI, tupleT, listT, listRl, decide_true, decide_false, if_true, if_false, Bool.false_eq_true, reduceIte, decide_eq_true_eq, Bool.not_true, Bool.not_false, line, mI_int, mI_bool, mI_str, mI_tuple, mI_list, mB_int, mB_bool, mB_str, mB_tuple, mB_list, mS_int, mS_bool, mS_str, mS_tuple, mS_list, mT_int, mT_bool, mT_str, mT_tuple, mT_list, mN_int, mN_bool, mN_str, mN_tuple, mN_list, anyT, anyF, Nat.zero_add, Nat.reduceAdd, Nat.reduceLeDiff, true_and, lcmI, Int.natAbs_natCast]
    exact ⟨by omega, by omega, hN _ _ ⟨_, _, rfl, rfl⟩⟩
  · rintro σ S2 ⟨x7, x8, rfl, rfl⟩
    have el : (tabL t).length = t.length := by unfold tabL; rw [List.length_map]
    rw [el, List.take_length]
    obtain ⟨lw1, lw2, lw3, lw4⟩ := low_all h
    have sw : Sz 10 (lowF t : Int) := szn (by omega)
    simp only [wSs, wS, wT, wE, wEs, wO, wC, wI, wG, wGs, startD, List.map_cons, List.map_nil, List.length_cons, List.length_nil, List.replicate, List.cons_append, List.nil_append, List.append_nil, List.set_cons_zero, List.set_cons_succ, List.getElem?_cons_zero, List.getElem?_cons_succ, itT, wipeD, opAddI, opSubI, opMulI, opDivI, opModI, opPowI, opAddT, cmEq, cmNe, cmLt, cmLe, cmGt, cmGe, cmIn, eqI, eqS, inS2, truB, ixT0, ixT1, ixT2, ixT3, ixT4, ixT6, slcT, lenT, absI, intI, tupleT, listT, listRl, decide_true, decide_false, if_true, if_false, Bool.false_eq_true, reduceIte, decide_eq_true_eq, Bool.not_true, Bool.not_false, line, mI_int, mI_bool, mI_str, mI_tuple, mI_list, mB_int, mB_bool, mB_str, mB_tuple, mB_list, mS_int, mS_bool, mS_str, mS_tuple, mS_list, mT_int, mT_bool, mT_str, mT_tuple, mT_list, mN_int, mN_bool, mN_str, mN_tuple, mN_list, anyT, anyF, Nat.zero_add, Nat.reduceAdd, Nat.reduceLeDiff, true_and]
    refine ⟨by rw [el]; omega, cmpL_pure (gRe (lowF t)) trivial ?_ ?_⟩
    · intro dd hd PP hPP
      obtain ⟨y, hy, rfl⟩ := List.mem_map.mp hd
      have hdl := h.d_lt hy
      have hyl := (h.el y hy).1
      have hdp := h.dpos hy
      have sd : Sz 10 (y.2.2 : Int) := szn (by omega)
      have sn : Sz 10 (y.2.1 : Int) := szn (by omega)
      simp only [e_levels_2, teD, fr, wSs, wS, wT, wE, wEs, wO, wC, wI, wG, wGs, startD, List.map_cons, List.map_nil, List.length_cons, List.length_nil, List.replicate, List.cons_append, List.nil_append, List.append_nil, List.set_cons_zero, List.set_cons_succ, List.getElem?_cons_zero, List.getElem?_cons_succ, itT, wipeD, opAddI, opSubI, opMulI, opDivI, opModI, opPowI, opAddT, cmEq, cmNe, cmLt, cmLe, cmGt, cmGe, cmIn, eqI, eqS, inS2, truB, ixT0, ixT1, ixT2, ixT3, ixT4, ixT6, slcT, lenT, absI, intI, tupleT, listT, listRl, decide_true, decide_false, if_true, if_false, Bool.false_eq_true, reduceIte, decide_eq_true_eq, Bool.not_true, Bool.not_false, line, mI_int, mI_bool, mI_str, mI_tuple, mI_list, mB_int, mB_bool, mB_str, mB_tuple, mB_list, mS_int, mS_bool, mS_str, mS_tuple, mS_list, mT_int, mT_bool, mT_str, mT_tuple, mT_list, mN_int, mN_bool, mN_str, mN_tuple, mN_list, anyT, anyF, Nat.zero_add, Nat.reduceAdd, Nat.reduceLeDiff, true_and]
      have sq : Sz 10 ((lowF t : Int) / (y.2.2 : Int)) := by
        refine szn (i := lowF t / y.2.2) ?_
        have := Nat.div_le_self (lowF t) y.2.2
        omega
      exact ⟨sd.cd (by omega), sn.cm sq, hPP⟩
    · have e0 : (t.map fun y => D.int ((y.2.1 * (lowF t / y.2.2) : Nat) : Int)) = reL t 0 := by
        unfold reL
        refine List.map_congr_left fun y hy => ?_
        unfold ry
        rw [rs_zero (h.el y hy).1]
      rw [gRe_tab, e0]
      intro r hr
      intro fp hfp
      have hrf : r ≠ fp := Sto.ne_of Sto.upd_same hfp
      refine ⟨by unfold inB; omega, ?_⟩
      have eA : ((A : Int) + (L : Int)).toNat = A + L := by omega
      rw [eA]
      refine forL_inv (rngD 0 (A + L)) (fun i σ S3 => ∃ x4 x7 x8 x9 x10 x11 r fl, σ = [some (.tup (tabL t)), some (.int (lowF t : Nat)), some (.ref r), some (.ref fp), x4, some (.int (A : Nat)), some (.int (L : Nat)), x7, x8, x9, x10, x11] ∧ S2.le S3 ∧ r ≠ fp ∧ S3 r = some (.lst (reL t i)) ∧ S3 fp = some (.lst fl) ∧ Fd S3 fp t W i fl) (fun _ _ _ _ => trivial) ?_ ?_
        ⟨_, _, _, _, _, _, r, [], rfl, Sto.le_new' (Sto.le_new hr) hfp, hrf, by rw [Sto.upd_ne hrf, Sto.upd_same], Sto.upd_same, rfl, fun i hi => absurd hi (by omega)⟩
      · rintro i dd σ S3 NX hd' ⟨x4, x7, x8, x9, x10, x11, r, fl, rfl, g1, g2, g3, g4, g5⟩ hN
        have hi : i < A + L := by
          have := (List.getElem?_eq_some_iff.mp hd').1
          simpa [rngD] using this
        simp only [s_levels_5, wSs, wS, wT, wE, wEs, wO, wC, wI, wG, wGs, startD, List.map_cons, List.map_nil, List.length_cons, List.length_nil, List.replicate, List.cons_append, List.nil_append, List.append_nil, List.set_cons_zero, List.set_cons_succ, List.getElem?_cons_zero, List.getElem?_cons_succ, itT, wipeD, opAddI, opSubI, opMulI, opDivI, opModI, opPowI, opAddT, cmEq, cmNe, cmLt, cmLe, cmGt, cmGe, cmIn, eqI, eqS, inS2, truB, ixT0, ixT1, ixT2, ixT3, ixT4, ixT6, slcT, lenT, absI, intI, tupleT, listT, listRl, decide_true, decide_false, if_true, if_false, Bool.false_eq_true, reduceIte, decide_eq_true_eq, Bool.not_true, Bool.not_false, line, mI_int, mI_bool, mI_str, mI_tuple, mI_list, mB_int, mB_bool, mB_str, mB_tuple, mB_list, mS_int, mS_bool, mS_str, mS_tuple, mS_list, mT_int, mT_bool, mT_str, mT_tuple, mT_list, mN_int, mN_bool, mN_str, mN_tuple, mN_list, anyT, anyF, Nat.zero_add, Nat.reduceAdd, Nat.reduceLeDiff, true_and, el, Int.toNat_natCast]
        have s2 : Sz 2 2 := by unfold Sz; decide
        have sre : ∀ y ∈ t, Sz 10 ((ry y i * (lowF t / y.2.2) : Nat) : Int) := fun y hy => by
          obtain ⟨c, hc⟩ := lw4 y hy
          have hp := h.dpos hy
          refine szn ?_
          have h3 := rs_lt (n := y.2.1) (i := i) hp
          have : ry y i * (lowF t / y.2.2) ≤ y.2.2 * (lowF t / y.2.2) := Nat.mul_le_mul_right _ (Nat.le_of_lt h3)
          rw [Nat.mul_div_cancel' ⟨c, hc⟩] at this
          omega
        refine ⟨by unfold inB; omega, by simp [rngD]; omega, cmpL_pure (gTo t i) trivial ?_ ?_⟩
        · intro dd' hd2 PP hPP
          unfold rngD at hd2
          obtain ⟨j, hj, rfl⟩ := List.mem_map.mp hd2
          have hj : j < t.length := by simpa using hj
          have hy := List.getElem_mem hj
          have eg : gTo t i (.int (0 + (j : Int))) = tel i t[j] := by
            show (t[(0 + (j : Int)).toNat]?).bind (tel i) = _
            rw [Int.zero_add, Int.toNat_natCast, List.getElem?_eq_getElem hj]
            rfl
          rw [eg] at hPP
          unfold tel at hPP
          simp only [Int.zero_add, wSs, wS, wT, wE, wEs, wO, wC, wI, wG, wGs, startD, List.map_cons, List.map_nil, List.length_cons, List.length_nil, List.replicate, List.cons_append, List.nil_append, List.append_nil, List.set_cons_zero, List.set_cons_succ, List.getElem?_cons_zero, List.getElem?_cons_succ, itT, wipeD, opAddI, opSubI, opMulI, opDivI, opModI, opPowI, opAddT, cmEq, cmNe, cmLt, cmLe, cmGt, cmGe, cmIn, eqI, eqS, inS2, truB, ixT0, ixT1, ixT2, ixT3, ixT4, ixT6, slcT, lenT, absI, intI, tupleT, listT, listRl, decide_true, decide_false, if_true, if_false, Bool.false_eq_true, reduceIte, decide_eq_true_eq, Bool.not_true, Bool.not_false, line, mI_int, mI_bool, mI_str, mI_tuple, mI_list, mB_int, mB_bool, mB_str, mB_tuple, mB_list, mS_int, mS_bool, mS_str, mS_tuple, mS_list, mT_int, mT_bool, mT_str, mT_tuple, mT_list, mN_int, mN_bool, mN_str, mN_tuple, mN_list, anyT, anyF, Nat.zero_add, Nat.reduceAdd, Nat.reduceLeDiff, true_and]
          rw [ixL g3 (atIk j rfl (reL_get hj))]
          simp only [opAddI, opSubI, opMulI, opDivI, opModI, opPowI, opAddT, cmEq, cmNe, cmLt, cmLe, cmGt, cmGe, cmIn, eqI, eqS, inS2, truB, ixT0, ixT1, ixT2, ixT3, ixT4, ixT6, slcT, lenT, absI, intI, tupleT, listT, listRl, decide_true, decide_false, if_true, if_false, Bool.false_eq_true, reduceIte, decide_eq_true_eq, Bool.not_true, Bool.not_false, line, mI_int, mI_bool, mI_str, mI_tuple, mI_list, mB_int, mB_bool, mB_str, mB_tuple, mB_list, mS_int, mS_bool, mS_str, mS_tuple, mS_list, mT_int, mT_bool, mT_str, mT_tuple, mT_list, mN_int, mN_bool, mN_str, mN_tuple, mN_list, anyT, anyF, Nat.zero_add, Nat.reduceAdd, Nat.reduceLeDiff, true_and, e_levels_3, wSs, wS, wT, wE, wEs, wO, wC, wI, wG, wGs, startD, List.map_cons, List.map_nil, List.length_cons, List.length_nil, List.replicate, List.cons_append, List.nil_append, List.append_nil, List.set_cons_zero, List.set_cons_succ, List.getElem?_cons_zero, List.getElem?_cons_succ, itT, wipeD]
          refine ⟨s2.cm (sre _ hy), ?_⟩
          by_cases hc : t[j].2.2 ≤ 2 * ry t[j] i
          · rw [if_pos hc] at hPP
            have hc2 := (re_ge (k := i) h hy).mpr hc
            rw [if_pos (by omega), ixT (atIk j rfl (tabL_get hj))]
            simp only [teD, opAddI, opSubI, opMulI, opDivI, opModI, opPowI, opAddT, cmEq, cmNe, cmLt, cmLe, cmGt, cmGe, cmIn, eqI, eqS, inS2, truB, ixT0, ixT1, ixT2, ixT3, ixT4, ixT6, slcT, lenT, absI, intI, tupleT, listT, listRl, decide_true, decide_false, if_true, if_false, Bool.false_eq_true, reduceIte, decide_eq_true_eq, Bool.not_true, Bool.not_false, line, mI_int, mI_bool, mI_str, mI_tuple, mI_list, mB_int, mB_bool, mB_str, mB_tuple, mB_list, mS_int, mS_bool, mS_str, mS_tuple, mS_list, mT_int, mT_bool, mT_str, mT_tuple, mT_list, mN_int, mN_bool, mN_str, mN_tuple, mN_list, anyT, anyF, Nat.zero_add, Nat.reduceAdd, Nat.reduceLeDiff, true_and]
            exact hPP
          · rw [if_neg hc] at hPP
            have hc2 : ¬ lowF t ≤ 2 * (ry t[j] i * (lowF t / t[j].2.2)) := fun z => hc ((re_ge (k := i) h hy).mp z)
            rw [if_neg (by omega)]
            exact hPP
        · rw [gTo_tab]
          intro q hq
          have hqf : q ≠ fp := (Sto.ne_of g4 hq).symm
          have hqr : q ≠ r := (Sto.ne_of g3 hq).symm
          have k1 : (S3.upd q (.lst (toL t i))) fp = some (.lst fl) := by rw [Sto.upd_ne (Ne.symm hqf)]; exact g4
          have k2 : (S3.upd q (.lst (toL t i))) r = some (.lst (reL t i)) := by rw [Sto.upd_ne (Ne.symm hqr)]; exact g3
          have k3 : (S3.upd q (.lst (toL t i))) q = some (.lst (toL t i)) := Sto.upd_same
          have k4 : S3.le (S3.upd q (.lst (toL t i))) := Sto.le_new hq
          generalize S3.upd q (.lst (toL t i)) = S4 at k1 k2 k3 k4 ⊢
          rw [mtyA k1]
          refine ⟨rfl, ?_⟩
          rw [sumL k2 (reL_ints i), sum_cast (fun y => ry y i * (lowF t / y.2.2))]
          rw [opDivI]
          have em : ((((t.map fun y => ry y i * (lowF t / y.2.2)).sum : Nat) : Int) / ((lowF t : Nat) : Int)) = ((mk t W i : Nat) : Int) := by rw [← sum_low h]; rfl
          rw [em]
          refine ⟨sw.cd (by omega), ?_⟩
          rw [appL k1]
          refine ⟨by have := g5.1; have := Mi.line; omega, ?_⟩
          have hF := (g5.push (S2 := S4) hqf (fun b c _ hb => k4 b c hb) k3)
          have m1 : (S4.upd fp (.lst (fl ++ [.tup [.int (mk t W i : Nat), .ref q]]))) fp = some (.lst (fl ++ [.tup [.int (mk t W i : Nat), .ref q]])) := Sto.upd_same
          have m2 : (S4.upd fp (.lst (fl ++ [.tup [.int (mk t W i : Nat), .ref q]]))) r = some (.lst (reL t i)) := by rw [Sto.upd_ne g2]; exact k2
          have hF2 := hF.mono (S2 := S4.upd fp (.lst (fl ++ [.tup [.int (mk t W i : Nat), .ref q]]))) (fun b c hb e => by rw [Sto.upd_ne hb]; exact e)
          have m3 : S2.le (S4.upd fp (.lst (fl ++ [.tup [.int (mk t W i : Nat), .ref q]]))) := fun b c hb => by
            have hbf : b ≠ fp := Sto.ne_of (Sto.le_new (c := .lst (reL t 0)) hr b c hb) hfp
            rw [Sto.upd_ne hbf]
            exact k4 b c (g1 b c hb)
          generalize S4.upd fp (.lst (fl ++ [.tup [.int (mk t W i : Nat), .ref q]])) = S5 at m1 m2 m3 hF2 ⊢
          rw [itL m2]
          have hlr : (reL t i).length = t.length := by unfold reL; rw [List.length_map]
          refine ⟨by rw [hlr]; omega, cmpL_pure (gNx (lowF t)) m2 ?_ ?_⟩
          · intro dd' hd2 PP hPP
            obtain ⟨y, hy, rfl⟩ := List.mem_map.mp hd2
            simp only [e_levels_4, wSs, wS, wT, wE, wEs, wO, wC, wI, wG, wGs, startD, List.map_cons, List.map_nil, List.length_cons, List.length_nil, List.replicate, List.cons_append, List.nil_append, List.append_nil, List.set_cons_zero, List.set_cons_succ, List.getElem?_cons_zero, List.getElem?_cons_succ, itT, wipeD, opAddI, opSubI, opMulI, opDivI, opModI, opPowI, opAddT, cmEq, cmNe, cmLt, cmLe, cmGt, cmGe, cmIn, eqI, eqS, inS2, truB, ixT0, ixT1, ixT2, ixT3, ixT4, ixT6, slcT, lenT, absI, intI, tupleT, listT, listRl, decide_true, decide_false, if_true, if_false, Bool.false_eq_true, reduceIte, decide_eq_true_eq, Bool.not_true, Bool.not_false, line, mI_int, mI_bool, mI_str, mI_tuple, mI_list, mB_int, mB_bool, mB_str, mB_tuple, mB_list, mS_int, mS_bool, mS_str, mS_tuple, mS_list, mT_int, mT_bool, mT_str, mT_tuple, mT_list, mN_int, mN_bool, mN_str, mN_tuple, mN_list, anyT, anyF, Nat.zero_add, Nat.reduceAdd, Nat.reduceLeDiff, true_and]
            exact ⟨s2.cm (sre _ hy), by omega, hPP⟩
          · rw [gNx_tab h]
            intro r2 hr2
            have hr2f : r2 ≠ fp := (Sto.ne_of m1 hr2).symm
            refine hN _ _ ⟨_, _, _, _, _, _, r2, _, rfl, Sto.le_new' m3 hr2, hr2f, Sto.upd_same, by rw [Sto.upd_ne (Ne.symm hr2f)]; exact m1, hF2.mono fun b c hb e => ?_⟩
            rw [Sto.upd_ne (Sto.ne_of e hr2)]
            exact e
      · rintro σ S3 ⟨x4, x7, x8, x9, x10, x11, r, fl, rfl, g1, g2, g3, g4, g5⟩
        have hlen : (rngD 0 (A + L)).length = A + L := by simp [rngD]
        rw [hlen] at g5
        simp only [wSs, wS, wT, wE, wEs, wO, wC, wI, wG, wGs, startD, List.map_cons, List.map_nil, List.length_cons, List.length_nil, List.replicate, List.cons_append, List.nil_append, List.append_nil, List.set_cons_zero, List.set_cons_succ, List.getElem?_cons_zero, List.getElem?_cons_succ, itT, wipeD, opAddI, opSubI, opMulI, opDivI, opModI, opPowI, opAddT, cmEq, cmNe, cmLt, cmLe, cmGt, cmGe, cmIn, eqI, eqS, inS2, truB, ixT0, ixT1, ixT2, ixT3, ixT4, ixT6, slcT, lenT, absI, intI, tupleT, listT, listRl, decide_true, decide_false, if_true, if_false, Bool.false_eq_true, reduceIte, decide_eq_true_eq, Bool.not_true, Bool.not_false, line, mI_int, mI_bool, mI_str, mI_tuple, mI_list, mB_int, mB_bool, mB_str, mB_tuple, mB_list, mS_int, mS_bool, mS_str, mS_tuple, mS_list, mT_int, mT_bool, mT_str, mT_tuple, mT_list, mN_int, mN_bool, mN_str, mN_tuple, mN_list, anyT, anyF, Nat.zero_add, Nat.reduceAdd, Nat.reduceLeDiff, true_and]
        exact ⟨S3, Sto.le_refl, h1 fp fl S3 g1 g4 g5⟩
end K50
namespace K50
open PySem PySem.Spec PyProof.Rows L2 Mi
variable {k : Nat} {S : Sto} {Q : KD} {X : KX} {n d s o i j T p : Nat} {t : List Te} {W : Nat}
def rho (y : Te) (k : Nat) : Rat := mkRat (ry y k : Nat) y.2.2
theorem rq_fr (h : Nat.gcd n d = 1) (hd : d ≠ 0) : rq (mkRat (n : Nat) d) = fr n d := by
  rw [← nrm_mk hd]
  unfold nrm
  have e : Int.gcd (n : Int) (d : Int) = 1 := h
  rw [e]
  simp [fr]
theorem rho_zero (h : Tab t W) {y : Te} (hy : y ∈ t) : rq (rho y 0) = fr y.2.1 y.2.2 := by
  obtain ⟨h1, h2, _⟩ := h.el y hy
  unfold rho ry
  rw [rs_zero h1]
  exact rq_fr h2 (by omega)
theorem rho_two (h : Tab t W) {y : Te} (hy : y ∈ t) : rho y k * 2 = mkRat ((2 * ry y k : Nat) : Int) y.2.2 := by
  have e2 : (2 : Rat) = mkRat 2 1 := by decide +kernel
  unfold rho
  rw [e2, Rat.mkRat_mul_mkRat]
  congr 1
  · rw [Int.natCast_mul, Int.mul_comm]; rfl
  · omega
theorem rho_ge (h : Tab t W) {y : Te} (hy : y ∈ t) : ((rho y k * 2).den : Int) ≤ (rho y k * 2).num ↔ y.2.2 ≤ 2 * ry y k := by
  have hp := h.dpos hy
  rw [rho_two h hy]
  generalize hq : mkRat ((2 * ry y k : Nat) : Int) y.2.2 = q
  obtain ⟨n', d', z', c⟩ := q
  obtain ⟨m, hm, e1, e2⟩ := Rat.mkRat_num_den (by omega) hq
  show (d' : Int) ≤ n' ↔ _
  have hm' : (0 : Int) < (m : Int) := by omega
  constructor
  · intro q
    have : (d' : Int) * m ≤ n' * m := Int.mul_le_mul_of_nonneg_right q (by omega)
    rw [← e1] at this
    have e3 : ((y.2.2 : Nat) : Int) = (d' : Int) * m := by rw [e2, Int.natCast_mul]
    omega
  · intro q
    have e3 : ((y.2.2 : Nat) : Int) = (d' : Int) * m := by rw [e2, Int.natCast_mul]
    have : (d' : Int) * m ≤ n' * m := by rw [← e1, ← e3]; omega
    exact Int.le_of_mul_le_mul_right this hm'
theorem rho_next (h : Tab t W) {y : Te} (hy : y ∈ t) : rho y (k + 1) = if y.2.2 ≤ 2 * ry y k then rho y k * 2 + -1 else rho y k * 2 := by
  have hp := h.dpos hy
  have h1 := rs_lt (n := y.2.1) (i := k) hp
  rw [rho_two h hy]
  unfold rho
  have e : ry y (k + 1) = 2 * ry y k % y.2.2 := rs_succ
  by_cases hc : y.2.2 ≤ 2 * ry y k
  · rw [if_pos hc, e]
    have em : 2 * ry y k % y.2.2 = 2 * ry y k - y.2.2 := by
      rw [Nat.mod_eq_sub_mod hc, Nat.mod_eq_of_lt]
      have : ry y k < y.2.2 := h1
      omega
    have e1 : (-1 : Rat) = mkRat (-1) 1 := by decide +kernel
    rw [em, e1, Rat.mkRat_add_mkRat _ _ (by omega) (by decide)]
    congr 1
    · omega
    · omega
  · rw [if_neg hc, e, Nat.mod_eq_of_lt (by omega)]
def wsum (t : List Te) (k : Nat) : Rat := (t.map fun y => rho y k).sum
theorem wsum_eq (hw : W ≠ 0) (k : Nat) : ∀ l : List Te, (∀ y ∈ l, y.2.2 ∣ W ∧ 0 < y.2.2) → wsum l k = mkRat ((l.map fun y => ry y k * (W / y.2.2)).sum : Nat) W
  | [], _ => by unfold wsum; simp
  | y :: l, h => by
    have ih := wsum_eq hw k l fun x hx => h x (List.mem_cons_of_mem _ hx)
    obtain ⟨⟨c, hc⟩, h2⟩ := h y List.mem_cons_self
    unfold wsum at ih ⊢
    rw [List.map_cons, List.sum_cons, ih, List.map_cons, List.sum_cons]
    have c0 : c ≠ 0 := fun z => by rw [z, Nat.mul_zero] at hc; exact hw hc
    have e : W / y.2.2 = c := by rw [hc, Nat.mul_div_cancel_left _ h2]
    have e2 : rho y k = mkRat ((ry y k * c : Nat) : Int) W := by
      unfold rho
      rw [hc, Int.natCast_mul]
      exact (Rat.mkRat_mul_right c0).symm
    rw [e2, e, Rat.mkRat_add_mkRat _ _ hw hw, ← Int.add_mul, Int.natCast_add]
    have := Rat.mkRat_mul_right (n := ((ry y k * c : Nat) : Int) + (((l.map fun y => ry y k * (W / y.2.2)).sum : Nat) : Int)) (d := W) hw
    rw [this]
theorem Tab.dw (h : Tab t W) : ∀ y ∈ t, y.2.2 ∣ W ∧ 0 < y.2.2 := fun y hy => ⟨(h.el y hy).2.2, h.dpos hy⟩
theorem wsum_mk (h : Tab t W) (k : Nat) : wsum t k = (mk t W k : Nat) := by
  have h0 : W ≠ 0 := by have := h.w0; omega
  rw [wsum_eq h0 k t h.dw]
  have e := Rk_mk h k
  unfold Rk at e
  rw [e, Int.natCast_mul, Int.mul_comm]
  have := Rat.mkRat_mul_right (n := ((mk t W k : Nat) : Int)) (d := 1) h0
  rw [Nat.one_mul] at this
  rw [this, Rat.mkRat_eq_div]
  have e1 : ((1 : Nat) : Rat) = 1 := rfl
  rw [e1]
  have : ∀ q : Rat, q / 1 = q := fun q => by grind
  rw [this]
  rfl
theorem wsum_zq (h : Tab t W) (k m : Nat) : Zq 12 (wsum (t.take m) k) := by
  have h0 : W ≠ 0 := by have := h.w0; omega
  have hw := h.w1
  rw [wsum_eq h0 k (t.take m) fun y hy => h.dw y (List.mem_of_mem_take hy)]
  refine Zq.of ?_ (by omega) h0
  have h1 := sum_lt (fun y => ry y k * (W / y.2.2)) W (t.take m) fun y hy => ry_le h (List.mem_of_mem_take hy)
  have h2 : (t.take m).length * W ≤ 4 * W := Nat.mul_le_mul_right _ (by rw [List.length_take]; have := h.len; omega)
  rw [Int.natAbs_natCast]
  omega
theorem rho_zq (h : Tab t W) {y : Te} (hy : y ∈ t) : Zq 12 (rho y k) := by
  have hp := h.dpos hy
  have hd := h.d_lt hy
  have h1 := rs_lt (n := y.2.1) (i := k) hp
  refine Zq.of ?_ (by omega) (by omega)
  rw [Int.natAbs_natCast]
  have : ry y k < y.2.2 := h1
  omega
theorem rho2_zq (h : Tab t W) {y : Te} (hy : y ∈ t) : Zq 12 (rho y k * 2) := by
  have hp := h.dpos hy
  have hd := h.d_lt hy
  have h1 := rs_lt (n := y.2.1) (i := k) hp
  rw [rho_two h hy]
  refine Zq.of ?_ (by omega) (by omega)
  rw [Int.natAbs_natCast]
  have : ry y k < y.2.2 := h1
  omega
theorem wsum_take (k : Nat) (hi : i < t.length) : wsum (t.take (i + 1)) k = wsum (t.take i) k + rho t[i] k := by
  unfold wsum
  rw [List.take_succ_eq_append_getElem hi, List.map_append, List.sum_append]
  simp [Rat.add_zero]
end K50
namespace K50
open PySem PySem.Spec PyProof.Rows L2 Mi
variable {k : Nat} {S : Sto} {Q : KD} {X : KX} {n d s o i j T p : Nat} {t : List Te} {W : Nat}
def rhoL (t : List Te) (k : Nat) : List D := t.map fun y => rq (rho y k)
def gFr : D → Option D
  | .tup [.int _, .tup [.int n, .int d]] => some (.tup [.int n, .int d])
  | _ => none
theorem gFr_tab (h : Tab t W) : (tabL t).filterMap gFr = rhoL t 0 := by
  unfold tabL rhoL
  rw [List.filterMap_map]
  have e : gFr ∘ teD = some ∘ fun y => fr y.2.1 y.2.2 := rfl
  rw [e, List.filterMap_eq_map]
  exact List.map_congr_left fun y hy => (rho_zero h hy).symm
theorem rhoL_get {m : Nat} (hi : i < t.length) : (rhoL t m)[i]? = some (rq (rho t[i] m)) := by
  unfold rhoL
  rw [List.getElem?_map, List.getElem?_eq_getElem hi]
  rfl
theorem toL_take (m : Nat) (hi : i < t.length) : toL (t.take (i + 1)) m = toL (t.take i) m ++ (tel m t[i]).toList := by
  unfold toL
  rw [List.take_succ_eq_append_getElem hi, List.filterMap_append]
  congr 1
theorem toL_len (m : Nat) : (toL t m).length ≤ t.length := List.length_filterMap_le _ _
theorem rq2 : rq 2 = .tup [.int 2, .int 1] := by decide +kernel
theorem rqm1 : rq (-1) = .tup [.int (-1), .int 1] := by decide +kernel
theorem rq0 : rq 0 = .tup [.int 0, .int 1] := by decide +kernel
theorem zq2 : Zq 12 2 := ⟨by unfold Sz; decide +kernel, by unfold Sz; decide +kernel⟩
theorem zqm1 : Zq 12 (-1) := ⟨by unfold Sz; decide +kernel, by unfold Sz; decide +kernel⟩
theorem llevels_ok {A L : Nat} (hk : 4 < k) (h : Tab t W) (hAL : A + L ≤ 64) (hQ : ∀ fp fl S', S.le S' → S' fp = some (.lst fl) → Fd S' fp t W (A + L) fl → Q (.ref fp) S') : Γ k "_law_levels" [.tup (tabL t), .int (A : Nat), .int (L : Nat)] S Q X := by
  cases k with
  | zero => omega
  | succ k =>
  refine gam (np := 3) (nn := 13) (b := b__law_levels) rfl rfl ?_
  simp only [b__law_levels, wSs, wS, wT, wE, wEs, wO, wC, wI, wG, wGs, startD, List.map_cons, List.map_nil, List.length_cons, List.length_nil, List.replicate, List.cons_append, List.nil_append, List.append_nil, List.set_cons_zero, List.set_cons_succ, List.getElem?_cons_zero, List.getElem?_cons_succ, itT, wipeD, opAddI, opSubI, opMulI, opDivI, opModI, opPowI, opAddT, cmEq, cmNe, cmLt, cmLe, cmGt, cmGe, cmIn, eqI, eqS, inS2, truB, ixT0, ixT1, ixT2, ixT3, ixT4, ixT6, slcT, lenT, absI, intI, tupleT, listT, listRl, decide_true, decide_false, if_true, if_false, Bool.false_eq_true, reduceIte, decide_eq_true_eq, Bool.not_true, Bool.not_false, line, mI_int, mI_bool, mI_str, mI_tuple, mI_list, mB_int, mB_bool, mB_str, mB_tuple, mB_list, mS_int, mS_bool, mS_str, mS_tuple, mS_list, mT_int, mT_bool, mT_str, mT_tuple, mT_list, mN_int, mN_bool, mN_str, mN_tuple, mN_list, anyT, anyF, Nat.zero_add, Nat.reduceAdd, Nat.reduceLeDiff, true_and]
  have hl := h.len
  have el : (tabL t).length = t.length := by unfold tabL; rw [List.length_map]
  intro fp hfp
  refine ⟨by rw [el]; omega, cmpL_pure gFr trivial ?_ ?_⟩
  · intro dd hd PP hPP
    obtain ⟨y, hy, rfl⟩ := List.mem_map.mp hd
    simp only [e__law_levels_1, teD, fr, wSs, wS, wT, wE, wEs, wO, wC, wI, wG, wGs, startD, List.map_cons, List.map_nil, List.length_cons, List.length_nil, List.replicate, List.cons_append, List.nil_append, List.append_nil, List.set_cons_zero, List.set_cons_succ, List.getElem?_cons_zero, List.getElem?_cons_succ, itT, wipeD, opAddI, opSubI, opMulI, opDivI, opModI, opPowI, opAddT, cmEq, cmNe, cmLt, cmLe, cmGt, cmGe, cmIn, eqI, eqS, inS2, truB, ixT0, ixT1, ixT2, ixT3, ixT4, ixT6, slcT, lenT, absI, intI, tupleT, listT, listRl, decide_true, decide_false, if_true, if_false, Bool.false_eq_true, reduceIte, decide_eq_true_eq, Bool.not_true, Bool.not_false, line, mI_int, mI_bool, mI_str, mI_tuple, mI_list, mB_int, mB_bool, mB_str, mB_tuple, mB_list, mS_int, mS_bool, mS_str, mS_tuple, mS_list, mT_int, mT_bool, mT_str, mT_tuple, mT_list, mN_int, mN_bool, mN_str, mN_tuple, mN_list, anyT, anyF, Nat.zero_add, Nat.reduceAdd, Nat.reduceLeDiff, true_and]
    exact hPP
  rw [gFr_tab h]
  intro r hr
  have hrf : r ≠ fp := (Sto.ne_of Sto.upd_same hr).symm
  refine ⟨by unfold inB; omega, ?_⟩
  have eA : ((A : Int) + (L : Int)).toNat = A + L := by omega
  rw [eA]
  refine forL_inv (rngD 0 (A + L)) (fun i σ S3 => ∃ x5 x6 x7 x8 x9 x10 r fl, σ = [some (.tup (tabL t)), some (.int (A : Nat)), some (.int (L : Nat)), some (.ref fp), some (.ref r), x5, x6, x7, x8, x9, x10, none, none] ∧ S.le S3 ∧ r ≠ fp ∧ S3 r = some (.lst (rhoL t i)) ∧ S3 fp = some (.lst fl) ∧ Fd S3 fp t W i fl) (fun _ _ _ _ => trivial) ?_ ?_
    ⟨_, _, _, _, _, _, r, [], rfl, Sto.le_new' (Sto.le_new hfp) hr, hrf, Sto.upd_same, by rw [Sto.upd_ne (Ne.symm hrf), Sto.upd_same], rfl, fun i hi => absurd hi (by omega)⟩
  · rintro i dd σ S3 NX hd' ⟨x5, x6, x7, x8, x9, x10, r, fl, rfl, g1, g2, g3, g4, g5⟩ hN
    have hi : i < A + L := by
      have := (List.getElem?_eq_some_iff.mp hd').1
      simpa [rngD] using this
    simp only [s__law_levels_3, wSs, wS, wT, wE, wEs, wO, wC, wI, wG, wGs, startD, List.map_cons, List.map_nil, List.length_cons, List.length_nil, List.replicate, List.cons_append, List.nil_append, List.append_nil, List.set_cons_zero, List.set_cons_succ, List.getElem?_cons_zero, List.getElem?_cons_succ, itT, wipeD, opAddI, opSubI, opMulI, opDivI, opModI, opPowI, opAddT, cmEq, cmNe, cmLt, cmLe, cmGt, cmGe, cmIn, eqI, eqS, inS2, truB, ixT0, ixT1, ixT2, ixT3, ixT4, ixT6, slcT, lenT, absI, intI, tupleT, listT, listRl, decide_true, decide_false, if_true, if_false, Bool.false_eq_true, reduceIte, decide_eq_true_eq, Bool.not_true, Bool.not_false, line, mI_int, mI_bool, mI_str, mI_tuple, mI_list, mB_int, mB_bool, mB_str, mB_tuple, mB_list, mS_int, mS_bool, mS_str, mS_tuple, mS_list, mT_int, mT_bool, mT_str, mT_tuple, mT_list, mN_int, mN_bool, mN_str, mN_tuple, mN_list, anyT, anyF, Nat.zero_add, Nat.reduceAdd, Nat.reduceLeDiff, true_and, el, Int.toNat_natCast]
    intro q hq
    have hqf : q ≠ fp := (Sto.ne_of g4 hq).symm
    have hqr : q ≠ r := (Sto.ne_of g3 hq).symm
    intro u hu
    have hqu : q ≠ u := Sto.ne_of Sto.upd_same hu
    have huf : u ≠ fp := fun z => by rw [z, Sto.upd_ne (Ne.symm hqf), g4] at hu; cases hu
    have hur : u ≠ r := fun z => by rw [z, Sto.upd_ne (Ne.symm hqr), g3] at hu; cases hu
    refine ⟨by unfold inB; omega, ?_⟩
    have ew : D.tup [.int 0, .int 1] = rq (wsum (t.take 0) i) := rq0.symm
    rw [ew]
    refine forL_inv (rngD 0 t.length) (fun j σ S4 => ∃ x9 x10, σ = [some (.tup (tabL t)), some (.int (A : Nat)), some (.int (L : Nat)), some (.ref fp), some (.ref r), some dd, some (.ref q), some (rq (wsum (t.take j) i)), some (.ref u), x9, x10, none, none] ∧ (∀ b c, b ≠ q → b ≠ u → S3 b = some c → S4 b = some c) ∧ S4 q = some (.lst (toL (t.take j) i)) ∧ S4 u = some (.lst (rhoL (t.take j) (i + 1)))) (fun _ _ _ _ => trivial) ?_ ?_
      ⟨_, _, rfl, fun b c h1 h2 e => ?_, ?_, Sto.upd_same⟩
    · rintro j dd2 σ S4 NX2 hd2 ⟨x9, x10, rfl, k1, k2, k3⟩ hN2
      unfold rngD at hd2
      rw [List.getElem?_map, Option.map_eq_some_iff] at hd2
      obtain ⟨j', hj1, rfl⟩ := hd2
      have hj : j < t.length := by simpa using (List.getElem?_eq_some_iff.mp hj1).1
      rw [List.getElem?_range hj] at hj1
      cases hj1
      have hy := List.getElem_mem hj
      have kr : S4 r = some (.lst (rhoL t i)) := k1 r _ (Ne.symm hqr) (Ne.symm hur) g3
      have kt : atI (rhoL t i) (j : Int) = some (rq (rho t[j] i)) := atIk j rfl (rhoL_get hj)
      simp only [s__law_levels_2, wSs, wS, wT, wE, wEs, wO, wC, wI, wG, wGs, startD, List.map_cons, List.map_nil, List.length_cons, List.length_nil, List.replicate, List.cons_append, List.nil_append, List.append_nil, List.set_cons_zero, List.set_cons_succ, List.getElem?_cons_zero, List.getElem?_cons_succ, itT, wipeD, opAddI, opSubI, opMulI, opDivI, opModI, opPowI, opAddT, cmEq, cmNe, cmLt, cmLe, cmGt, cmGe, cmIn, eqI, eqS, inS2, truB, ixT0, ixT1, ixT2, ixT3, ixT4, ixT6, slcT, lenT, absI, intI, tupleT, listT, listRl, decide_true, decide_false, if_true, if_false, Bool.false_eq_true, reduceIte, decide_eq_true_eq, Bool.not_true, Bool.not_false, line, mI_int, mI_bool, mI_str, mI_tuple, mI_list, mB_int, mB_bool, mB_str, mB_tuple, mB_list, mS_int, mS_bool, mS_str, mS_tuple, mS_list, mT_int, mT_bool, mT_str, mT_tuple, mT_list, mN_int, mN_bool, mN_str, mN_tuple, mN_list, anyT, anyF, Nat.zero_add, Nat.reduceAdd, Nat.reduceLeDiff, true_and, Int.zero_add]
      rw [ixL kr kt]
      refine lplus_rq (by omega) ((wsum_zq h i j).mono (by decide)) ((rho_zq h hy).mono (by decide)) ?_
      rw [ixL kr kt]
      rw [← rq2]
      refine ltimes_rq (by omega) ((rho_zq h hy).mono (by decide)) (zq2.mono (by decide)) ?_
      simp only [rq, fr, wSs, wS, wT, wE, wEs, wO, wC, wI, wG, wGs, startD, List.map_cons, List.map_nil, List.length_cons, List.length_nil, List.replicate, List.cons_append, List.nil_append, List.append_nil, List.set_cons_zero, List.set_cons_succ, List.getElem?_cons_zero, List.getElem?_cons_succ, itT, wipeD, opAddI, opSubI, opMulI, opDivI, opModI, opPowI, opAddT, cmEq, cmNe, cmLt, cmLe, cmGt, cmGe, cmIn, eqI, eqS, inS2, truB, ixT0, ixT1, ixT2, ixT3, ixT4, ixT6, slcT, lenT, absI, intI, tupleT, listT, listRl, decide_true, decide_false, if_true, if_false, Bool.false_eq_true, reduceIte, decide_eq_true_eq, Bool.not_true, Bool.not_false, line, mI_int, mI_bool, mI_str, mI_tuple, mI_list, mB_int, mB_bool, mB_str, mB_tuple, mB_list, mS_int, mS_bool, mS_str, mS_tuple, mS_list, mT_int, mT_bool, mT_str, mT_tuple, mT_list, mN_int, mN_bool, mN_str, mN_tuple, mN_list, anyT, anyF, Nat.zero_add, Nat.reduceAdd, Nat.reduceLeDiff, true_and]
      have kq : (toL (t.take j) i).length ≤ 4 := by
        have := toL_len (t := t.take j) i
        rw [List.length_take] at this
        omega
      have eN := rho_next (k := i) h hy
      have wt := wsum_take (t := t) i hj
      have tt := toL_take (t := t) i hj
      have ft : rhoL (t.take (j + 1)) (i + 1) = rhoL (t.take j) (i + 1) ++ [rq (rho t[j] (i + 1))] := by
        unfold rhoL
        rw [List.take_succ_eq_append_getElem hj, List.map_append]
        rfl
      have hu4 : (rhoL (t.take j) (i + 1)).length ≤ 4 := by unfold rhoL; rw [List.length_map, List.length_take]; omega
      by_cases hc : t[j].2.2 ≤ 2 * ry t[j] i
      · rw [if_pos hc] at eN
        have et : tel i t[j] = some (.int t[j].1) := if_pos hc
        rw [et] at tt
        have hge := (rho_ge (k := i) h hy).mpr hc
        rw [if_pos hge, mtyA k2]
        refine ⟨rfl, ?_⟩
        rw [ixT (atIk j rfl (tabL_get hj))]
        simp only [teD, fr, opAddI, opSubI, opMulI, opDivI, opModI, opPowI, opAddT, cmEq, cmNe, cmLt, cmLe, cmGt, cmGe, cmIn, eqI, eqS, inS2, truB, ixT0, ixT1, ixT2, ixT3, ixT4, ixT6, slcT, lenT, absI, intI, tupleT, listT, listRl, decide_true, decide_false, if_true, if_false, Bool.false_eq_true, reduceIte, decide_eq_true_eq, Bool.not_true, Bool.not_false, line, mI_int, mI_bool, mI_str, mI_tuple, mI_list, mB_int, mB_bool, mB_str, mB_tuple, mB_list, mS_int, mS_bool, mS_str, mS_tuple, mS_list, mT_int, mT_bool, mT_str, mT_tuple, mT_list, mN_int, mN_bool, mN_str, mN_tuple, mN_list, anyT, anyF, Nat.zero_add, Nat.reduceAdd, Nat.reduceLeDiff, true_and]
        rw [appL k2]
        refine ⟨by have := Mi.line; omega, ?_⟩
        rw [show D.tup [D.int (rho t[j] i * 2).num, D.int ((rho t[j] i * 2).den : Int)] = rq (rho t[j] i * 2) from rfl, ← rqm1]
        refine lplus_rq (by omega) ((rho2_zq h hy).mono (by decide)) (zqm1.mono (by decide)) ?_
        rw [← eN]
        have m1 : (S4.upd q (.lst (toL (t.take j) i ++ [.int t[j].1]))) u = some (.lst (rhoL (t.take j) (i + 1))) := by rw [Sto.upd_ne (Ne.symm hqu)]; exact k3
        rw [mtyA m1, appL m1]
        refine ⟨rfl, by have := Mi.line; omega, ?_⟩
        refine hN2 _ _ ⟨_, _, by rw [wt]; rfl, fun b c h1 h2 e => ?_, ?_, ?_⟩
        · rw [Sto.upd_ne h2, Sto.upd_ne h1]; exact k1 b c h1 h2 e
        · rw [Sto.upd_ne hqu, Sto.upd_same, tt]; rfl
        · rw [Sto.upd_same, ft]
      · rw [if_neg hc] at eN
        have et : tel i t[j] = none := if_neg hc
        rw [et] at tt
        have hge : ¬ ((rho t[j] i * 2).den : Int) ≤ (rho t[j] i * 2).num := fun z => hc ((rho_ge (k := i) h hy).mp z)
        rw [if_neg hge, mtyA k3, appL k3]
        rw [show D.tup [D.int (rho t[j] i * 2).num, D.int ((rho t[j] i * 2).den : Int)] = rq (rho t[j] i * 2) from rfl, ← eN]
        refine ⟨rfl, by have := Mi.line; omega, ?_⟩
        refine hN2 _ _ ⟨_, _, by rw [wt]; rfl, fun b c h1 h2 e => ?_, ?_, ?_⟩
        · rw [Sto.upd_ne h2]; exact k1 b c h1 h2 e
        · rw [Sto.upd_ne hqu, k2, tt]; simp
        · rw [Sto.upd_same, ft]
    · rintro σ S4 ⟨x9, x10, rfl, k1, k2, k3⟩
      have hlen : (rngD 0 t.length).length = t.length := by simp [rngD]
      rw [hlen, List.take_length] at k2 k3
      rw [hlen, List.take_length]
      have kf : S4 fp = some (.lst fl) := k1 fp _ (Ne.symm hqf) (Ne.symm huf) g4
      have em : (wsum t i).num = (mk t W i : Nat) := by rw [wsum_mk h]; rfl
      have ed : rq (wsum t i) = .tup [.int (mk t W i : Nat), .int ((wsum t i).den : Int)] := by rw [← em]; rfl
      simp only [wSs, wS, wT, wE, wEs, wO, wC, wI, wG, wGs, startD, List.map_cons, List.map_nil, List.length_cons, List.length_nil, List.replicate, List.cons_append, List.nil_append, List.append_nil, List.set_cons_zero, List.set_cons_succ, List.getElem?_cons_zero, List.getElem?_cons_succ, itT, wipeD, opAddI, opSubI, opMulI, opDivI, opModI, opPowI, opAddT, cmEq, cmNe, cmLt, cmLe, cmGt, cmGe, cmIn, eqI, eqS, inS2, truB, ixT0, ixT1, ixT2, ixT3, ixT4, ixT6, slcT, lenT, absI, intI, tupleT, listT, listRl, decide_true, decide_false, if_true, if_false, Bool.false_eq_true, reduceIte, decide_eq_true_eq, Bool.not_true, Bool.not_false, line, mI_int, mI_bool, mI_str, mI_tuple, mI_list, mB_int, mB_bool, mB_str, mB_tuple, mB_list, mS_int, mS_bool, mS_str, mS_tuple, mS_list, mT_int, mT_bool, mT_str, mT_tuple, mT_list, mN_int, mN_bool, mN_str, mN_tuple, mN_list, anyT, anyF, Nat.zero_add, Nat.reduceAdd, Nat.reduceLeDiff, true_and, ed]
      rw [mtyA kf, appL kf]
      refine ⟨rfl, by have := g5.1; have := Mi.line; omega, ?_⟩
      have hF := (g5.push (S2 := S4) hqf (fun b c hb e => k1 b c (fun z => by rw [z, hq] at e; cases e) (fun z => by
        have hu' : S3 u = none := by rw [Sto.upd_ne (Ne.symm hqu)] at hu; exact hu
        rw [z, hu'] at e; cases e) e) k2)
      have hF2 := hF.mono (S2 := S4.upd fp (.lst (fl ++ [.tup [.int (mk t W i : Nat), .ref q]]))) (fun b c hb e => by rw [Sto.upd_ne hb]; exact e)
      refine hN _ _ ⟨_, _, _, _, _, _, u, _, rfl, fun b c hb => ?_, huf, by rw [Sto.upd_ne huf]; exact k3, Sto.upd_same, hF2⟩
      have hbf : b ≠ fp := Sto.ne_of hb hfp
      rw [Sto.upd_ne hbf]
      have e := g1 b c hb
      refine k1 b c (fun z => by rw [z, hq] at e; cases e) (fun z => ?_) e
      have hu' : S3 u = none := by rw [Sto.upd_ne (Ne.symm hqu)] at hu; exact hu
      rw [z, hu'] at e
      cases e
    · rw [Sto.upd_ne h2, Sto.upd_ne h1]; exact e
    · rw [Sto.upd_ne hqu, Sto.upd_same]; rfl
  · rintro σ S3 ⟨x5, x6, x7, x8, x9, x10, r, fl, rfl, g1, g2, g3, g4, g5⟩
    have hlen : (rngD 0 (A + L)).length = A + L := by simp [rngD]
    rw [hlen] at g5
    simp only [wSs, wS, wT, wE, wEs, wO, wC, wI, wG, wGs, startD, List.map_cons, List.map_nil, List.length_cons, List.length_nil, List.replicate, List.cons_append, List.nil_append, List.append_nil, List.set_cons_zero, List.set_cons_succ, List.getElem?_cons_zero, List.getElem?_cons_succ, itT, wipeD, opAddI, opSubI, opMulI, opDivI, opModI, opPowI, opAddT, cmEq, cmNe, cmLt, cmLe, cmGt, cmGe, cmIn, eqI, eqS, inS2, truB, ixT0, ixT1, ixT2, ixT3, ixT4, ixT6, slcT, lenT, absI, intI, tupleT, listT, listRl, decide_true, decide_false, if_true, if_false, Bool.false_eq_true, reduceIte, decide_eq_true_eq, Bool.not_true, Bool.not_false, line, mI_int, mI_bool, mI_str, mI_tuple, mI_list, mB_int, mB_bool, mB_str, mB_tuple, mB_list, mS_int, mS_bool, mS_str, mS_tuple, mS_list, mT_int, mT_bool, mT_str, mT_tuple, mT_list, mN_int, mN_bool, mN_str, mN_tuple, mN_list, anyT, anyF, Nat.zero_add, Nat.reduceAdd, Nat.reduceLeDiff, true_and]
    exact ⟨S3, Sto.le_refl, hQ fp fl S3 g1 g4 g5⟩
end K50
namespace K50
open PySem PySem.Spec PyProof.Rows L2 Mi
variable {k : Nat} {S : Sto} {Q : KD} {X : KX} {n d s o i j T p : Nat} {t : List Te} {W : Nat} {A N : Nat}
def st (t : List Te) (W : Nat) : Nat → Nat
  | 0 => 0
  | i + 1 => st t W i + mk t W i
theorem st_le (h : Tab t W) : ∀ i, st t W i ≤ 4 * i
  | 0 => Nat.le_refl _
  | i + 1 => by
    have h1 := st_le h i
    have h2 := mk_le (k := i) h
    show st t W i + mk t W i ≤ _
    omega
def stL (t : List Te) (W m : Nat) : List D := (List.range m).map fun i => D.int (st t W i : Nat)
theorem stL_len {m : Nat} : (stL t W m).length = m := by unfold stL; simp
theorem stL_succ {m : Nat} : stL t W (m + 1) = stL t W m ++ [D.int (st t W m : Nat)] := by unfold stL; rw [List.range_succ, List.map_append]; rfl
theorem stL_get {m : Nat} (h : i < m) : (stL t W m)[i]? = some (.int (st t W i : Nat)) := by
  unfold stL
  rw [List.getElem?_map, List.getElem?_range h]
  rfl
def fu (A N k : Nat) : Nat := if k + 1 < N then k + 1 else A
def tel2 (d : D) : D := .tup [.str "tell", d]
def nod (x : Nat) (m : Nat) : List D := (List.range m).map fun (j : Nat) => D.tup [.str "node", .int ((x : Int) + (j : Int))]
theorem nod_len {x m : Nat} : (nod x m).length = m := by unfold nod; simp
def sid (t : List Te) (W A N k : Nat) : List D := (toL t k).map tel2 ++ nod (st t W (fu A N k)) (2 * mk t W k - (toL t k).length)
theorem sid_len : 2 * mk t W k ≤ (sid t W A N k).length := by
  unfold sid
  rw [List.length_append, List.length_map, nod_len]
  omega
def trJ (l : List D) (m : Nat) : List D := (List.range m).map fun j => D.tup [l.getD (2 * j) .non, l.getD (2 * j + 1) .non]
theorem trJ_succ {l : List D} {m : Nat} : trJ l (m + 1) = trJ l m ++ [.tup [l.getD (2 * m) .non, l.getD (2 * m + 1) .non]] := by unfold trJ; rw [List.range_succ, List.map_append]; rfl
theorem trJ_len {l : List D} {m : Nat} : (trJ l m).length = m := by unfold trJ; simp
def trL (t : List Te) (W A N : Nat) : Nat → List D
  | 0 => []
  | i + 1 => trL t W A N i ++ trJ (sid t W A N i) (mk t W i)
theorem trL_len (h : Tab t W) : ∀ i, (trL t W A N i).length ≤ 4 * i
  | 0 => Nat.le_refl _
  | i + 1 => by
    have h1 := trL_len h i
    have h2 := mk_le (k := i) h
    show (trL t W A N i ++ _).length ≤ _
    rw [List.length_append, trJ_len]
    omega
theorem getD_at {l : List D} {i : Nat} (h : i < l.length) : l[i]? = some (l.getD i .non) := by
  rw [List.getD_eq_getElem?_getD, List.getElem?_eq_getElem h]
  rfl
def gTell : D → Option D := fun d => some (tel2 d)
theorem gTell_map (l : List D) : l.filterMap gTell = l.map tel2 := by
  have e : gTell = some ∘ tel2 := rfl
  rw [e, List.filterMap_eq_map]
def gNod (x : Nat) : D → Option D
  | .int j => some (.tup [.str "node", .int ((x : Int) + j)])
  | _ => none
theorem gNod_map (x m : Nat) : (rngD 0 m).filterMap (gNod x) = nod x m := by
  unfold rngD nod
  rw [List.filterMap_map]
  have e : (gNod x ∘ fun (i : Nat) => D.int (0 + (i : Int))) = some ∘ fun (j : Nat) => D.tup [.str "node", .int ((x : Int) + (j : Int))] := by
    funext j
    show some (D.tup [.str "node", .int ((x : Int) + (0 + (j : Int)))]) = _
    rw [Int.zero_add]
    rfl
  rw [e, List.filterMap_eq_map]
def tail5 : Ss := (.cons (.set 9 (.comp none e_least_tree_2 (.nm 11) (.of (.var 6)) .none [11])) (.cons (.set 9 (.op .add (.var 9) (.comp none e_least_tree_3 (.nm 10) (.rng1 (.op .sub (.op .mul (.lit (.int (2))) (.var 5)) (.blt .len (.cons (.var 6) .nil)))) .none [10]))) (.cons (.for (.nm 10) (.rng1 (.var 5)) s_least_tree_4) .nil)))
theorem tail5_ok {N' : De} {S3 : Sto} {sp tp fp q : Addr} {x9 x10 : Option D} {i : Nat} (h : Tab t W) (hi : i < N) (hN : N ≤ 64) (hAN : A ≤ N) (m2 : S3 sp = some (.lst (stL t W (N + 1)))) (m3 : S3 q = some (.lst (toL t i))) (k2 : S3 tp = some (.lst (trL t W A N i))) (hst : sp ≠ tp) (hqt : q ≠ tp)
    (hNX : ∀ x9 x10 S4, (∀ b c, b ≠ tp → S3 b = some c → S4 b = some c) → S4 tp = some (.lst (trL t W A N (i + 1))) → N'.nx [some (.tup (tabL t)), some (.ref sp), some (.ref tp), some (.int (A : Nat)), some (.ref fp), some (.int (mk t W i : Nat)), some (.ref q), some (.int (i : Nat)), some (.int (fu A N i : Nat)), x9, x10, none] S4) :
    wSs (Γ k) G0 tail5 N' [some (.tup (tabL t)), some (.ref sp), some (.ref tp), some (.int (A : Nat)), some (.ref fp), some (.int (mk t W i : Nat)), some (.ref q), some (.int (i : Nat)), some (.int (fu A N i : Nat)), x9, x10, none] S3 := by
  have hm := mk_le (k := i) h
  have hl := h.len
  have hto := toL_len (t := t) i
  simp only [tail5, wSs, wS, wT, wE, wEs, wO, wC, wI, wG, wGs, startD, List.map_cons, List.map_nil, List.length_cons, List.length_nil, List.replicate, List.cons_append, List.nil_append, List.append_nil, List.set_cons_zero, List.set_cons_succ, List.getElem?_cons_zero, List.getElem?_cons_succ, itT, wipeD, opAddI, opSubI, opMulI, opDivI, opModI, opPowI, opAddT, cmEq, cmNe, cmLt, cmLe, cmGt, cmGe, cmIn, eqI, eqS, inS2, truB, ixT0, ixT1, ixT2, ixT3, ixT4, ixT6, slcT, lenT, absI, intI, tupleT, listT, listRl, decide_true, decide_false, if_true, if_false, Bool.false_eq_true, reduceIte, decide_eq_true_eq, Bool.not_true, Bool.not_false, line, mI_int, mI_bool, mI_str, mI_tuple, mI_list, mB_int, mB_bool, mB_str, mB_tuple, mB_list, mS_int, mS_bool, mS_str, mS_tuple, mS_list, mT_int, mT_bool, mT_str, mT_tuple, mT_list, mN_int, mN_bool, mN_str, mN_tuple, mN_list, anyT, anyF, Nat.zero_add, Nat.reduceAdd, Nat.reduceLeDiff, true_and]
  rw [itL m3]
  refine ⟨by omega, cmpL_pure gTell m3 ?_ ?_⟩
  · intro dd hd PP hPP
    simp only [e_least_tree_2, wSs, wS, wT, wE, wEs, wO, wC, wI, wG, wGs, startD, List.map_cons, List.map_nil, List.length_cons, List.length_nil, List.replicate, List.cons_append, List.nil_append, List.append_nil, List.set_cons_zero, List.set_cons_succ, List.getElem?_cons_zero, List.getElem?_cons_succ, itT, wipeD, opAddI, opSubI, opMulI, opDivI, opModI, opPowI, opAddT, cmEq, cmNe, cmLt, cmLe, cmGt, cmGe, cmIn, eqI, eqS, inS2, truB, ixT0, ixT1, ixT2, ixT3, ixT4, ixT6, slcT, lenT, absI, intI, tupleT, listT, listRl, decide_true, decide_false, if_true, if_false, Bool.false_eq_true, reduceIte, decide_eq_true_eq, Bool.not_true, Bool.not_false, line, mI_int, mI_bool, mI_str, mI_tuple, mI_list, mB_int, mB_bool, mB_str, mB_tuple, mB_list, mS_int, mS_bool, mS_str, mS_tuple, mS_list, mT_int, mT_bool, mT_str, mT_tuple, mT_list, mN_int, mN_bool, mN_str, mN_tuple, mN_list, anyT, anyF, Nat.zero_add, Nat.reduceAdd, Nat.reduceLeDiff, true_and]
    exact hPP
  rw [gTell_map]
  intro a9 ha9
  have s2 : Sz 2 2 := by unfold Sz; decide
  have sm : Sz 4 ((mk t W i : Nat) : Int) := szn (by omega)
  refine ⟨s2.cm sm, ?_⟩
  have n3 : (S3.upd a9 (.lst ((toL t i).map tel2))) q = some (.lst (toL t i)) := Sto.le_new ha9 _ _ m3
  have n2 : (S3.upd a9 (.lst ((toL t i).map tel2))) sp = some (.lst (stL t W (N + 1))) := Sto.le_new ha9 _ _ m2
  have n9 : (S3.upd a9 (.lst ((toL t i).map tel2))) a9 = some (.lst ((toL t i).map tel2)) := Sto.upd_same
  have nl : S3.le (S3.upd a9 (.lst ((toL t i).map tel2))) := Sto.le_new ha9
  generalize S3.upd a9 (.lst ((toL t i).map tel2)) = S4 at n3 n2 n9 nl ⊢
  rw [lenL n3, opSubI]
  have ej : (2 * ((mk t W i : Nat) : Int) - (((toL t i).length : Nat) : Int)).toNat = 2 * mk t W i - (toL t i).length := by omega
  dsimp only
  rw [ej]
  refine ⟨by unfold inB; omega, by simp [rngD]; omega, cmpL_pure (gNod (st t W (fu A N i))) trivial ?_ ?_⟩
  · intro dd hd PP hPP
    unfold rngD at hd
    obtain ⟨j, hj, rfl⟩ := List.mem_map.mp hd
    have hfu : fu A N i < N + 1 := by unfold fu; split <;> omega
    simp only [e_least_tree_3, wSs, wS, wT, wE, wEs, wO, wC, wI, wG, wGs, startD, List.map_cons, List.map_nil, List.length_cons, List.length_nil, List.replicate, List.cons_append, List.nil_append, List.append_nil, List.set_cons_zero, List.set_cons_succ, List.getElem?_cons_zero, List.getElem?_cons_succ, itT, wipeD, opAddI, opSubI, opMulI, opDivI, opModI, opPowI, opAddT, cmEq, cmNe, cmLt, cmLe, cmGt, cmGe, cmIn, eqI, eqS, inS2, truB, ixT0, ixT1, ixT2, ixT3, ixT4, ixT6, slcT, lenT, absI, intI, tupleT, listT, listRl, decide_true, decide_false, if_true, if_false, Bool.false_eq_true, reduceIte, decide_eq_true_eq, Bool.not_true, Bool.not_false, line, mI_int, mI_bool, mI_str, mI_tuple, mI_list, mB_int, mB_bool, mB_str, mB_tuple, mB_list, mS_int, mS_bool, mS_str, mS_tuple, mS_list, mT_int, mT_bool, mT_str, mT_tuple, mT_list, mN_int, mN_bool, mN_str, mN_tuple, mN_list, anyT, anyF, Nat.zero_add, Nat.reduceAdd, Nat.reduceLeDiff, true_and]
    rw [ixL n2 (atIk (fu A N i) rfl (stL_get hfu))]
    simp only [opAddI, opSubI, opMulI, opDivI, opModI, opPowI, opAddT, cmEq, cmNe, cmLt, cmLe, cmGt, cmGe, cmIn, eqI, eqS, inS2, truB, ixT0, ixT1, ixT2, ixT3, ixT4, ixT6, slcT, lenT, absI, intI, tupleT, listT, listRl, decide_true, decide_false, if_true, if_false, Bool.false_eq_true, reduceIte, decide_eq_true_eq, Bool.not_true, Bool.not_false, line, mI_int, mI_bool, mI_str, mI_tuple, mI_list, mB_int, mB_bool, mB_str, mB_tuple, mB_list, mS_int, mS_bool, mS_str, mS_tuple, mS_list, mT_int, mT_bool, mT_str, mT_tuple, mT_list, mN_int, mN_bool, mN_str, mN_tuple, mN_list, anyT, anyF, Nat.zero_add, Nat.reduceAdd, Nat.reduceLeDiff, true_and]
    exact hPP
  rw [gNod_map]
  intro b9 hb9
  have nab : a9 ≠ b9 := Sto.ne_of n9 hb9
  rw [opAddL (by rw [Sto.upd_ne nab]; exact n9) Sto.upd_same]
  refine ⟨by rw [List.length_map, nod_len, sizeLine_eq]; omega, ?_⟩
  intro c9 hc9
  have es : (toL t i).map tel2 ++ nod (st t W (fu A N i)) (2 * mk t W i - (toL t i).length) = sid t W A N i := rfl
  rw [es]
  have ol : ∀ b c, S3 b = some c → ((S4.upd b9 (.lst (nod (st t W (fu A N i)) (2 * mk t W i - (toL t i).length)))).upd c9 (.lst (sid t W A N i))) b = some c := fun b c e => Sto.le_new' (Sto.le_new' nl hb9) hc9 b c e
  have o9 : ((S4.upd b9 (.lst (nod (st t W (fu A N i)) (2 * mk t W i - (toL t i).length)))).upd c9 (.lst (sid t W A N i))) c9 = some (.lst (sid t W A N i)) := Sto.upd_same
  have hct : c9 ≠ tp := fun z => by
    have e1 : ((S4.upd b9 (.lst (nod (st t W (fu A N i)) (2 * mk t W i - (toL t i).length))))) tp = some (.lst (trL t W A N i)) := Sto.le_new' nl hb9 _ _ k2
    rw [z, e1] at hc9
    cases hc9
  generalize (S4.upd b9 (.lst (nod (st t W (fu A N i)) (2 * mk t W i - (toL t i).length)))).upd c9 (.lst (sid t W A N i)) = S5 at ol o9 ⊢
  refine ⟨by unfold inB; omega, ?_⟩
  rw [Int.toNat_natCast]
  refine forL_inv (rngD 0 (mk t W i)) (fun j σ S6 => ∃ x10, σ = [some (.tup (tabL t)), some (.ref sp), some (.ref tp), some (.int (A : Nat)), some (.ref fp), some (.int (mk t W i : Nat)), some (.ref q), some (.int (i : Nat)), some (.int (fu A N i : Nat)), some (.ref c9), x10, none] ∧ (∀ b c, b ≠ tp → S5 b = some c → S6 b = some c) ∧ S6 tp = some (.lst (trL t W A N i ++ trJ (sid t W A N i) j))) (fun _ _ _ _ => trivial) ?_ ?_ ⟨_, rfl, fun b c _ e => e, by rw [ol _ _ k2]; simp [trJ]⟩
  · rintro j dd σ S6 NX hd ⟨x10, rfl, p1, p2⟩ hNX2
    unfold rngD at hd
    rw [List.getElem?_map, Option.map_eq_some_iff] at hd
    obtain ⟨j', hj1, rfl⟩ := hd
    have hj : j < mk t W i := by simpa using (List.getElem?_eq_some_iff.mp hj1).1
    rw [List.getElem?_range hj] at hj1
    cases hj1
    have p9 := p1 _ _ hct o9
    have hsl := sid_len (t := t) (W := W) (A := A) (N := N) (k := i)
    have sj : Sz 4 (j : Int) := szn (by omega)
    simp only [s_least_tree_4, wSs, wS, wT, wE, wEs, wO, wC, wI, wG, wGs, startD, List.map_cons, List.map_nil, List.length_cons, List.length_nil, List.replicate, List.cons_append, List.nil_append, List.append_nil, List.set_cons_zero, List.set_cons_succ, List.getElem?_cons_zero, List.getElem?_cons_succ, itT, wipeD, opAddI, opSubI, opMulI, opDivI, opModI, opPowI, opAddT, cmEq, cmNe, cmLt, cmLe, cmGt, cmGe, cmIn, eqI, eqS, inS2, truB, ixT0, ixT1, ixT2, ixT3, ixT4, ixT6, slcT, lenT, absI, intI, tupleT, listT, listRl, decide_true, decide_false, if_true, if_false, Bool.false_eq_true, reduceIte, decide_eq_true_eq, Bool.not_true, Bool.not_false, line, mI_int, mI_bool, mI_str, mI_tuple, mI_list, mB_int, mB_bool, mB_str, mB_tuple, mB_list, mS_int, mS_bool, mS_str, mS_tuple, mS_list, mT_int, mT_bool, mT_str, mT_tuple, mT_list, mN_int, mN_bool, mN_str, mN_tuple, mN_list, anyT, anyF, Nat.zero_add, Nat.reduceAdd, Nat.reduceLeDiff, true_and, Int.zero_add, mtyA p2]
    rw [ixL p9 (atIk (2 * j) (by omega) (getD_at (by omega)))]
    rw [ixL p9 (atIk (2 * j + 1) (by omega) (getD_at (by omega)))]
    have htl := trL_len (A := A) (N := N) h i
    rw [appL p2, List.length_append, trJ_len]
    refine ⟨s2.cm sj, s2.cm sj, by have := Mi.line; omega, hNX2 _ _ ⟨_, rfl, fun b c hb e => by rw [Sto.upd_ne hb]; exact p1 b c hb e, ?_⟩⟩
    rw [Sto.upd_same, trJ_succ, List.append_assoc]
  · rintro σ S6 ⟨x10, rfl, p1, p2⟩
    have hlen : (rngD 0 (mk t W i)).length = mk t W i := by simp [rngD]
    rw [hlen] at p2
    exact hNX _ _ S6 (fun b c hb e => p1 b c hb (ol b c e)) p2
theorem tree_ok (hk : 3 < k) (h : Tab t W) (h1 : spA t + spL t ≤ 64 → Q (.tup (trL t W (spA t) (spA t + spL t) (spA t + spL t))) S) (h2 : 64 < spA t + spL t → X ⟨"NotFit", [("word", .str "tree")]⟩ S) : Γ k "least_tree" [.tup (tabL t)] S Q X := by
  cases k with
  | zero => omega
  | succ k =>
  refine gam (np := 1) (nn := 12) (b := b_least_tree) rfl rfl ?_
  simp only [b_least_tree, wSs, wS, wT, wE, wEs, wO, wC, wI, wG, wGs, startD, List.map_cons, List.map_nil, List.length_cons, List.length_nil, List.replicate, List.cons_append, List.nil_append, List.append_nil, List.set_cons_zero, List.set_cons_succ, List.getElem?_cons_zero, List.getElem?_cons_succ, itT, wipeD, opAddI, opSubI, opMulI, opDivI, opModI, opPowI, opAddT, cmEq, cmNe, cmLt, cmLe, cmGt, cmGe, cmIn, eqI, eqS, inS2, truB, ixT0, ixT1, ixT2, ixT3, ixT4, ixT6, slcT, lenT, absI, intI, tupleT, listT, listRl, decide_true, decide_false, if_true, if_false, Bool.false_eq_true, reduceIte, decide_eq_true_eq, Bool.not_true, Bool.not_false, line, mI_int, mI_bool, mI_str, mI_tuple, mI_list, mB_int, mB_bool, mB_str, mB_tuple, mB_list, mS_int, mS_bool, mS_str, mS_tuple, mS_list, mT_int, mT_bool, mT_str, mT_tuple, mT_list, mN_int, mN_bool, mN_str, mN_tuple, mN_list, anyT, anyF, Nat.zero_add, Nat.reduceAdd, Nat.reduceLeDiff, true_and]
  refine levels_ok (by omega) h (fun hAL fp fl S1 l1 hf hF => ?_) fun hAL => ⟨S, Sto.le_refl, h2 hAL⟩
  have h1 := h1 hAL
  generalize spA t = A at h1 hAL hF ⊢
  generalize spL t = L at h1 hAL hF ⊢
  generalize hN : A + L = N at h1 hAL hF ⊢
  have hAN : A ≤ N := by omega
  simp only [wSs, wS, wT, wE, wEs, wO, wC, wI, wG, wGs, startD, List.map_cons, List.map_nil, List.length_cons, List.length_nil, List.replicate, List.cons_append, List.nil_append, List.append_nil, List.set_cons_zero, List.set_cons_succ, List.getElem?_cons_zero, List.getElem?_cons_succ, itT, wipeD, opAddI, opSubI, opMulI, opDivI, opModI, opPowI, opAddT, cmEq, cmNe, cmLt, cmLe, cmGt, cmGe, cmIn, eqI, eqS, inS2, truB, ixT0, ixT1, ixT2, ixT3, ixT4, ixT6, slcT, lenT, absI, intI, tupleT, listT, listRl, decide_true, decide_false, if_true, if_false, Bool.false_eq_true, reduceIte, decide_eq_true_eq, Bool.not_true, Bool.not_false, line, mI_int, mI_bool, mI_str, mI_tuple, mI_list, mB_int, mB_bool, mB_str, mB_tuple, mB_list, mS_int, mS_bool, mS_str, mS_tuple, mS_list, mT_int, mT_bool, mT_str, mT_tuple, mT_list, mN_int, mN_bool, mN_str, mN_tuple, mN_list, anyT, anyF, Nat.zero_add, Nat.reduceAdd, Nat.reduceLeDiff, true_and]
  intro sp hsp
  have hfs : fp ≠ sp := Sto.ne_of hf hsp
  rw [itL (l := fl) (by rw [Sto.upd_ne hfs]; exact hf)]
  refine forL_inv fl (fun i σ S2 => ∃ x5 x6, σ = [some (.tup (tabL t)), some (.ref sp), none, some (.int (A : Nat)), some (.ref fp), x5, x6, none, none, none, none, none] ∧ (∀ b c, b ≠ sp → S1 b = some c → S2 b = some c) ∧ S2 sp = some (.lst (stL t W (i + 1)))) (fun _ σ S2 hI => by obtain ⟨_, _, _, g1, _⟩ := hI; exact g1 fp _ hfs hf) ?_ ?_ ⟨_, _, rfl, fun b c hb e => by rw [Sto.upd_ne hb]; exact e, Sto.upd_same⟩
  · rintro i dd σ S2 NX hd' ⟨x5, x6, rfl, g1, g2⟩ hNX
    have hi : i < N := by
      have := (List.getElem?_eq_some_iff.mp hd').1
      rw [hF.1] at this
      exact this
    obtain ⟨q, q1, q2, q3⟩ := hF.2 i hi
    rw [hd'] at q2
    cases q2
    have kl : atI (stL t W (i + 1)) (-1) = some (.int (st t W i : Nat)) := by rw [stL_succ]; exact at_last
    simp only [s_least_tree_1, wSs, wS, wT, wE, wEs, wO, wC, wI, wG, wGs, startD, List.map_cons, List.map_nil, List.length_cons, List.length_nil, List.replicate, List.cons_append, List.nil_append, List.append_nil, List.set_cons_zero, List.set_cons_succ, List.getElem?_cons_zero, List.getElem?_cons_succ, itT, wipeD, opAddI, opSubI, opMulI, opDivI, opModI, opPowI, opAddT, cmEq, cmNe, cmLt, cmLe, cmGt, cmGe, cmIn, eqI, eqS, inS2, truB, ixT0, ixT1, ixT2, ixT3, ixT4, ixT6, slcT, lenT, absI, intI, tupleT, listT, listRl, decide_true, decide_false, if_true, if_false, Bool.false_eq_true, reduceIte, decide_eq_true_eq, Bool.not_true, Bool.not_false, line, mI_int, mI_bool, mI_str, mI_tuple, mI_list, mB_int, mB_bool, mB_str, mB_tuple, mB_list, mS_int, mS_bool, mS_str, mS_tuple, mS_list, mT_int, mT_bool, mT_str, mT_tuple, mT_list, mN_int, mN_bool, mN_str, mN_tuple, mN_list, anyT, anyF, Nat.zero_add, Nat.reduceAdd, Nat.reduceLeDiff, true_and, mtyA g2]
    rw [ixL g2 kl]
    simp only [opAddI, opSubI, opMulI, opDivI, opModI, opPowI, opAddT, cmEq, cmNe, cmLt, cmLe, cmGt, cmGe, cmIn, eqI, eqS, inS2, truB, ixT0, ixT1, ixT2, ixT3, ixT4, ixT6, slcT, lenT, absI, intI, tupleT, listT, listRl, decide_true, decide_false, if_true, if_false, Bool.false_eq_true, reduceIte, decide_eq_true_eq, Bool.not_true, Bool.not_false, line, mI_int, mI_bool, mI_str, mI_tuple, mI_list, mB_int, mB_bool, mB_str, mB_tuple, mB_list, mS_int, mS_bool, mS_str, mS_tuple, mS_list, mT_int, mT_bool, mT_str, mT_tuple, mT_list, mN_int, mN_bool, mN_str, mN_tuple, mN_list, anyT, anyF, Nat.zero_add, Nat.reduceAdd, Nat.reduceLeDiff, true_and]
    rw [appL g2, stL_len]
    refine ⟨by have := Mi.line; omega, hNX _ _ ⟨_, _, rfl, fun b c hb e => by rw [Sto.upd_ne hb]; exact g1 b c hb e, ?_⟩⟩
    rw [Sto.upd_same, stL_succ (m := i + 1)]
    have e : ((st t W i : Nat) : Int) + ((mk t W i : Nat) : Int) = ((st t W (i + 1) : Nat) : Int) := by show _ = ((st t W i + mk t W i : Nat) : Int); omega
    rw [e]
  · rintro σ S2 ⟨x5, x6, rfl, g1, g2⟩
    rw [hF.1] at g2
    simp only [wSs, wS, wT, wE, wEs, wO, wC, wI, wG, wGs, startD, List.map_cons, List.map_nil, List.length_cons, List.length_nil, List.replicate, List.cons_append, List.nil_append, List.append_nil, List.set_cons_zero, List.set_cons_succ, List.getElem?_cons_zero, List.getElem?_cons_succ, itT, wipeD, opAddI, opSubI, opMulI, opDivI, opModI, opPowI, opAddT, cmEq, cmNe, cmLt, cmLe, cmGt, cmGe, cmIn, eqI, eqS, inS2, truB, ixT0, ixT1, ixT2, ixT3, ixT4, ixT6, slcT, lenT, absI, intI, tupleT, listT, listRl, decide_true, decide_false, if_true, if_false, Bool.false_eq_true, reduceIte, decide_eq_true_eq, Bool.not_true, Bool.not_false, line, mI_int, mI_bool, mI_str, mI_tuple, mI_list, mB_int, mB_bool, mB_str, mB_tuple, mB_list, mS_int, mS_bool, mS_str, mS_tuple, mS_list, mT_int, mT_bool, mT_str, mT_tuple, mT_list, mN_int, mN_bool, mN_str, mN_tuple, mN_list, anyT, anyF, Nat.zero_add, Nat.reduceAdd, Nat.reduceLeDiff, true_and]
    intro tp htp
    have l2 : S1.le S2 := fun b c e => g1 b c (Sto.ne_of e hsp) e
    have hF2 : Fd S2 fp t W N fl := hF.mono fun b c _ e => l2 b c e
    have hf2 := l2 _ _ hf
    have hft : fp ≠ tp := Sto.ne_of hf2 htp
    have hst : sp ≠ tp := Sto.ne_of g2 htp
    rw [itL (l := fl) (by rw [Sto.upd_ne hft]; exact hf2)]
    refine forL_inv (enumD fl) (fun i σ S3 => ∃ x5 x6 x7 x8 x9 x10, σ = [some (.tup (tabL t)), some (.ref sp), some (.ref tp), some (.int (A : Nat)), some (.ref fp), x5, x6, x7, x8, x9, x10, none] ∧ (∀ b c, b ≠ tp → S2 b = some c → S3 b = some c) ∧ S3 tp = some (.lst (trL t W A N i))) (fun _ σ S3 hI => by obtain ⟨_, _, _, _, _, _, _, g1, _⟩ := hI; exact g1 fp _ hft hf2) ?_ ?_ ⟨_, _, _, _, _, _, rfl, fun b c hb e => by rw [Sto.upd_ne hb]; exact e, Sto.upd_same⟩
    · rintro i dd σ S3 NX hd' ⟨x5, x6, x7, x8, x9, x10, rfl, k1, k2⟩ hNX
      obtain ⟨hi, rfl⟩ := enumD_get hd'
      have hi : i < N := by rw [hF2.1] at hi; exact hi
      obtain ⟨q, q1, q2, q3⟩ := hF2.2 i hi
      rw [List.getElem?_eq_getElem (by rw [hF2.1]; exact hi)] at q2
      have q2 := Option.some.inj q2
      have hm := mk_le (k := i) h
      have hl := h.len
      have hto := toL_len (t := t) i
      have hqt : q ≠ tp := Sto.ne_of q3 htp
      have m1 : S3 fp = some (.lst fl) := k1 _ _ hft hf2
      have m2 : S3 sp = some (.lst (stL t W (N + 1))) := k1 _ _ hst g2
      have m3 : S3 q = some (.lst (toL t i)) := k1 _ _ hqt q3
      rw [q2]
      simp only [s_least_tree_5, wSs, wS, wT, wE, wEs, wO, wC, wI, wG, wGs, startD, List.map_cons, List.map_nil, List.length_cons, List.length_nil, List.replicate, List.cons_append, List.nil_append, List.append_nil, List.set_cons_zero, List.set_cons_succ, List.getElem?_cons_zero, List.getElem?_cons_succ, itT, wipeD, opAddI, opSubI, opMulI, opDivI, opModI, opPowI, opAddT, cmEq, cmNe, cmLt, cmLe, cmGt, cmGe, cmIn, eqI, eqS, inS2, truB, ixT0, ixT1, ixT2, ixT3, ixT4, ixT6, slcT, lenT, absI, intI, tupleT, listT, listRl, decide_true, decide_false, if_true, if_false, Bool.false_eq_true, reduceIte, decide_eq_true_eq, Bool.not_true, Bool.not_false, line, mI_int, mI_bool, mI_str, mI_tuple, mI_list, mB_int, mB_bool, mB_str, mB_tuple, mB_list, mS_int, mS_bool, mS_str, mS_tuple, mS_list, mT_int, mT_bool, mT_str, mT_tuple, mT_list, mN_int, mN_bool, mN_str, mN_tuple, mN_list, anyT, anyF, Nat.zero_add, Nat.reduceAdd, Nat.reduceLeDiff, true_and]
      rw [lenL m1, cmLt, hF2.1]
      have htail := fun (bk' : En → Sto → Prop) => tail5_ok (k := k) (fp := fp) (x9 := x9) (x10 := x10) (N' := { nx := NX, rt := fun d S' => ∃ S0 : Sto, S0.le S' ∧ Q d S0, bk := bk', ct := NX, xr := fun x _ S' => ∃ S0 : Sto, S0.le S' ∧ X x S0 }) h hi (by omega) hAN m2 m3 k2 hst hqt fun y9 y10 S4 w1 w2 => hNX _ _ ⟨_, _, _, _, y9, y10, rfl, fun b c hb e => w1 b c hb (k1 b c hb e), w2⟩
      simp only [tail5, wSs, wS, wT, wE, wEs, wO, wC, wI, wG, wGs, startD, List.map_cons, List.map_nil, List.length_cons, List.length_nil, List.replicate, List.cons_append, List.nil_append, List.append_nil, List.set_cons_zero, List.set_cons_succ, List.getElem?_cons_zero, List.getElem?_cons_succ, itT, wipeD, opAddI, opSubI, opMulI, opDivI, opModI, opPowI, opAddT, cmEq, cmNe, cmLt, cmLe, cmGt, cmGe, cmIn, eqI, eqS, inS2, truB, ixT0, ixT1, ixT2, ixT3, ixT4, ixT6, slcT, lenT, absI, intI, tupleT, listT, listRl, decide_true, decide_false, if_true, if_false, Bool.false_eq_true, reduceIte, decide_eq_true_eq, Bool.not_true, Bool.not_false, line, mI_int, mI_bool, mI_str, mI_tuple, mI_list, mB_int, mB_bool, mB_str, mB_tuple, mB_list, mS_int, mS_bool, mS_str, mS_tuple, mS_list, mT_int, mT_bool, mT_str, mT_tuple, mT_list, mN_int, mN_bool, mN_str, mN_tuple, mN_list, anyT, anyF, Nat.zero_add, Nat.reduceAdd, Nat.reduceLeDiff, true_and] at htail
      by_cases hc : i + 1 < N
      · have e8 : fu A N i = i + 1 := by unfold fu; rw [if_pos hc]
        rw [if_pos (decide_eq_true (by omega))]
        simp only [e8] at htail
        exact htail _
      · have e8 : fu A N i = A := by unfold fu; rw [if_neg hc]
        rw [if_neg (by simp; omega)]
        simp only [e8] at htail
        exact htail _
    · rintro σ S3 ⟨x5, x6, x7, x8, x9, x10, rfl, k1, k2⟩
      rw [enumD_len, hF2.1] at k2
      simp only [wSs, wS, wT, wE, wEs, wO, wC, wI, wG, wGs, startD, List.map_cons, List.map_nil, List.length_cons, List.length_nil, List.replicate, List.cons_append, List.nil_append, List.append_nil, List.set_cons_zero, List.set_cons_succ, List.getElem?_cons_zero, List.getElem?_cons_succ, itT, wipeD, opAddI, opSubI, opMulI, opDivI, opModI, opPowI, opAddT, cmEq, cmNe, cmLt, cmLe, cmGt, cmGe, cmIn, eqI, eqS, inS2, truB, ixT0, ixT1, ixT2, ixT3, ixT4, ixT6, slcT, lenT, absI, intI, tupleT, listT, listRl, decide_true, decide_false, if_true, if_false, Bool.false_eq_true, reduceIte, decide_eq_true_eq, Bool.not_true, Bool.not_false, line, mI_int, mI_bool, mI_str, mI_tuple, mI_list, mB_int, mB_bool, mB_str, mB_tuple, mB_list, mS_int, mS_bool, mS_str, mS_tuple, mS_list, mT_int, mT_bool, mT_str, mT_tuple, mT_list, mN_int, mN_bool, mN_str, mN_tuple, mN_list, anyT, anyF, Nat.zero_add, Nat.reduceAdd, Nat.reduceLeDiff, true_and]
      rw [tupleL k2]
      refine ⟨S, fun b c e => ?_, h1⟩
      have e1 := l2 _ _ (l1 _ _ e)
      exact k1 b c (Sto.ne_of e1 htp) e1
end K50
namespace K50
open PySem PySem.Spec PyProof.Rows L2 Mi
variable {k : Nat} {S : Sto} {Q : KD} {X : KX} {n d s o i j T p : Nat} {t : List Te} {W : Nat} {A N : Nat}
def ltail : Ss := (.cons (.for (.nm 11) (.rng1 (.op .sub (.op .mul (.lit (.int (2))) (.var 7)) (.blt .len (.cons (.var 8) .nil)))) s__law_due_tree_3) (.cons (.for (.nm 11) (.rng1 (.var 7)) s__law_due_tree_4) .nil))
theorem nod_succ {x m : Nat} : nod x (m + 1) = nod x m ++ [D.tup [.str "node", .int ((x : Int) + (m : Int))]] := by unfold nod; rw [List.range_succ, List.map_append]; rfl
theorem ltail_ok {N' : De} {S3 : Sto} {sp tp fp q c9 : Addr} {x11 : Option D} {AL : Int × Int} {i : Nat} (h : Tab t W) (hi : i < N) (hN : N ≤ 64) (m3 : S3 q = some (.lst (toL t i))) (k9 : S3 c9 = some (.lst ((toL t i).map tel2))) (k2 : S3 tp = some (.lst (trL t W A N i))) (hct : c9 ≠ tp) (hqt : q ≠ tp) (hqc : q ≠ c9)
    (hNX : ∀ x11 S4, (∀ b c, b ≠ tp → b ≠ c9 → S3 b = some c → S4 b = some c) → S4 tp = some (.lst (trL t W A N (i + 1))) → N'.nx [some (.tup (tabL t)), some (.int AL.1), some (.int AL.2), some (.ref fp), some (.ref sp), some (.ref tp), some (.int (i : Nat)), some (.int (mk t W i : Nat)), some (.ref q), some (.ref c9), some (.int (st t W (fu A N i) : Nat)), x11, none] S4) :
    wSs (Γ k) G0 ltail N' [some (.tup (tabL t)), some (.int AL.1), some (.int AL.2), some (.ref fp), some (.ref sp), some (.ref tp), some (.int (i : Nat)), some (.int (mk t W i : Nat)), some (.ref q), some (.ref c9), some (.int (st t W (fu A N i) : Nat)), x11, none] S3 := by
  have hm := mk_le (k := i) h
  have hl := h.len
  have hto := toL_len (t := t) i
  have s2 : Sz 2 2 := by unfold Sz; decide
  have sm : Sz 4 ((mk t W i : Nat) : Int) := szn (by omega)
  simp only [ltail, wSs, wS, wT, wE, wEs, wO, wC, wI, wG, wGs, startD, List.map_cons, List.map_nil, List.length_cons, List.length_nil, List.replicate, List.cons_append, List.nil_append, List.append_nil, List.set_cons_zero, List.set_cons_succ, List.getElem?_cons_zero, List.getElem?_cons_succ, itT, wipeD, opAddI, opSubI, opMulI, opDivI, opModI, opPowI, opAddT, cmEq, cmNe, cmLt, cmLe, cmGt, cmGe, cmIn, eqI, eqS, inS2, truB, ixT0, ixT1, ixT2, ixT3, ixT4, ixT6, slcT, lenT, absI, intI, tupleT, listT, listRl, decide_true, decide_false, if_true, if_false, Bool.false_eq_true, reduceIte, decide_eq_true_eq, Bool.not_true, Bool.not_false, line, mI_int, mI_bool, mI_str, mI_tuple, mI_list, mB_int, mB_bool, mB_str, mB_tuple, mB_list, mS_int, mS_bool, mS_str, mS_tuple, mS_list, mT_int, mT_bool, mT_str, mT_tuple, mT_list, mN_int, mN_bool, mN_str, mN_tuple, mN_list, anyT, anyF, Nat.zero_add, Nat.reduceAdd, Nat.reduceLeDiff, true_and]
  refine ⟨s2.cm sm, ?_⟩
  rw [lenL m3, opSubI]
  have ej : (2 * ((mk t W i : Nat) : Int) - (((toL t i).length : Nat) : Int)).toNat = 2 * mk t W i - (toL t i).length := by omega
  dsimp only
  rw [ej]
  refine ⟨by unfold inB; omega, ?_⟩
  refine forL_inv (rngD 0 (2 * mk t W i - (toL t i).length)) (fun j σ S6 => ∃ x11, σ = [some (.tup (tabL t)), some (.int AL.1), some (.int AL.2), some (.ref fp), some (.ref sp), some (.ref tp), some (.int (i : Nat)), some (.int (mk t W i : Nat)), some (.ref q), some (.ref c9), some (.int (st t W (fu A N i) : Nat)), x11, none] ∧ (∀ b c, b ≠ c9 → S3 b = some c → S6 b = some c) ∧ S6 c9 = some (.lst ((toL t i).map tel2 ++ nod (st t W (fu A N i)) j))) (fun _ _ _ _ => trivial) ?_ ?_ ⟨_, rfl, fun b c _ e => e, by rw [k9]; simp [nod]⟩
  · rintro j dd σ S6 NX hd ⟨x11, rfl, p1, p2⟩ hNX2
    unfold rngD at hd
    rw [List.getElem?_map, Option.map_eq_some_iff] at hd
    obtain ⟨j', hj1, rfl⟩ := hd
    have hj : j < 2 * mk t W i - (toL t i).length := by simpa using (List.getElem?_eq_some_iff.mp hj1).1
    rw [List.getElem?_range hj] at hj1
    cases hj1
    simp only [s__law_due_tree_3, wSs, wS, wT, wE, wEs, wO, wC, wI, wG, wGs, startD, List.map_cons, List.map_nil, List.length_cons, List.length_nil, List.replicate, List.cons_append, List.nil_append, List.append_nil, List.set_cons_zero, List.set_cons_succ, List.getElem?_cons_zero, List.getElem?_cons_succ, itT, wipeD, opAddI, opSubI, opMulI, opDivI, opModI, opPowI, opAddT, cmEq, cmNe, cmLt, cmLe, cmGt, cmGe, cmIn, eqI, eqS, inS2, truB, ixT0, ixT1, ixT2, ixT3, ixT4, ixT6, slcT, lenT, absI, intI, tupleT, listT, listRl, decide_true, decide_false, if_true, if_false, Bool.false_eq_true, reduceIte, decide_eq_true_eq, Bool.not_true, Bool.not_false, line, mI_int, mI_bool, mI_str, mI_tuple, mI_list, mB_int, mB_bool, mB_str, mB_tuple, mB_list, mS_int, mS_bool, mS_str, mS_tuple, mS_list, mT_int, mT_bool, mT_str, mT_tuple, mT_list, mN_int, mN_bool, mN_str, mN_tuple, mN_list, anyT, anyF, Nat.zero_add, Nat.reduceAdd, Nat.reduceLeDiff, true_and, Int.zero_add, mtyA p2]
    rw [appL p2, List.length_append, List.length_map, nod_len]
    refine ⟨by have := Mi.line; omega, hNX2 _ _ ⟨_, rfl, fun b c hb e => by rw [Sto.upd_ne hb]; exact p1 b c hb e, ?_⟩⟩
    rw [Sto.upd_same, nod_succ, List.append_assoc]
  · rintro σ S6 ⟨x11, rfl, p1, p2⟩
    have hlen : (rngD 0 (2 * mk t W i - (toL t i).length)).length = 2 * mk t W i - (toL t i).length := by simp [rngD]
    rw [hlen] at p2
    have es : (toL t i).map tel2 ++ nod (st t W (fu A N i)) (2 * mk t W i - (toL t i).length) = sid t W A N i := rfl
    rw [es] at p2
    have kt := p1 _ _ (Ne.symm hct) k2
    simp only [wSs, wS, wT, wE, wEs, wO, wC, wI, wG, wGs, startD, List.map_cons, List.map_nil, List.length_cons, List.length_nil, List.replicate, List.cons_append, List.nil_append, List.append_nil, List.set_cons_zero, List.set_cons_succ, List.getElem?_cons_zero, List.getElem?_cons_succ, itT, wipeD, opAddI, opSubI, opMulI, opDivI, opModI, opPowI, opAddT, cmEq, cmNe, cmLt, cmLe, cmGt, cmGe, cmIn, eqI, eqS, inS2, truB, ixT0, ixT1, ixT2, ixT3, ixT4, ixT6, slcT, lenT, absI, intI, tupleT, listT, listRl, decide_true, decide_false, if_true, if_false, Bool.false_eq_true, reduceIte, decide_eq_true_eq, Bool.not_true, Bool.not_false, line, mI_int, mI_bool, mI_str, mI_tuple, mI_list, mB_int, mB_bool, mB_str, mB_tuple, mB_list, mS_int, mS_bool, mS_str, mS_tuple, mS_list, mT_int, mT_bool, mT_str, mT_tuple, mT_list, mN_int, mN_bool, mN_str, mN_tuple, mN_list, anyT, anyF, Nat.zero_add, Nat.reduceAdd, Nat.reduceLeDiff, true_and]
    refine ⟨by unfold inB; omega, ?_⟩
    rw [Int.toNat_natCast]
    refine forL_inv (rngD 0 (mk t W i)) (fun j σ S7 => ∃ x11, σ = [some (.tup (tabL t)), some (.int AL.1), some (.int AL.2), some (.ref fp), some (.ref sp), some (.ref tp), some (.int (i : Nat)), some (.int (mk t W i : Nat)), some (.ref q), some (.ref c9), some (.int (st t W (fu A N i) : Nat)), x11, none] ∧ (∀ b c, b ≠ tp → S6 b = some c → S7 b = some c) ∧ S7 tp = some (.lst (trL t W A N i ++ trJ (sid t W A N i) j))) (fun _ _ _ _ => trivial) ?_ ?_ ⟨_, rfl, fun b c _ e => e, by rw [kt]; simp [trJ]⟩
    · rintro j dd σ S7 NX hd ⟨x11, rfl, r1, r2⟩ hNX2
      unfold rngD at hd
      rw [List.getElem?_map, Option.map_eq_some_iff] at hd
      obtain ⟨j', hj1, rfl⟩ := hd
      have hj : j < mk t W i := by simpa using (List.getElem?_eq_some_iff.mp hj1).1
      rw [List.getElem?_range hj] at hj1
      cases hj1
      have p9 := r1 _ _ hct p2
      have hsl := sid_len (t := t) (W := W) (A := A) (N := N) (k := i)
      have sj : Sz 4 (j : Int) := szn (by omega)
      simp only [s__law_due_tree_4, wSs, wS, wT, wE, wEs, wO, wC, wI, wG, wGs, startD, List.map_cons, List.map_nil, List.length_cons, List.length_nil, List.replicate, List.cons_append, List.nil_append, List.append_nil, List.set_cons_zero, List.set_cons_succ, List.getElem?_cons_zero, List.getElem?_cons_succ, itT, wipeD, opAddI, opSubI, opMulI, opDivI, opModI, opPowI, opAddT, cmEq, cmNe, cmLt, cmLe, cmGt, cmGe, cmIn, eqI, eqS, inS2, truB, ixT0, ixT1, ixT2, ixT3, ixT4, ixT6, slcT, lenT, absI, intI, tupleT, listT, listRl, decide_true, decide_false, if_true, if_false, Bool.false_eq_true, reduceIte, decide_eq_true_eq, Bool.not_true, Bool.not_false, line, mI_int, mI_bool, mI_str, mI_tuple, mI_list, mB_int, mB_bool, mB_str, mB_tuple, mB_list, mS_int, mS_bool, mS_str, mS_tuple, mS_list, mT_int, mT_bool, mT_str, mT_tuple, mT_list, mN_int, mN_bool, mN_str, mN_tuple, mN_list, anyT, anyF, Nat.zero_add, Nat.reduceAdd, Nat.reduceLeDiff, true_and, Int.zero_add, mtyA r2]
      rw [ixL p9 (atIk (2 * j) (by omega) (getD_at (by omega)))]
      rw [ixL p9 (atIk (2 * j + 1) (by omega) (getD_at (by omega)))]
      have htl := trL_len (A := A) (N := N) h i
      rw [appL r2, List.length_append, trJ_len]
      refine ⟨s2.cm sj, s2.cm sj, by have := Mi.line; omega, hNX2 _ _ ⟨_, rfl, fun b c hb e => by rw [Sto.upd_ne hb]; exact r1 b c hb e, ?_⟩⟩
      rw [Sto.upd_same, trJ_succ, List.append_assoc]
    · rintro σ S7 ⟨x11, rfl, r1, r2⟩
      have hlen : (rngD 0 (mk t W i)).length = mk t W i := by simp [rngD]
      rw [hlen] at r2
      exact hNX _ S7 (fun b c h1 h2 e => r1 b c h1 (p1 b c h2 e)) r2
theorem due_tree_ok {L : Nat} (hk : 5 < k) (h : Tab t W) (hAL : A + L ≤ 64) (hQ : Q (.tup (trL t W A (A + L) (A + L))) S) : Γ k "_law_due_tree" [.tup (tabL t), .int (A : Nat), .int (L : Nat)] S Q X := by
  cases k with
  | zero => omega
  | succ k =>
  refine gam (np := 3) (nn := 13) (b := b__law_due_tree) rfl rfl ?_
  simp only [b__law_due_tree, wSs, wS, wT, wE, wEs, wO, wC, wI, wG, wGs, startD, List.map_cons, List.map_nil, List.length_cons, List.length_nil, List.replicate, List.cons_append, List.nil_append, List.append_nil, List.set_cons_zero, List.set_cons_succ, List.getElem?_cons_zero, List.getElem?_cons_succ, itT, wipeD, opAddI, opSubI, opMulI, opDivI, opModI, opPowI, opAddT, cmEq, cmNe, cmLt, cmLe, cmGt, cmGe, cmIn, eqI, eqS, inS2, truB, ixT0, ixT1, ixT2, ixT3, ixT4, ixT6, slcT, lenT, absI, intI, tupleT, listT, listRl, decide_true, decide_false, if_true, if_false, Bool.false_eq_true, reduceIte, decide_eq_true_eq, Bool.not_true, Bool.not_false, line, mI_int, mI_bool, mI_str, mI_tuple, mI_list, mB_int, mB_bool, mB_str, mB_tuple, mB_list, mS_int, mS_bool, mS_str, mS_tuple, mS_list, mT_int, mT_bool, mT_str, mT_tuple, mT_list, mN_int, mN_bool, mN_str, mN_tuple, mN_list, anyT, anyF, Nat.zero_add, Nat.reduceAdd, Nat.reduceLeDiff, true_and]
  refine llevels_ok (by omega) h hAL fun fp fl S1 l1 hf hF => ?_
  generalize hN : A + L = N at hAL hF hQ ⊢
  have hAN : A ≤ N := by omega
  intro sp hsp
  have hfs : fp ≠ sp := Sto.ne_of hf hsp
  rw [itL (l := fl) (by rw [Sto.upd_ne hfs]; exact hf)]
  refine forL_inv fl (fun i σ S2 => ∃ x7 x8, σ = [some (.tup (tabL t)), some (.int (A : Nat)), some (.int (L : Nat)), some (.ref fp), some (.ref sp), none, none, x7, x8, none, none, none, none] ∧ (∀ b c, b ≠ sp → S1 b = some c → S2 b = some c) ∧ S2 sp = some (.lst (stL t W (i + 1)))) (fun _ σ S2 hI => by obtain ⟨_, _, _, g1, _⟩ := hI; exact g1 fp _ hfs hf) ?_ ?_ ⟨_, _, rfl, fun b c hb e => by rw [Sto.upd_ne hb]; exact e, Sto.upd_same⟩
  · rintro i dd σ S2 NX hd' ⟨x7, x8, rfl, g1, g2⟩ hNX
    have hi : i < N := by
      have := (List.getElem?_eq_some_iff.mp hd').1
      rw [hF.1] at this
      exact this
    obtain ⟨q, q1, q2, q3⟩ := hF.2 i hi
    rw [hd'] at q2
    cases q2
    have kl : atI (stL t W (i + 1)) (-1) = some (.int (st t W i : Nat)) := by rw [stL_succ]; exact at_last
    simp only [s__law_due_tree_1, wSs, wS, wT, wE, wEs, wO, wC, wI, wG, wGs, startD, List.map_cons, List.map_nil, List.length_cons, List.length_nil, List.replicate, List.cons_append, List.nil_append, List.append_nil, List.set_cons_zero, List.set_cons_succ, List.getElem?_cons_zero, List.getElem?_cons_succ, itT, wipeD, opAddI, opSubI, opMulI, opDivI, opModI, opPowI, opAddT, cmEq, cmNe, cmLt, cmLe, cmGt, cmGe, cmIn, eqI, eqS, inS2, truB, ixT0, ixT1, ixT2, ixT3, ixT4, ixT6, slcT, lenT, absI, intI, tupleT, listT, listRl, decide_true, decide_false, if_true, if_false, Bool.false_eq_true, reduceIte, decide_eq_true_eq, Bool.not_true, Bool.not_false, line, mI_int, mI_bool, mI_str, mI_tuple, mI_list, mB_int, mB_bool, mB_str, mB_tuple, mB_list, mS_int, mS_bool, mS_str, mS_tuple, mS_list, mT_int, mT_bool, mT_str, mT_tuple, mT_list, mN_int, mN_bool, mN_str, mN_tuple, mN_list, anyT, anyF, Nat.zero_add, Nat.reduceAdd, Nat.reduceLeDiff, true_and, mtyA g2]
    rw [ixL g2 kl]
    simp only [opAddI, opSubI, opMulI, opDivI, opModI, opPowI, opAddT, cmEq, cmNe, cmLt, cmLe, cmGt, cmGe, cmIn, eqI, eqS, inS2, truB, ixT0, ixT1, ixT2, ixT3, ixT4, ixT6, slcT, lenT, absI, intI, tupleT, listT, listRl, decide_true, decide_false, if_true, if_false, Bool.false_eq_true, reduceIte, decide_eq_true_eq, Bool.not_true, Bool.not_false, line, mI_int, mI_bool, mI_str, mI_tuple, mI_list, mB_int, mB_bool, mB_str, mB_tuple, mB_list, mS_int, mS_bool, mS_str, mS_tuple, mS_list, mT_int, mT_bool, mT_str, mT_tuple, mT_list, mN_int, mN_bool, mN_str, mN_tuple, mN_list, anyT, anyF, Nat.zero_add, Nat.reduceAdd, Nat.reduceLeDiff, true_and]
    rw [appL g2, stL_len]
    refine ⟨by have := Mi.line; omega, hNX _ _ ⟨_, _, rfl, fun b c hb e => by rw [Sto.upd_ne hb]; exact g1 b c hb e, ?_⟩⟩
    rw [Sto.upd_same, stL_succ (m := i + 1)]
    have e : ((st t W i : Nat) : Int) + ((mk t W i : Nat) : Int) = ((st t W (i + 1) : Nat) : Int) := by show _ = ((st t W i + mk t W i : Nat) : Int); omega
    rw [e]
  · rintro σ S2 ⟨x7, x8, rfl, g1, g2⟩
    rw [hF.1] at g2
    simp only [wSs, wS, wT, wE, wEs, wO, wC, wI, wG, wGs, startD, List.map_cons, List.map_nil, List.length_cons, List.length_nil, List.replicate, List.cons_append, List.nil_append, List.append_nil, List.set_cons_zero, List.set_cons_succ, List.getElem?_cons_zero, List.getElem?_cons_succ, itT, wipeD, opAddI, opSubI, opMulI, opDivI, opModI, opPowI, opAddT, cmEq, cmNe, cmLt, cmLe, cmGt, cmGe, cmIn, eqI, eqS, inS2, truB, ixT0, ixT1, ixT2, ixT3, ixT4, ixT6, slcT, lenT, absI, intI, tupleT, listT, listRl, decide_true, decide_false, if_true, if_false, Bool.false_eq_true, reduceIte, decide_eq_true_eq, Bool.not_true, Bool.not_false, line, mI_int, mI_bool, mI_str, mI_tuple, mI_list, mB_int, mB_bool, mB_str, mB_tuple, mB_list, mS_int, mS_bool, mS_str, mS_tuple, mS_list, mT_int, mT_bool, mT_str, mT_tuple, mT_list, mN_int, mN_bool, mN_str, mN_tuple, mN_list, anyT, anyF, Nat.zero_add, Nat.reduceAdd, Nat.reduceLeDiff, true_and]
    intro tp htp
    have l2 : S1.le S2 := fun b c e => g1 b c (Sto.ne_of e hsp) e
    have hF2 : Fd S2 fp t W N fl := hF.mono fun b c _ e => l2 b c e
    have hf2 := l2 _ _ hf
    have hft : fp ≠ tp := Sto.ne_of hf2 htp
    have hst : sp ≠ tp := Sto.ne_of g2 htp
    rw [lenL (l := fl) (by rw [Sto.upd_ne hft]; exact hf2), hF2.1]
    refine ⟨by unfold inB; omega, ?_⟩
    rw [Int.toNat_natCast]
    refine forL_inv (rngD 0 N) (fun i σ S3 => ∃ x6 x7 x8 x9 x10 x11, σ = [some (.tup (tabL t)), some (.int (A : Nat)), some (.int (L : Nat)), some (.ref fp), some (.ref sp), some (.ref tp), x6, x7, x8, x9, x10, x11, none] ∧ (∀ b c, b ≠ tp → S2 b = some c → S3 b = some c) ∧ S3 tp = some (.lst (trL t W A N i))) (fun _ _ _ _ => trivial) ?_ ?_ ⟨_, _, _, _, _, _, rfl, fun b c hb e => by rw [Sto.upd_ne hb]; exact e, Sto.upd_same⟩
    · rintro i dd σ S3 NX hd' ⟨x6, x7, x8, x9, x10, x11, rfl, k1, k2⟩ hNX
      unfold rngD at hd'
      rw [List.getElem?_map, Option.map_eq_some_iff] at hd'
      obtain ⟨j', hj1, rfl⟩ := hd'
      have hi : i < N := by simpa using (List.getElem?_eq_some_iff.mp hj1).1
      rw [List.getElem?_range hi] at hj1
      cases hj1
      obtain ⟨q, q1, q2, q3⟩ := hF2.2 i hi
      have hm := mk_le (k := i) h
      have hl := h.len
      have hto := toL_len (t := t) i
      have hqt : q ≠ tp := Sto.ne_of q3 htp
      have m1 : S3 fp = some (.lst fl) := k1 _ _ hft hf2
      have m2 : S3 sp = some (.lst (stL t W (N + 1))) := k1 _ _ hst g2
      have m3 : S3 q = some (.lst (toL t i)) := k1 _ _ hqt q3
      simp only [s__law_due_tree_5, wSs, wS, wT, wE, wEs, wO, wC, wI, wG, wGs, startD, List.map_cons, List.map_nil, List.length_cons, List.length_nil, List.replicate, List.cons_append, List.nil_append, List.append_nil, List.set_cons_zero, List.set_cons_succ, List.getElem?_cons_zero, List.getElem?_cons_succ, itT, wipeD, opAddI, opSubI, opMulI, opDivI, opModI, opPowI, opAddT, cmEq, cmNe, cmLt, cmLe, cmGt, cmGe, cmIn, eqI, eqS, inS2, truB, ixT0, ixT1, ixT2, ixT3, ixT4, ixT6, slcT, lenT, absI, intI, tupleT, listT, listRl, decide_true, decide_false, if_true, if_false, Bool.false_eq_true, reduceIte, decide_eq_true_eq, Bool.not_true, Bool.not_false, line, mI_int, mI_bool, mI_str, mI_tuple, mI_list, mB_int, mB_bool, mB_str, mB_tuple, mB_list, mS_int, mS_bool, mS_str, mS_tuple, mS_list, mT_int, mT_bool, mT_str, mT_tuple, mT_list, mN_int, mN_bool, mN_str, mN_tuple, mN_list, anyT, anyF, Nat.zero_add, Nat.reduceAdd, Nat.reduceLeDiff, true_and, Int.zero_add]
      rw [ixL m1 (atIk i rfl q2)]
      simp only [wSs, wS, wT, wE, wEs, wO, wC, wI, wG, wGs, startD, List.map_cons, List.map_nil, List.length_cons, List.length_nil, List.replicate, List.cons_append, List.nil_append, List.append_nil, List.set_cons_zero, List.set_cons_succ, List.getElem?_cons_zero, List.getElem?_cons_succ, itT, wipeD, opAddI, opSubI, opMulI, opDivI, opModI, opPowI, opAddT, cmEq, cmNe, cmLt, cmLe, cmGt, cmGe, cmIn, eqI, eqS, inS2, truB, ixT0, ixT1, ixT2, ixT3, ixT4, ixT6, slcT, lenT, absI, intI, tupleT, listT, listRl, decide_true, decide_false, if_true, if_false, Bool.false_eq_true, reduceIte, decide_eq_true_eq, Bool.not_true, Bool.not_false, line, mI_int, mI_bool, mI_str, mI_tuple, mI_list, mB_int, mB_bool, mB_str, mB_tuple, mB_list, mS_int, mS_bool, mS_str, mS_tuple, mS_list, mT_int, mT_bool, mT_str, mT_tuple, mT_list, mN_int, mN_bool, mN_str, mN_tuple, mN_list, anyT, anyF, Nat.zero_add, Nat.reduceAdd, Nat.reduceLeDiff, true_and]
      rw [itL m3]
      refine ⟨by omega, cmpL_pure gTell m3 ?_ ?_⟩
      · intro dd hd PP hPP
        simp only [e__law_due_tree_2, wSs, wS, wT, wE, wEs, wO, wC, wI, wG, wGs, startD, List.map_cons, List.map_nil, List.length_cons, List.length_nil, List.replicate, List.cons_append, List.nil_append, List.append_nil, List.set_cons_zero, List.set_cons_succ, List.getElem?_cons_zero, List.getElem?_cons_succ, itT, wipeD, opAddI, opSubI, opMulI, opDivI, opModI, opPowI, opAddT, cmEq, cmNe, cmLt, cmLe, cmGt, cmGe, cmIn, eqI, eqS, inS2, truB, ixT0, ixT1, ixT2, ixT3, ixT4, ixT6, slcT, lenT, absI, intI, tupleT, listT, listRl, decide_true, decide_false, if_true, if_false, Bool.false_eq_true, reduceIte, decide_eq_true_eq, Bool.not_true, Bool.not_false, line, mI_int, mI_bool, mI_str, mI_tuple, mI_list, mB_int, mB_bool, mB_str, mB_tuple, mB_list, mS_int, mS_bool, mS_str, mS_tuple, mS_list, mT_int, mT_bool, mT_str, mT_tuple, mT_list, mN_int, mN_bool, mN_str, mN_tuple, mN_list, anyT, anyF, Nat.zero_add, Nat.reduceAdd, Nat.reduceLeDiff, true_and]
        exact hPP
      rw [gTell_map]
      intro c9 hc9
      have hct : c9 ≠ tp := (Sto.ne_of k2 hc9).symm
      have hqc : q ≠ c9 := Sto.ne_of m3 hc9
      have n1 : (S3.upd c9 (.lst ((toL t i).map tel2))) fp = some (.lst fl) := Sto.le_new hc9 _ _ m1
      have n2 : (S3.upd c9 (.lst ((toL t i).map tel2))) sp = some (.lst (stL t W (N + 1))) := Sto.le_new hc9 _ _ m2
      have n3 : (S3.upd c9 (.lst ((toL t i).map tel2))) q = some (.lst (toL t i)) := Sto.le_new hc9 _ _ m3
      have n4 : (S3.upd c9 (.lst ((toL t i).map tel2))) tp = some (.lst (trL t W A N i)) := Sto.le_new hc9 _ _ k2
      have n9 : (S3.upd c9 (.lst ((toL t i).map tel2))) c9 = some (.lst ((toL t i).map tel2)) := Sto.upd_same
      have nl : ∀ b c, S3 b = some c → (S3.upd c9 (.lst ((toL t i).map tel2))) b = some c := Sto.le_new hc9
      generalize S3.upd c9 (.lst ((toL t i).map tel2)) = S4 at n1 n2 n3 n4 n9 nl ⊢
      have htail := fun (bk' : En → Sto → Prop) (x11 : Option D) => ltail_ok (k := k) (fp := fp) (sp := sp) (x11 := x11) (AL := ((A : Int), (L : Int))) (N' := { nx := NX, rt := fun d S' => ∃ S0 : Sto, S0.le S' ∧ Q d S0, bk := bk', ct := NX, xr := fun x _ S' => ∃ S0 : Sto, S0.le S' ∧ X x S0 }) h hi hAL n3 n9 n4 hct hqt hqc fun y11 S5 w1 w2 => hNX _ _ ⟨_, _, _, _, _, y11, rfl, fun b c hb e => w1 b c hb (fun z => by rw [z] at e; have e2 := k1 _ _ hct e; rw [hc9] at e2; cases e2) (nl b c (k1 b c hb e)), w2⟩
      simp only [ltail, wSs, wS, wT, wE, wEs, wO, wC, wI, wG, wGs, startD, List.map_cons, List.map_nil, List.length_cons, List.length_nil, List.replicate, List.cons_append, List.nil_append, List.append_nil, List.set_cons_zero, List.set_cons_succ, List.getElem?_cons_zero, List.getElem?_cons_succ, itT, wipeD, opAddI, opSubI, opMulI, opDivI, opModI, opPowI, opAddT, cmEq, cmNe, cmLt, cmLe, cmGt, cmGe, cmIn, eqI, eqS, inS2, truB, ixT0, ixT1, ixT2, ixT3, ixT4, ixT6, slcT, lenT, absI, intI, tupleT, listT, listRl, decide_true, decide_false, if_true, if_false, Bool.false_eq_true, reduceIte, decide_eq_true_eq, Bool.not_true, Bool.not_false, line, mI_int, mI_bool, mI_str, mI_tuple, mI_list, mB_int, mB_bool, mB_str, mB_tuple, mB_list, mS_int, mS_bool, mS_str, mS_tuple, mS_list, mT_int, mT_bool, mT_str, mT_tuple, mT_list, mN_int, mN_bool, mN_str, mN_tuple, mN_list, anyT, anyF, Nat.zero_add, Nat.reduceAdd, Nat.reduceLeDiff, true_and] at htail
      rw [ixL n2 (atIk (i + 1) (by omega) (stL_get (by omega)))]
      rw [lenL n1, hF2.1, eqI]
      by_cases hc : i + 1 < N
      · have e8 : fu A N i = i + 1 := by unfold fu; rw [if_pos hc]
        rw [if_neg (by simp; omega)]
        simp only [e8] at htail
        exact htail _ _
      · have e8 : fu A N i = A := by unfold fu; rw [if_neg hc]
        rw [if_pos (decide_eq_true (by omega))]
        rw [ixL n2 (atIk A rfl (stL_get (by omega)))]
        simp only [e8] at htail
        exact htail _ _
    · rintro σ S3 ⟨x6, x7, x8, x9, x10, x11, rfl, k1, k2⟩
      have hlen : (rngD 0 N).length = N := by simp [rngD]
      rw [hlen] at k2
      simp only [wSs, wS, wT, wE, wEs, wO, wC, wI, wG, wGs, startD, List.map_cons, List.map_nil, List.length_cons, List.length_nil, List.replicate, List.cons_append, List.nil_append, List.append_nil, List.set_cons_zero, List.set_cons_succ, List.getElem?_cons_zero, List.getElem?_cons_succ, itT, wipeD, opAddI, opSubI, opMulI, opDivI, opModI, opPowI, opAddT, cmEq, cmNe, cmLt, cmLe, cmGt, cmGe, cmIn, eqI, eqS, inS2, truB, ixT0, ixT1, ixT2, ixT3, ixT4, ixT6, slcT, lenT, absI, intI, tupleT, listT, listRl, decide_true, decide_false, if_true, if_false, Bool.false_eq_true, reduceIte, decide_eq_true_eq, Bool.not_true, Bool.not_false, line, mI_int, mI_bool, mI_str, mI_tuple, mI_list, mB_int, mB_bool, mB_str, mB_tuple, mB_list, mS_int, mS_bool, mS_str, mS_tuple, mS_list, mT_int, mT_bool, mT_str, mT_tuple, mT_list, mN_int, mN_bool, mN_str, mN_tuple, mN_list, anyT, anyF, Nat.zero_add, Nat.reduceAdd, Nat.reduceLeDiff, true_and]
      rw [tupleL k2]
      refine ⟨S, fun b c e => ?_, hQ⟩
      have e1 := l2 _ _ (l1 _ _ e)
      exact k1 b c (Sto.ne_of e1 htp) e1
end K50
namespace K50
open PySem PySem.Spec PyProof.Rows L2 Mi
variable {n d s o i j T p : Nat} {t : List Te} {W : Nat} {A N L : Nat}
def SE (f : Nat → Rat) : Nat → Rat
  | 0 => 0
  | m + 1 => SE f m + f m
abbrev hp (m : Nat) : Rat := (1 / 2 : Rat) ^ m
theorem hp_succ (m : Nat) : hp (m + 1) = hp m * (1 / 2) := Rat.pow_succ ..
theorem hp_zero : hp 0 = 1 := Rat.pow_zero ..
theorem hp_add (a : Nat) : ∀ b, hp (a + b) = hp a * hp b
  | 0 => by rw [hp_zero, Nat.add_zero, Rat.mul_one]
  | b + 1 => by rw [← Nat.add_assoc, hp_succ, hp_add a b, hp_succ, Rat.mul_assoc]
theorem cast_succ (m : Nat) : ((m + 1 : Nat) : Rat) = (m : Rat) + 1 := Rat.natCast_add m 1
section
variable {ρ δ μ : Nat → Rat} (hr : ∀ k, ρ (k + 1) = 2 * ρ k - δ k) (hm : ∀ k, μ (k + 1) = 2 * (μ k - ρ k))
include hr in
theorem rho_sum (k : Nat) : ∀ m, ρ k = SE (fun i => δ (k + i) * hp (i + 1)) m + hp m * ρ (k + m)
  | 0 => by rw [hp_zero]; simp [SE]; grind
  | m + 1 => by
    have ih := rho_sum k m
    have e := hr (k + m)
    show ρ k = SE _ m + δ (k + m) * hp (m + 1) + hp (m + 1) * ρ (k + m + 1)
    rw [hp_succ, e]
    grind
include hr hm in
theorem mu_sum (k : Nat) : ∀ m, μ k = SE (fun i => ((i + 1 : Nat) : Rat) * δ (k + i) * hp (i + 1)) m + hp m * ((m : Rat) * ρ (k + m) + μ (k + m))
  | 0 => by
    rw [hp_zero]
    have e : ((0 : Nat) : Rat) = 0 := rfl
    rw [e]
    simp [SE]
    grind
  | m + 1 => by
    have ih := mu_sum k m
    have e := hr (k + m)
    have e2 := hm (k + m)
    show μ k = SE _ m + ((m + 1 : Nat) : Rat) * δ (k + m) * hp (m + 1) + hp (m + 1) * (((m + 1 : Nat) : Rat) * ρ (k + m + 1) + μ (k + m + 1))
    rw [hp_succ, e, e2, cast_succ]
    grind
theorem per_sum (s : Nat) (r more : Rat) : ∀ m, SE (fun j => ((((s + j + 1 : Nat) : Rat) / r + more) * δ (s + j)) * hp (s + j + 1)) m =
    hp s * (((s : Rat) * SE (fun i => δ (s + i) * hp (i + 1)) m + SE (fun i => ((i + 1 : Nat) : Rat) * δ (s + i) * hp (i + 1)) m) / r + more * SE (fun i => δ (s + i) * hp (i + 1)) m)
  | 0 => by simp [SE]; grind
  | m + 1 => by
    have ih := per_sum s r more m
    show SE _ m + ((((s + m + 1 : Nat) : Rat) / r + more) * δ (s + m)) * hp (s + m + 1) = _
    rw [ih]
    simp only [SE]
    rw [show s + m + 1 = s + (m + 1) by omega, hp_add s (m + 1), Rat.natCast_add s (m + 1)]
    generalize SE (fun i => δ (s + i) * hp (i + 1)) m = u
    generalize SE (fun i => ((i + 1 : Nat) : Rat) * δ (s + i) * hp (i + 1)) m = v
    generalize hp s = hs
    generalize hp (m + 1) = hm1
    generalize δ (s + m) = dd
    generalize ((m + 1 : Nat) : Rat) = mm
    generalize (s : Rat) = ss
    generalize more = mo
    grind
end
end K50
namespace K50
open PySem PySem.Spec PyProof.Rows L2 Mi
variable {n d s o i j T p : Nat} {t : List Te} {W : Nat} {A N L : Nat}
theorem hp_pos (m : Nat) : 0 < hp m := Rat.pow_pos (by decide +kernel)
theorem hp_ne (m : Nat) : hp m ≠ 0 := fun z => by have := hp_pos m; rw [z] at this; exact absurd this (by decide +kernel)
theorem hp_lt (h : 1 ≤ p) : hp p < 1 := by
  obtain ⟨m, rfl⟩ : ∃ m, p = m + 1 := ⟨p - 1, by omega⟩
  induction m with
  | zero => rw [hp_succ, hp_zero]; decide +kernel
  | succ m ih =>
    have h1 := ih (by omega)
    have h2 := hp_pos (m + 1)
    rw [hp_succ (m + 1)]
    grind
def muF (ρ : Nat → Rat) (x : Rat) : Nat → Rat
  | 0 => x
  | k + 1 => 2 * (muF ρ x k - ρ k)
def ahd (δ : Nat → Rat) (s : Nat) : Rat := SE (fun k => ((k + 1 : Nat) : Rat) * δ k * hp (k + 1)) s
def prd (δ : Nat → Rat) (s p : Nat) (r more : Rat) : Rat := SE (fun j => ((((s + j + 1 : Nat) : Rat) / r + more) * δ (s + j)) * hp (s + j + 1)) p
theorem SE_congr {f g : Nat → Rat} : ∀ m, (∀ i, i < m → f i = g i) → SE f m = SE g m
  | 0, _ => rfl
  | m + 1, h => by
    show SE f m + f m = SE g m + g m
    rw [SE_congr m fun i hi => h i (by omega), h m (by omega)]
section
variable {ρ δ : Nat → Rat} (hr : ∀ k, ρ (k + 1) = 2 * ρ k - δ k)
include hr in
theorem mu_at {x : Rat} (s : Nat) : x = ahd δ s + hp s * ((s : Rat) * ρ s + muF ρ x s) := by
  have h := mu_sum (μ := muF ρ x) hr (fun k => rfl) 0 s
  rw [Nat.zero_add] at h
  have e : SE (fun i => ((i + 1 : Nat) : Rat) * δ (0 + i) * hp (i + 1)) s = ahd δ s := SE_congr s fun i _ => by rw [Nat.zero_add]
  rw [e] at h
  exact h
include hr in
theorem mu_per {x r more : Rat} (s p : Nat) (h1 : ρ (s + p) = ρ s) (h2 : r = 1 - hp p) (h3 : r ≠ 0) (h4 : more = (p : Rat) * hp p / (r * r)) (hx : x = ahd δ s + prd δ s p r more) : muF ρ x (s + p) = muF ρ x s := by
  have e1 := mu_at hr (x := x) s
  have e2 := rho_sum hr s p
  have e3 := mu_sum (μ := muF ρ x) hr (fun k => rfl) s p
  have e4 : prd δ s p r more = _ := per_sum (δ := δ) s r more p
  rw [h1] at e2 e3
  rw [e4] at hx
  have n1 := hp_ne s
  have n2 := hp_ne p
  generalize SE (fun i => δ (s + i) * hp (i + 1)) p = U at *
  generalize SE (fun i => ((i + 1 : Nat) : Rat) * δ (s + i) * hp (i + 1)) p = V at *
  generalize muF ρ x (s + p) = m2 at *
  generalize muF ρ x s = m1 at *
  generalize ρ s = rs' at *
  generalize ahd δ s = ah at *
  generalize hp s = hs at *
  generalize hp p = hpp at *
  generalize (s : Rat) = ss at *
  generalize (p : Rat) = pp at *
  clear hr e4 h1
  have f1 : U = rs' * r := by grind
  have f2 : ss * rs' + m1 = (ss * U + V) / r + more * U := by
    have : hs * (ss * rs' + m1) = hs * ((ss * U + V) / r + more * U) := by grind
    have h5 := congrArg (fun z => hs⁻¹ * z) this
    simp only [← Rat.mul_assoc, Rat.inv_mul_cancel _ n1, Rat.one_mul] at h5
    exact h5
  have f3 : m1 * r = V + pp * hpp * rs' := by
    subst h4
    subst f1
    have : (ss * rs' + m1) * r = ((ss * (rs' * r) + V) / r + pp * hpp / (r * r) * (rs' * r)) * r := by rw [f2]
    have g1 : ((ss * (rs' * r) + V) / r + pp * hpp / (r * r) * (rs' * r)) * r = ss * rs' * r + V + pp * hpp * rs' := by grind
    grind
  have f4 : hpp * m2 = hpp * m1 := by grind
  have h5 := congrArg (fun z => hpp⁻¹ * z) f4
  simp only [← Rat.mul_assoc, Rat.inv_mul_cancel _ n2, Rat.one_mul] at h5
  exact h5
theorem mu_shift {x : Rat} {s p : Nat} (h1 : ∀ i, s ≤ i → ρ (i + p) = ρ i) (h2 : muF ρ x (s + p) = muF ρ x s) : ∀ k, s ≤ k → muF ρ x (k + p) = muF ρ x k := by
  intro k hk
  obtain ⟨c, rfl⟩ : ∃ c, k = s + c := ⟨k - s, by omega⟩
  clear hk
  induction c with
  | zero => exact h2
  | succ c ih =>
    rw [show s + (c + 1) + p = (s + c + p) + 1 by omega, show s + (c + 1) = (s + c) + 1 by omega]
    show 2 * (muF ρ x (s + c + p) - ρ (s + c + p)) = 2 * (muF ρ x (s + c) - ρ (s + c))
    rw [ih, h1 (s + c) (by omega)]
theorem mu_many {x : Rat} {s p : Nat} (h : ∀ k, s ≤ k → muF ρ x (k + p) = muF ρ x k) : ∀ c k, s ≤ k → muF ρ x (k + p * c) = muF ρ x k
  | 0, k, _ => rfl
  | c + 1, k, hk => by
    rw [Nat.mul_succ, ← Nat.add_assoc, h _ (by omega)]
    exact mu_many h c k hk
include hr in
theorem mu_fin {x : Rat} {s : Nat} (h1 : ∀ i, s ≤ i → ρ i = 0) (hx : x = ahd δ s) : ∀ k, s ≤ k → muF ρ x k = 0 := by
  have h0 : muF ρ x s = 0 := by
    have e := mu_at hr (x := x) s
    rw [h1 s (Nat.le_refl _), ← hx] at e
    have n := hp_ne s
    generalize muF ρ x s = m at *
    generalize hp s = hs at *
    have e2 : hs * m = 0 := by grind
    have h5 := congrArg (fun z => hs⁻¹ * z) e2
    simp only [← Rat.mul_assoc, Rat.inv_mul_cancel _ n, Rat.one_mul, Rat.mul_zero] at h5
    exact h5
  intro k hk
  obtain ⟨c, rfl⟩ : ∃ c, k = s + c := ⟨k - s, by omega⟩
  clear hk
  induction c with
  | zero => exact h0
  | succ c ih =>
    show 2 * (muF ρ x (s + c) - ρ (s + c)) = 0
    rw [ih, h1 (s + c) (by omega)]
    decide +kernel
end
theorem lvl_sum {m M : Nat → Rat} (h : ∀ k, M (k + 1) = 2 * (M k - m k)) (k : Nat) : ∀ n, M k = SE (fun i => m (k + i) * hp i) n + hp n * M (k + n)
  | 0 => by rw [hp_zero]; simp [SE]; grind
  | n + 1 => by
    have ih := lvl_sum h k n
    have e := h (k + n)
    show M k = SE _ n + m (k + n) * hp n + hp (n + 1) * M (k + n + 1)
    rw [hp_succ, e]
    grind
theorem SE_mul {f : Nat → Rat} {c : Rat} : ∀ n, SE (fun i => f i * c) n = SE f n * c
  | 0 => by simp [SE]
  | n + 1 => by
    show SE (fun i => f i * c) n + f n * c = (SE f n + f n) * c
    rw [SE_mul n, Rat.add_mul]
theorem lvl_end {m M : Nat → Rat} (h : ∀ k, M (k + 1) = 2 * (M k - m k)) (hL : 1 ≤ L) (hM : M (A + L) = M A) :
    SE (fun k => m k * hp k) A + SE (fun i => m (A + i) * hp (A + i)) L / (1 - hp L) = M 0 := by
  have e1 := lvl_sum h 0 A
  have e2 := lvl_sum h A L
  have e3 : SE (fun i => m (0 + i) * hp i) A = SE (fun k => m k * hp k) A := SE_congr A fun i _ => by rw [Nat.zero_add]
  have e4 : SE (fun i => m (A + i) * hp (A + i)) L = SE (fun i => m (A + i) * hp i) L * hp A := by
    rw [← SE_mul]
    refine SE_congr L fun i _ => ?_
    rw [hp_add, Rat.mul_assoc, Rat.mul_comm (hp A)]
  rw [e3, Nat.zero_add] at e1
  rw [hM] at e2
  have n1 : 1 - hp L ≠ 0 := fun z => by
    have := hp_lt hL
    grind
  rw [e4, e1]
  generalize SE (fun i => m (A + i) * hp i) L = V at *
  generalize M A = MA at *
  generalize hp L = hl at *
  generalize hp A = ha at *
  generalize SE (fun k => m k * hp k) A = F at *
  have : V = MA * (1 - hl) := by grind
  subst this
  grind
end K50
namespace K50
open PySem PySem.Spec PyProof.Rows L2 Mi
variable {n d s o i j T p : Nat} {t : List Te} {W : Nat}
def dl (y : Te) (k : Nat) : Rat := ((dg y.2.1 y.2.2 k : Nat) : Rat)
theorem rho_div {y : Te} (k : Nat) : rho y k = ((ry y k : Nat) : Rat) / ((y.2.2 : Nat) : Rat) := by
  unfold rho
  rw [Rat.mkRat_eq_div]
  rfl
theorem rho_rec (h : Tab t W) {y : Te} (hy : y ∈ t) (k : Nat) : rho y (k + 1) = 2 * rho y k - dl y k := by
  have hp := h.dpos hy
  have h1 := rs_step (n := y.2.1) (i := k) hp
  have hd : ((y.2.2 : Nat) : Rat) ≠ 0 := fun z => by
    have := Rat.natCast_pos.mpr hp
    rw [z] at this
    exact absurd this (by decide +kernel)
  have h2 : (2 : Rat) * ((ry y k : Nat) : Rat) = ((y.2.2 : Nat) : Rat) * dl y k + ((ry y (k + 1) : Nat) : Rat) := by
    have e : ((2 * rs y.2.1 y.2.2 k : Nat) : Rat) = ((y.2.2 * dg y.2.1 y.2.2 k + rs y.2.1 y.2.2 (k + 1) : Nat) : Rat) := by rw [h1]
    rw [Rat.natCast_mul, Rat.natCast_add, Rat.natCast_mul] at e
    exact e
  rw [rho_div, rho_div]
  generalize ((ry y k : Nat) : Rat) = a at *
  generalize ((ry y (k + 1) : Nat) : Rat) = b at *
  generalize ((y.2.2 : Nat) : Rat) = c at *
  generalize dl y k = e at *
  grind
noncomputable def sY (y : Te) : Nat := sOf y.2.2
noncomputable def pY (y : Te) : Nat := pOf y.2.1 y.2.2
abbrev rst (p : Nat) : Rat := 1 + -(hp p)
abbrev mor (p : Nat) : Rat := (p : Rat) * hp p / (rst p * rst p)
def meanF (δ : Nat → Rat) (s p : Nat) : Rat := ahd δ s + if p = 0 then 0 else prd δ s p (rst p) (mor p)
noncomputable def mean1 (y : Te) : Rat := meanF (dl y) (sY y) (pY y)
noncomputable def muY (y : Te) (k : Nat) : Rat := muF (rho y) (mean1 y) k
theorem sp_le (h : spA t + spL t ≤ 64) {y : Te} (hy : y ∈ t) : sY y + pY y ≤ 64 ∧ sY y ≤ spA t ∧ (pY y ≠ 0 → pY y ∣ spL t) := by
  have h1 : (sp y).1 + (sp y).2 ≤ 64 := Classical.byContradiction fun z => by have := sp_big hy (by omega); omega
  obtain ⟨_, _, _, h4⟩ := spanF_ok (t.map sp) (0, 1) (by decide)
  obtain ⟨h5, h6⟩ := h4 (sp y) (List.mem_map_of_mem hy)
  exact ⟨h1, h5, h6⟩
theorem binY (h : spA t + spL t ≤ 64) {y : Te} (hy : y ∈ t) : Bin y.2.1 y.2.2 (sOf y.2.2) (oOf y.2.2) (pY y) := by
  have := (sp_le h hy).1
  exact pOf_is (fun z => by unfold pY at this; omega)
theorem rho_zero_of {y : Te} {k : Nat} (h : ry y k = 0) : rho y k = 0 := by
  unfold rho
  rw [h]
  exact Rat.zero_mkRat _
theorem mu_end (h : Tab t W) (hAL : spA t + spL t ≤ 64) {y : Te} (hy : y ∈ t) : muY y (spA t + spL t) = muY y (spA t) := by
  obtain ⟨h1, h2, h3⟩ := sp_le hAL hy
  have hb := binY hAL hy
  have f := fc (h.el y hy).1 (h.el y hy).2.1
  have hr := rho_rec h hy
  unfold muY
  rcases hb with ⟨ho, hp0⟩ | ⟨ho, hF⟩
  · have hz : ∀ i, sY y ≤ i → rho y i = 0 := fun i hi => by
      refine rho_zero_of ?_
      rw [ho] at f
      exact rs_fin f hi
    have hx : mean1 y = ahd (dl y) (sY y) := by
      unfold mean1 meanF
      rw [if_pos hp0]
      exact Rat.add_zero _
    rw [mu_fin hr hz hx _ (by omega), mu_fin hr hz hx _ h2]
  · have hp1 := hF.1
    have hp0 : pY y ≠ 0 := by omega
    have hper : ∀ i, sY y ≤ i → rho y (i + pY y) = rho y i := fun i hi => by
      unfold rho ry
      rw [rs_per hF.2.1 i hi]
    have hx : mean1 y = ahd (dl y) (sY y) + prd (dl y) (sY y) (pY y) (rst (pY y)) (mor (pY y)) := by
      unfold mean1 meanF
      rw [if_neg hp0]
    have hl := hp_lt hp1
    have hne : rst (pY y) ≠ 0 := fun z => by grind
    have h5 := mu_per hr (sY y) (pY y) (hper _ (Nat.le_refl _)) (show rst (pY y) = 1 - hp (pY y) by grind) hne rfl hx
    obtain ⟨c, hc⟩ := h3 hp0
    rw [hc]
    exact mu_many (mu_shift hper h5) c (spA t) h2
theorem sum_rec (f g : Te → Nat → Rat) : ∀ l : List Te, (∀ y ∈ l, ∀ k, f y (k + 1) = 2 * (f y k - g y k)) → ∀ k, (l.map fun y => f y (k + 1)).sum = 2 * ((l.map fun y => f y k).sum - (l.map fun y => g y k).sum)
  | [], _, k => by simp; decide +kernel
  | y :: l, h, k => by
    have h1 := h y List.mem_cons_self k
    have h2 := sum_rec f g l (fun x hx => h x (List.mem_cons_of_mem _ hx)) k
    simp only [List.map_cons, List.sum_cons]
    rw [h1, h2]
    grind
theorem mean_eq (h : Tab t W) (hAL : spA t + spL t ≤ 64) (hL : 1 ≤ spL t) :
    SE (fun k => ((mk t W k : Nat) : Rat) * hp k) (spA t) + SE (fun i => ((mk t W (spA t + i) : Nat) : Rat) * hp (spA t + i)) (spL t) / (1 - hp (spL t)) = (t.map mean1).sum := by
  have hM : ∀ k, (t.map fun y => muY y (k + 1)).sum = 2 * ((t.map fun y => muY y k).sum - ((mk t W k : Nat) : Rat)) := fun k => by
    rw [← wsum_mk h k]
    exact sum_rec muY rho t (fun y _ k => rfl) k
  have he : (t.map fun y => muY y (spA t + spL t)).sum = (t.map fun y => muY y (spA t)).sum := by
    congr 1
    exact List.map_congr_left fun y hy => mu_end h hAL hy
  have := lvl_end (m := fun k => ((mk t W k : Nat) : Rat)) (M := fun k => (t.map fun y => muY y k).sum) hM hL he
  rw [this]
  rfl
end K50
namespace K50
open PySem PySem.Spec PyProof.Rows L2 Mi
variable {n d s o i j T p : Nat} {t : List Te} {W : Nat} {a b : Rat} {E F N M m : Nat}
def Bd (E N : Nat) (q : Rat) : Prop := ∃ x : Int, q = mkRat x E ∧ x.natAbs ≤ N
theorem Bd.add (hE : E ≠ 0) (h : Bd E N a) (g : Bd E M b) : Bd E (N + M) (a + b) := by
  obtain ⟨x, rfl, hx⟩ := h
  obtain ⟨y, rfl, hy⟩ := g
  refine ⟨x + y, ?_, by have := Int.natAbs_add_le x y; omega⟩
  rw [Rat.mkRat_add_mkRat _ _ hE hE, ← Int.add_mul]
  exact Rat.mkRat_mul_right hE
theorem Bd.mul (h : Bd E N a) (g : Bd F M b) : Bd (E * F) (N * M) (a * b) := by
  obtain ⟨x, rfl, hx⟩ := h
  obtain ⟨y, rfl, hy⟩ := g
  refine ⟨x * y, Rat.mkRat_mul_mkRat .., ?_⟩
  rw [Int.natAbs_mul]
  exact Nat.mul_le_mul hx hy
theorem Bd.scale (c : Nat) (hc : c ≠ 0) (h : Bd E N a) : Bd (E * c) (N * c) a := by
  obtain ⟨x, rfl, hx⟩ := h
  refine ⟨x * c, (Rat.mkRat_mul_right hc).symm, ?_⟩
  rw [Int.natAbs_mul, Int.natAbs_natCast]
  exact Nat.mul_le_mul_right _ hx
theorem Bd.mono (h : Bd E N a) (hm : N ≤ M) : Bd E M a := by
  obtain ⟨x, e, hx⟩ := h
  exact ⟨x, e, by omega⟩
theorem Bd.zq (h : Bd E N a) (hE : E ≠ 0) (h1 : N < 2 ^ m) (h2 : E < 2 ^ m) : Zq m a := by
  obtain ⟨x, rfl, hx⟩ := h
  exact Zq.of (by omega) h2 hE
theorem Bd.int (x : Int) (h : x.natAbs ≤ N) : Bd 1 N (x : Rat) := ⟨x, by rw [Rat.mkRat_eq_div]; have : ((1 : Nat) : Rat) = 1 := rfl; rw [this]; grind, h⟩
theorem Bd.zero : Bd E N 0 := ⟨0, (Rat.zero_mkRat _).symm, Nat.zero_le _⟩
theorem hp_mk (k : Nat) : hp k = mkRat 1 (2 ^ k) := by
  have h := Rat.mkRat_self (hp k)
  have e1 : (hp k).num = 1 := by
    show ((1 / 2 : Rat) ^ k).num = 1
    rw [Rat.num_pow]
    have : (1 / 2 : Rat).num = 1 := by decide +kernel
    rw [this, Int.one_pow]
  have e2 : (hp k).den = 2 ^ k := by
    show ((1 / 2 : Rat) ^ k).den = 2 ^ k
    rw [Rat.den_pow]
    have : (1 / 2 : Rat).den = 2 := by decide +kernel
    rw [this]
  rw [e1, e2] at h
  exact h.symm
theorem hp_bd (k : Nat) : Bd (2 ^ k) 1 (hp k) := ⟨1, hp_mk k, Nat.le_refl _⟩
theorem hp_bd64 {k : Nat} (h : k ≤ 64) : Bd (2 ^ 64) (2 ^ 64) (hp k) := by
  have := (hp_bd k).scale (2 ^ (64 - k)) (Nat.ne_of_gt (Nat.two_pow_pos _))
  rw [← Nat.pow_add, show k + (64 - k) = 64 by omega, Nat.one_mul] at this
  exact this.mono (Nat.pow_le_pow_right (by decide) (by omega))
theorem pow_lt64 {k : Nat} (h : k ≤ 64) : 2 ^ k < 2 ^ 70 := Nat.pow_lt_pow_right (by decide) (by omega)
theorem hp_zq {k : Nat} (h : k ≤ 64) : Zq 70 (hp k) := (hp_bd k).zq (Nat.ne_of_gt (Nat.two_pow_pos _)) (by decide) (pow_lt64 h)
theorem int_zq {x : Int} (h : x.natAbs < 2 ^ 70) : Zq 70 (x : Rat) := (Bd.int x (Nat.le_refl _)).zq (by decide) h (by decide)
abbrev RR (p : Nat) : Nat := 2 ^ p - 1
theorem RR_pos (h : 1 ≤ p) : 0 < RR p := by
  obtain ⟨m, rfl⟩ : ∃ m, p = m + 1 := ⟨p - 1, by omega⟩
  have := Nat.two_pow_pos m
  show 0 < 2 ^ (m + 1) - 1
  rw [Nat.pow_succ]
  omega
theorem RR_le (h : p ≤ 64) : RR p ≤ 2 ^ 64 := Nat.le_trans (Nat.sub_le _ _) (Nat.pow_le_pow_right (by decide) h)
theorem rst_mk (p : Nat) : rst p = mkRat (RR p : Nat) (2 ^ p) := by
  have h0 : (2 ^ p : Nat) ≠ 0 := Nat.ne_of_gt (Nat.two_pow_pos _)
  have e : (1 : Rat) = mkRat 1 1 := by decide +kernel
  show 1 + -(hp p) = _
  rw [hp_mk, Rat.neg_mkRat, e, Rat.mkRat_add_mkRat _ _ (by decide) h0]
  have hp := Nat.two_pow_pos p
  congr 1
  · show (1 : Int) * ((2 ^ p : Nat) : Int) + -1 * ((1 : Nat) : Int) = ((2 ^ p - 1 : Nat) : Int)
    omega
  · rw [Nat.one_mul]
theorem rst_pos (h : 1 ≤ p) : 0 < rst p := by
  have := hp_lt h
  grind
theorem num_pos (h : 0 < a) : 0 < a.num := by
  have h1 : 0 ≤ a.num := Rat.num_nonneg.mpr (Rat.le_of_lt h)
  have h2 : a.num ≠ 0 := fun z => by
    have := Rat.num_eq_zero.mp z
    rw [this] at h
    exact absurd h (by decide +kernel)
  omega
theorem rst_zq (h : p ≤ 64) : Zq 70 (rst p) := by
  rw [rst_mk]
  refine Zq.of ?_ (pow_lt64 h) (Nat.ne_of_gt (Nat.two_pow_pos _))
  rw [Int.natAbs_natCast]
  have := RR_le h
  omega
theorem inv_mk {x : Int} {A B : Nat} (hA : A ≠ 0) (hB : B ≠ 0) (c : Rat) (hc : c = mkRat (A : Nat) B) : (x : Rat) / c = mkRat (x * B) A := by
  have hA' : ((A : Nat) : Rat) ≠ 0 := fun z => by
    have := Rat.natCast_pos.mpr (Nat.pos_of_ne_zero hA)
    rw [z] at this
    exact absurd this (by decide +kernel)
  have hB' : ((B : Nat) : Rat) ≠ 0 := fun z => by
    have := Rat.natCast_pos.mpr (Nat.pos_of_ne_zero hB)
    rw [z] at this
    exact absurd this (by decide +kernel)
  have e : c = ((A : Nat) : Rat) / ((B : Nat) : Rat) := by rw [hc, Rat.mkRat_eq_div]; rfl
  rw [e, Rat.mkRat_eq_div, Rat.intCast_mul]
  show (x : Rat) / (((A : Nat) : Rat) / ((B : Nat) : Rat)) = (x : Rat) * ((B : Nat) : Rat) / ((A : Nat) : Rat)
  generalize ((A : Nat) : Rat) = y at *
  generalize ((B : Nat) : Rat) = z at *
  grind
theorem pow_ne (k : Nat) : 2 ^ k ≠ 0 := Nat.ne_of_gt (Nat.two_pow_pos _)
theorem place_bd {x : Nat} (h1 : 1 ≤ p) (h : p ≤ 64) (hx : x ≤ 64) : Bd (RR p * RR p) (2 ^ 6 * 2 ^ 64 * 2 ^ 64) (((x : Nat) : Rat) / rst p) := by
  have h0 := RR_pos h1
  have hr := RR_le h
  have hb : Bd (RR p) (2 ^ 6 * 2 ^ 64) (((x : Nat) : Rat) / rst p) := by
    refine ⟨(x : Int) * ((2 ^ p : Nat) : Int), inv_mk (x := (x : Int)) (by omega) (pow_ne p) _ (rst_mk p), ?_⟩
    rw [Int.natAbs_mul, Int.natAbs_natCast, Int.natAbs_natCast]
    exact Nat.mul_le_mul hx (Nat.pow_le_pow_right (by decide) h)
  exact (hb.scale (RR p) (by omega)).mono (Nat.mul_le_mul_left _ hr)
theorem mor_bd (h1 : 1 ≤ p) (h : p ≤ 64) : Bd (RR p * RR p) (2 ^ 6 * 2 ^ 64) (mor p) := by
  have h0 := RR_pos h1
  have e : mor p = mkRat ((p : Int) * ((2 ^ p : Nat) : Int)) (RR p * RR p) := by
    have e1 : rst p * rst p = mkRat ((RR p : Int) * (RR p : Int)) (2 ^ p * 2 ^ p) := by
      rw [rst_mk, Rat.mkRat_mul_mkRat]
    have e2 : (p : Rat) * hp p = mkRat (p : Int) (2 ^ p) := by
      have e3 : (p : Rat) = mkRat (p : Int) 1 := by rw [Rat.mkRat_eq_div]; have : ((1 : Nat) : Rat) = 1 := rfl; rw [this]; show (p : Rat) = (p : Rat) / 1; grind
      rw [e3, hp_mk, Rat.mkRat_mul_mkRat, Int.mul_one, Nat.one_mul]
    show (p : Rat) * hp p / (rst p * rst p) = _
    have hm : RR p * RR p ≠ 0 := Nat.mul_ne_zero (by omega) (by omega)
    have h3 : ((2 ^ p : Nat) : Rat) ≠ 0 := fun z => by
      have := Rat.natCast_pos.mpr (Nat.two_pow_pos p)
      rw [z] at this
      exact absurd this (by decide +kernel)
    have h4 : ((RR p * RR p : Nat) : Rat) ≠ 0 := fun z => by
      have := Rat.natCast_pos.mpr (Nat.pos_of_ne_zero hm)
      rw [z] at this
      exact absurd this (by decide +kernel)
    rw [e1, e2]
    simp only [Rat.mkRat_eq_div, Rat.natCast_mul, Rat.intCast_mul] at *
    show (p : Rat) / ((2 ^ p : Nat) : Rat) / (((RR p : Nat) : Rat) * ((RR p : Nat) : Rat) / (((2 ^ p : Nat) : Rat) * ((2 ^ p : Nat) : Rat))) = (p : Rat) * ((2 ^ p : Nat) : Rat) / (((RR p : Nat) : Rat) * ((RR p : Nat) : Rat))
    generalize ((2 ^ p : Nat) : Rat) = y at *
    generalize ((RR p : Nat) : Rat) = z at *
    grind
  refine ⟨_, e, ?_⟩
  rw [Int.natAbs_mul, Int.natAbs_natCast, Int.natAbs_natCast]
  exact Nat.mul_le_mul h (Nat.pow_le_pow_right (by decide) h)
end K50
namespace K50
open PySem PySem.Spec PyProof.Rows L2 Mi
variable {k : Nat} {S : Sto} {Q : KD} {X : KX} {n d s o i j T p : Nat} {t : List Te} {W : Nat}
abbrev dr (n d k : Nat) : Rat := ((dg n d k : Nat) : Rat)
theorem dg_le (h : 0 < d) (k : Nat) : dg n d k ≤ 1 := by have := dg_lt (n := n) (i := k) h; omega
theorem dgL_get {a m : Nat} (h : i < m) : (dgL n d a m)[i]? = some (.int ((dg n d (a + i) : Nat) : Int)) := by
  unfold dgL
  rw [List.getElem?_map, List.getElem?_range h]
  rfl
theorem ahd_bd (h : 0 < d) : ∀ k, k ≤ 64 → Bd (2 ^ 64) (k * (64 * 2 ^ 64)) (ahd (dr n d) k)
  | 0, _ => Bd.zero
  | k + 1, hk => by
    have ih := ahd_bd h k (by omega)
    have h1 := hp_bd64 (k := k + 1) hk
    have hdg := dg_le (n := n) h k
    have h2 : Bd 1 64 (((k + 1 : Nat) : Rat) * dr n d k) := by
      have e : ((k + 1 : Nat) : Rat) * dr n d k = ((((k + 1) * dg n d k : Nat) : Int) : Rat) := by
        show _ = (((k + 1) * dg n d k : Nat) : Rat)
        rw [Rat.natCast_mul]
      rw [e]
      refine Bd.int _ ?_
      rw [Int.natAbs_natCast]
      exact Nat.le_trans (Nat.mul_le_mul_left _ hdg) (by omega)
    have h3 := h2.mul h1
    rw [Nat.one_mul] at h3
    have h4 := ih.add (pow_ne 64) h3
    rw [Nat.add_mul, Nat.one_mul]
    exact h4
theorem prd_bd (h : 0 < d) (h1 : 1 ≤ p) (hsp : s + p ≤ 64) : ∀ m, m ≤ p → Bd (RR p * RR p * 2 ^ 64) (m * (2 ^ 136 * 2 ^ 64)) (prd (dr n d) s m (rst p) (mor p))
  | 0, _ => Bd.zero
  | m + 1, hm => by
    have h0 := RR_pos h1
    have hE : RR p * RR p ≠ 0 := Nat.mul_ne_zero (by omega) (by omega)
    have ih := prd_bd h h1 hsp m (by omega)
    have b1 := place_bd (x := s + m + 1) h1 (by omega) (by omega)
    have b2 := mor_bd h1 (by omega : p ≤ 64)
    have b3 : Bd 1 1 (dr n d (s + m)) := Bd.int (dg n d (s + m) : Nat) (by rw [Int.natAbs_natCast]; exact dg_le h _)
    have b4 := hp_bd64 (k := s + m + 1) (by omega)
    have b5 := ((b1.add hE b2).mul b3).mul b4
    rw [Nat.mul_one, Nat.mul_one] at b5
    have b6 := ih.add (Nat.mul_ne_zero hE (pow_ne 64)) (b5.mono (M := 2 ^ 136 * 2 ^ 64) (Nat.mul_le_mul_right _ (by decide)))
    rw [Nat.add_mul, Nat.one_mul]
    exact b6
theorem EE_le (h : p ≤ 64) : RR p * RR p * 2 ^ 64 < 2 ^ 250 := by
  have h1 := RR_le h
  have h2 : RR p * RR p ≤ 2 ^ 64 * 2 ^ 64 := Nat.mul_le_mul h1 h1
  have h3 : RR p * RR p * 2 ^ 64 ≤ 2 ^ 64 * 2 ^ 64 * 2 ^ 64 := Nat.mul_le_mul_right _ h2
  exact Nat.lt_of_le_of_lt h3 (by decide)
theorem RR2_le (h : p ≤ 64) : RR p * RR p < 2 ^ 250 := Nat.lt_of_le_of_lt (Nat.mul_le_mul (RR_le h) (RR_le h)) (by decide)
theorem sum_zq (h : 0 < d) (h1 : 1 ≤ p) (hsp : s + p ≤ 64) {m : Nat} (hm : m ≤ p) : Zq 250 (ahd (dr n d) s + prd (dr n d) s m (rst p) (mor p)) := by
  have h0 := RR_pos h1
  have hE : RR p * RR p ≠ 0 := Nat.mul_ne_zero (by omega) (by omega)
  have a1 := (ahd_bd (n := n) h s (by omega)).scale (RR p * RR p) hE
  rw [Nat.mul_comm (2 ^ 64) (RR p * RR p)] at a1
  have a2 := a1.add (Nat.mul_ne_zero hE (pow_ne 64)) (prd_bd (n := n) h h1 hsp m hm)
  refine a2.zq (Nat.mul_ne_zero hE (pow_ne 64)) ?_ (EE_le (by omega))
  have h3 : RR p * RR p ≤ 2 ^ 64 * 2 ^ 64 := Nat.mul_le_mul (RR_le (by omega)) (RR_le (by omega))
  have h4 : s * (64 * 2 ^ 64) * (RR p * RR p) ≤ 64 * (64 * 2 ^ 64) * (2 ^ 64 * 2 ^ 64) := Nat.mul_le_mul (Nat.mul_le_mul_right _ (by omega)) h3
  have h5 : m * (2 ^ 136 * 2 ^ 64) ≤ 64 * (2 ^ 136 * 2 ^ 64) := Nat.mul_le_mul_right _ (by omega)
  exact Nat.lt_of_le_of_lt (Nat.add_le_add h4 h5) (by decide)
theorem ahd_zq (h : 0 < d) (hs : s ≤ 64) : Zq 250 (ahd (dr n d) s) := by
  refine (ahd_bd (n := n) h s hs).zq (pow_ne 64) ?_ (by decide)
  exact Nat.lt_of_le_of_lt (Nat.mul_le_mul_right _ hs) (by decide)
theorem part_zq {x : Nat} (h1 : 1 ≤ p) (h : p ≤ 64) (hx : x ≤ 64) : Zq 250 (((x : Nat) : Rat) / rst p) ∧ Zq 250 (mor p) ∧ Zq 250 (((x : Nat) : Rat) / rst p + mor p) := by
  have h0 := RR_pos h1
  have hE : RR p * RR p ≠ 0 := Nat.mul_ne_zero (by omega) (by omega)
  have b1 := place_bd h1 h hx
  have b2 := mor_bd h1 h
  exact ⟨b1.zq hE (by decide) (RR2_le h), b2.zq hE (by decide) (RR2_le h), (b1.add hE b2).zq hE (by decide) (RR2_le h)⟩
theorem pd_zq {x : Nat} (h1 : 1 ≤ p) (h : p ≤ 64) (hx : x ≤ 64) (hd : 0 < d) (k : Nat) : Zq 250 ((((x : Nat) : Rat) / rst p + mor p) * dr n d k) := by
  have h0 := RR_pos h1
  have hE : RR p * RR p ≠ 0 := Nat.mul_ne_zero (by omega) (by omega)
  have b3 : Bd 1 1 (dr n d k) := Bd.int (dg n d k : Nat) (by rw [Int.natAbs_natCast]; exact dg_le hd _)
  have b := ((place_bd h1 h hx).add hE (mor_bd h1 h)).mul b3
  rw [Nat.mul_one, Nat.mul_one] at b
  exact b.zq hE (by decide) (RR2_le h)
theorem ptm_zq {x : Nat} (h1 : 1 ≤ p) (h : p ≤ 64) (hx : x ≤ 64) (hd : 0 < d) (k : Nat) : Zq 250 ((((x : Nat) : Rat) / rst p + mor p) * dr n d k * hp x) := by
  have h0 := RR_pos h1
  have hE : RR p * RR p ≠ 0 := Nat.mul_ne_zero (by omega) (by omega)
  have b3 : Bd 1 1 (dr n d k) := Bd.int (dg n d k : Nat) (by rw [Int.natAbs_natCast]; exact dg_le hd _)
  have b := (((place_bd h1 h hx).add hE (mor_bd h1 h)).mul b3).mul (hp_bd64 hx)
  rw [Nat.mul_one, Nat.mul_one] at b
  exact b.zq (Nat.mul_ne_zero hE (pow_ne 64)) (by decide) (EE_le h)
theorem atm_zq (h : 0 < d) {k : Nat} (hk : k < 64) : Zq 250 (((k + 1 : Nat) : Rat) * dr n d k * hp (k + 1)) ∧ ((((k + 1 : Nat) : Rat) * dr n d k) = ((((dg n d k : Nat) : Int) * ((k : Int) + 1) : Int) : Rat)) := by
  have hdg := dg_le (n := n) h k
  have e : ((k + 1 : Nat) : Rat) * dr n d k = ((((k + 1) * dg n d k : Nat) : Int) : Rat) := by
    show _ = (((k + 1) * dg n d k : Nat) : Rat)
    rw [Rat.natCast_mul]
  have e2 : (((k + 1) * dg n d k : Nat) : Int) = ((dg n d k : Nat) : Int) * ((k : Int) + 1) := by rw [Int.natCast_mul, Int.mul_comm]; rfl
  refine ⟨?_, by rw [e, e2]⟩
  have h2 : Bd 1 64 (((k + 1 : Nat) : Rat) * dr n d k) := by
    rw [e]
    refine Bd.int _ ?_
    rw [Int.natAbs_natCast]
    exact Nat.le_trans (Nat.mul_le_mul_left _ hdg) (by omega)
  have h3 := h2.mul (hp_bd64 (k := k + 1) (by omega))
  rw [Nat.one_mul] at h3
  exact h3.zq (pow_ne 64) (by decide) (by decide)
theorem rq1 : rq 1 = .tup [.int 1, .int 1] := by decide +kernel
theorem zq1 : Zq 12 1 := ⟨by unfold Sz; decide +kernel, by unfold Sz; decide +kernel⟩
end K50
namespace K50
open PySem PySem.Spec PyProof.Rows L2 Mi
variable {k : Nat} {S : Sto} {Q : KD} {X : KX} {n d s o i j T p : Nat} {t : List Te} {W : Nat}
theorem Zq.up {m : Nat} {q : Rat} (h : Zq m q) (hm : m ≤ 1500 := by decide) : Zq 1500 q := h.mono hm
theorem lmean_ok (hk : 4 < k) (f : Fc n d s o) (hd : d < 2 ^ 70) (hb : Bin n d s o p) (hsp : s + p ≤ 64) (hQ : Q (rq (meanF (dr n d) s p)) S) : Γ k "_law_mean_of" [fr n d] S Q X := by
  cases k with
  | zero => omega
  | succ k =>
  refine gam (np := 1) (nn := 12) (b := b__law_mean_of) rfl rfl ?_
  have hd0 := f.pos
  simp only [b__law_mean_of, wSs, wS, wT, wE, wEs, wO, wC, wI, wG, wGs, startD, List.map_cons, List.map_nil, List.length_cons, List.length_nil, List.replicate, List.cons_append, List.nil_append, List.append_nil, List.set_cons_zero, List.set_cons_succ, List.getElem?_cons_zero, List.getElem?_cons_succ, itT, wipeD, opAddI, opSubI, opMulI, opDivI, opModI, opPowI, opAddT, cmEq, cmNe, cmLt, cmLe, cmGt, cmGe, cmIn, eqI, eqS, inS2, truB, ixT0, ixT1, ixT2, ixT3, ixT4, ixT6, slcT, lenT, absI, intI, tupleT, listT, listRl, decide_true, decide_false, if_true, if_false, Bool.false_eq_true, reduceIte, decide_eq_true_eq, Bool.not_true, Bool.not_false, line, mI_int, mI_bool, mI_str, mI_tuple, mI_list, mB_int, mB_bool, mB_str, mB_tuple, mB_list, mS_int, mS_bool, mS_str, mS_tuple, mS_list, mT_int, mT_bool, mT_str, mT_tuple, mT_list, mN_int, mN_bool, mN_str, mN_tuple, mN_list, anyT, anyF, Nat.zero_add, Nat.reduceAdd, Nat.reduceLeDiff, true_and]
  refine binary_ok (by omega) f hd (fun p' hp' hl' => ?_) fun h' => absurd (h' p hb) (by omega)
  obtain rfl := hb.uniq hp'
  simp only [wSs, wS, wT, wE, wEs, wO, wC, wI, wG, wGs, startD, List.map_cons, List.map_nil, List.length_cons, List.length_nil, List.replicate, List.cons_append, List.nil_append, List.append_nil, List.set_cons_zero, List.set_cons_succ, List.getElem?_cons_zero, List.getElem?_cons_succ, itT, wipeD, opAddI, opSubI, opMulI, opDivI, opModI, opPowI, opAddT, cmEq, cmNe, cmLt, cmLe, cmGt, cmGe, cmIn, eqI, eqS, inS2, truB, ixT0, ixT1, ixT2, ixT3, ixT4, ixT6, slcT, lenT, absI, intI, tupleT, listT, listRl, decide_true, decide_false, if_true, if_false, Bool.false_eq_true, reduceIte, decide_eq_true_eq, Bool.not_true, Bool.not_false, line, mI_int, mI_bool, mI_str, mI_tuple, mI_list, mB_int, mB_bool, mB_str, mB_tuple, mB_list, mS_int, mS_bool, mS_str, mS_tuple, mS_list, mT_int, mT_bool, mT_str, mT_tuple, mT_list, mN_int, mN_bool, mN_str, mN_tuple, mN_list, anyT, anyF, Nat.zero_add, Nat.reduceAdd, Nat.reduceLeDiff, true_and, dgL_len]
  rw [← rq0]
  refine ⟨by unfold inB; omega, ?_⟩
  rw [Int.toNat_natCast]
  refine forL_inv (rngD 0 s) (fun i σ S2 => ∃ x2, σ = [some (fr n d), some (rq (ahd (dr n d) i)), x2, none, none, none, none, none, some (.tup (dgL n d 0 s)), some (.tup (dgL n d s p)), none, none] ∧ S2 = S) (fun _ _ _ _ => trivial) ?_ ?_ ⟨_, rfl, rfl⟩
  · rintro i dd σ S2 NX hd' ⟨x2, rfl, rfl⟩ hN
    unfold rngD at hd'
    rw [List.getElem?_map, Option.map_eq_some_iff] at hd'
    obtain ⟨j', hj1, rfl⟩ := hd'
    have hi : i < s := by simpa using (List.getElem?_eq_some_iff.mp hj1).1
    rw [List.getElem?_range hi] at hj1
    cases hj1
    have hg : atI (dgL n d 0 s) (i : Int) = some (.int ((dg n d i : Nat) : Int)) := by
      have := dgL_get (n := n) (d := d) (a := 0) hi
      rw [Nat.zero_add] at this
      exact atIk i rfl this
    obtain ⟨z1, z2⟩ := atm_zq (n := n) hd0 (show i < 64 by omega)
    have hdg := dg_le (n := n) hd0 i
    simp only [s__law_mean_of_1, wSs, wS, wT, wE, wEs, wO, wC, wI, wG, wGs, startD, List.map_cons, List.map_nil, List.length_cons, List.length_nil, List.replicate, List.cons_append, List.nil_append, List.append_nil, List.set_cons_zero, List.set_cons_succ, List.getElem?_cons_zero, List.getElem?_cons_succ, itT, wipeD, opAddI, opSubI, opMulI, opDivI, opModI, opPowI, opAddT, cmEq, cmNe, cmLt, cmLe, cmGt, cmGe, cmIn, eqI, eqS, inS2, truB, ixT0, ixT1, ixT2, ixT3, ixT4, ixT6, slcT, lenT, absI, intI, tupleT, listT, listRl, decide_true, decide_false, if_true, if_false, Bool.false_eq_true, reduceIte, decide_eq_true_eq, Bool.not_true, Bool.not_false, line, mI_int, mI_bool, mI_str, mI_tuple, mI_list, mB_int, mB_bool, mB_str, mB_tuple, mB_list, mS_int, mS_bool, mS_str, mS_tuple, mS_list, mT_int, mT_bool, mT_str, mT_tuple, mT_list, mN_int, mN_bool, mN_str, mN_tuple, mN_list, anyT, anyF, Nat.zero_add, Nat.reduceAdd, Nat.reduceLeDiff, true_and, Int.zero_add]
    rw [ixT hg]
    simp only [opAddI, opSubI, opMulI, opDivI, opModI, opPowI, opAddT, cmEq, cmNe, cmLt, cmLe, cmGt, cmGe, cmIn, eqI, eqS, inS2, truB, ixT0, ixT1, ixT2, ixT3, ixT4, ixT6, slcT, lenT, absI, intI, tupleT, listT, listRl, decide_true, decide_false, if_true, if_false, Bool.false_eq_true, reduceIte, decide_eq_true_eq, Bool.not_true, Bool.not_false, line, mI_int, mI_bool, mI_str, mI_tuple, mI_list, mB_int, mB_bool, mB_str, mB_tuple, mB_list, mS_int, mS_bool, mS_str, mS_tuple, mS_list, mT_int, mT_bool, mT_str, mT_tuple, mT_list, mN_int, mN_bool, mN_str, mN_tuple, mN_list, anyT, anyF, Nat.zero_add, Nat.reduceAdd, Nat.reduceLeDiff, true_and]
    have sg : Sz 2 ((dg n d i : Nat) : Int) := szn (by omega)
    have si : Sz 8 ((i : Int) + 1) := szn (i := i + 1) (by omega)
    refine ⟨sg.cm si, power_half (m := i + 1) (by omega) (by omega) ?_⟩
    have e1 : D.tup [.int (((dg n d i : Nat) : Int) * ((i : Int) + 1)), .int 1] = rq (((i + 1 : Nat) : Rat) * dr n d i) := by rw [z2, rq_int]; rfl
    rw [e1]
    have zi : Zq 70 (((i + 1 : Nat) : Rat) * dr n d i) := by
      rw [z2]
      refine int_zq ?_
      rw [Int.natAbs_mul, Int.natAbs_natCast]
      have : ((i : Int) + 1).natAbs = i + 1 := by omega
      rw [this]
      exact Nat.lt_of_le_of_lt (Nat.mul_le_mul hdg (show i + 1 ≤ 64 by omega)) (by decide)
    refine ltimes_rq (by omega) zi.up (hp_zq (k := i + 1) (by omega)).up ?_
    refine lplus_rq (by omega) (ahd_zq (n := n) hd0 (by omega)).up z1.up ?_
    exact hN _ _ ⟨_, rfl, rfl⟩
  · rintro σ S2 ⟨x2, rfl, rfl⟩
    have hlen : (rngD 0 s).length = s := by simp [rngD]
    rw [hlen]
    simp only [wSs, wS, wT, wE, wEs, wO, wC, wI, wG, wGs, startD, List.map_cons, List.map_nil, List.length_cons, List.length_nil, List.replicate, List.cons_append, List.nil_append, List.append_nil, List.set_cons_zero, List.set_cons_succ, List.getElem?_cons_zero, List.getElem?_cons_succ, itT, wipeD, opAddI, opSubI, opMulI, opDivI, opModI, opPowI, opAddT, cmEq, cmNe, cmLt, cmLe, cmGt, cmGe, cmIn, eqI, eqS, inS2, truB, ixT0, ixT1, ixT2, ixT3, ixT4, ixT6, slcT, lenT, absI, intI, tupleT, listT, listRl, decide_true, decide_false, if_true, if_false, Bool.false_eq_true, reduceIte, decide_eq_true_eq, Bool.not_true, Bool.not_false, line, mI_int, mI_bool, mI_str, mI_tuple, mI_list, mB_int, mB_bool, mB_str, mB_tuple, mB_list, mS_int, mS_bool, mS_str, mS_tuple, mS_list, mT_int, mT_bool, mT_str, mT_tuple, mT_list, mN_int, mN_bool, mN_str, mN_tuple, mN_list, anyT, anyF, Nat.zero_add, Nat.reduceAdd, Nat.reduceLeDiff, true_and, dgL_len]
    by_cases hp0 : p = 0
    · rw [if_pos (by omega)]
      have : meanF (dr n d) s p = ahd (dr n d) s := by unfold meanF; rw [if_pos hp0]; exact Rat.add_zero _
      rw [this] at hQ
      exact ⟨S2, Sto.le_refl, hQ⟩
    · rw [if_neg (by omega)]
      have h1 : 1 ≤ p := by omega
      have hpl : p ≤ 64 := by omega
      refine power_half (m := p) (by omega) (by omega) ?_
      have i0 : ∀ (Sx : Sto) (Qx : KD), ixR (rq ((1 / 2 : Rat) ^ p)) (.int 0) Sx Qx = Qx (.int 1) Sx := fun Sx Qx => by rw [half_pow]; exact ixT0
      have i1 : ∀ (Sx : Sto) (Qx : KD), ixR (rq ((1 / 2 : Rat) ^ p)) (.int 1) Sx Qx = Qx (.int ((2 ^ p : Nat) : Int)) Sx := fun Sx Qx => by rw [half_pow]; exact ixT1
      have en : D.tup [.int (0 - 1), .int ((2 ^ p : Nat) : Int)] = rq (-(hp p)) := by
        have e := half_pow (m := p)
        unfold rq fr at e
        injection e with e
        injection e with e1 e2
        injection e2 with e2 _
        injection e1 with e1
        unfold rq fr
        rw [Rat.neg_num, Rat.neg_den, e1, e2]
        rfl
      have zh := hp_zq hpl
      have znh : Zq 70 (-(hp p)) := ⟨by rw [Rat.neg_num]; exact zh.n.neg, by rw [Rat.neg_den]; exact zh.d⟩
      have zr := rst_zq hpl
      have zp : Zq 70 ((p : Nat) : Rat) := int_zq (x := (p : Int)) (by rw [Int.natAbs_natCast]; exact Nat.lt_of_le_of_lt hpl (by decide))
      have ep : D.tup [.int (p : Int), .int 1] = rq ((p : Nat) : Rat) := (rq_int (x := (p : Int))).symm
      have zph : Zq 250 (((p : Nat) : Rat) * hp p) := by
        have b := (Bd.int (p : Int) (N := 64) (by rw [Int.natAbs_natCast]; exact hpl)).mul (hp_bd p)
        refine b.zq (Nat.mul_ne_zero (by decide) (pow_ne p)) (by decide) ?_
        rw [Nat.one_mul]
        exact Nat.lt_of_le_of_lt (Nat.pow_le_pow_right (by decide) hpl) (by decide)
      have zrr : Zq 250 (rst p * rst p) := by
        have b1 : Bd (2 ^ p) (2 ^ 64) (rst p) := ⟨_, rst_mk p, by rw [Int.natAbs_natCast]; exact RR_le hpl⟩
        refine (b1.mul b1).zq (Nat.mul_ne_zero (pow_ne p) (pow_ne p)) (by decide) ?_
        exact Nat.lt_of_le_of_lt (Nat.mul_le_mul (Nat.pow_le_pow_right (by decide) hpl) (Nat.pow_le_pow_right (by decide) hpl)) (by decide)
      have hrp := rst_pos h1
      rw [i0, opSubI, i1, en, ← rq1]
      refine lplus_rq (by omega) zq1.up znh.up ?_
      rw [ep]
      refine ltimes_rq (by omega) zp.up zh.up ?_
      refine ltimes_rq (by omega) zr.up zr.up ?_
      refine lover_rq (by omega) zph.up zrr.up (num_pos (Rat.mul_pos hrp hrp)) ?_
      refine ⟨by unfold inB; omega, ?_⟩
      have es0 : ahd (dr n d) s = ahd (dr n d) s + prd (dr n d) s 0 (rst p) (mor p) := (Rat.add_zero _).symm
      rw [Int.toNat_natCast, es0]
      refine forL_inv (rngD 0 p) (fun i σ S3 => ∃ x7 x10 x11, σ = [some (fr n d), some (rq (ahd (dr n d) s + prd (dr n d) s i (rst p) (mor p))), x2, some (.int (p : Int)), some (rq (hp p)), some (rq (rst p)), some (rq (mor p)), x7, some (.tup (dgL n d 0 s)), some (.tup (dgL n d s p)), x10, x11] ∧ S3 = S2) (fun _ _ _ _ => trivial) ?_ ?_ ⟨_, _, _, rfl, rfl⟩
      · rintro i dd σ S3 NX hd' ⟨x7, x10, x11, rfl, rfl⟩ hN
        unfold rngD at hd'
        rw [List.getElem?_map, Option.map_eq_some_iff] at hd'
        obtain ⟨j', hj1, rfl⟩ := hd'
        have hi : i < p := by simpa using (List.getElem?_eq_some_iff.mp hj1).1
        rw [List.getElem?_range hi] at hj1
        cases hj1
        have hg : atI (dgL n d s p) (i : Int) = some (.int ((dg n d (s + i) : Nat) : Int)) := atIk i rfl (dgL_get hi)
        have hx : s + i + 1 ≤ 64 := by omega
        obtain ⟨q1, q2, q3⟩ := part_zq h1 hpl hx
        have q4 := pd_zq (n := n) h1 hpl hx hd0 (s + i)
        have q5 := ptm_zq (n := n) h1 hpl hx hd0 (s + i)
        have zx : Zq 70 ((s + i + 1 : Nat) : Rat) := int_zq (x := ((s + i + 1 : Nat) : Int)) (by rw [Int.natAbs_natCast]; exact Nat.lt_of_le_of_lt hx (by decide))
        have zd : Zq 70 (dr n d (s + i)) := int_zq (x := ((dg n d (s + i) : Nat) : Int)) (by rw [Int.natAbs_natCast]; exact Nat.lt_of_le_of_lt (dg_le hd0 _) (by decide))
        have ex : ((s : Nat) : Int) + (i : Int) + 1 = ((s + i + 1 : Nat) : Int) := rfl
        simp only [s__law_mean_of_2, wSs, wS, wT, wE, wEs, wO, wC, wI, wG, wGs, startD, List.map_cons, List.map_nil, List.length_cons, List.length_nil, List.replicate, List.cons_append, List.nil_append, List.append_nil, List.set_cons_zero, List.set_cons_succ, List.getElem?_cons_zero, List.getElem?_cons_succ, itT, wipeD, opAddI, opSubI, opMulI, opDivI, opModI, opPowI, opAddT, cmEq, cmNe, cmLt, cmLe, cmGt, cmGe, cmIn, eqI, eqS, inS2, truB, ixT0, ixT1, ixT2, ixT3, ixT4, ixT6, slcT, lenT, absI, intI, tupleT, listT, listRl, decide_true, decide_false, if_true, if_false, Bool.false_eq_true, reduceIte, decide_eq_true_eq, Bool.not_true, Bool.not_false, line, mI_int, mI_bool, mI_str, mI_tuple, mI_list, mB_int, mB_bool, mB_str, mB_tuple, mB_list, mS_int, mS_bool, mS_str, mS_tuple, mS_list, mT_int, mT_bool, mT_str, mT_tuple, mT_list, mN_int, mN_bool, mN_str, mN_tuple, mN_list, anyT, anyF, Nat.zero_add, Nat.reduceAdd, Nat.reduceLeDiff, true_and, Int.zero_add, dgL_len, ex]
        rw [show D.tup [.int ((s + i + 1 : Nat) : Int), .int 1] = rq ((s + i + 1 : Nat) : Rat) from (rq_int (x := ((s + i + 1 : Nat) : Int))).symm]
        refine lover_rq (by omega) zx.up zr.up (num_pos hrp) ?_
        refine lplus_rq (by omega) q1.up q2.up ?_
        rw [ixT hg]
        rw [show D.tup [.int ((dg n d (s + i) : Nat) : Int), .int 1] = rq (dr n d (s + i)) from (rq_int (x := ((dg n d (s + i) : Nat) : Int))).symm]
        refine ltimes_rq (by omega) q3.up zd.up ?_
        refine power_half (m := s + i + 1) (by omega) (by omega) ?_
        refine ltimes_rq (by omega) q4.up (hp_zq hx).up ?_
        refine lplus_rq (by omega) (sum_zq (n := n) hd0 h1 hsp (by omega)).up q5.up ?_
        rw [Rat.add_assoc]
        exact hN _ _ ⟨_, _, _, rfl, rfl⟩
      · rintro σ S3 ⟨x7, x10, x11, rfl, rfl⟩
        have hlen : (rngD 0 p).length = p := by simp [rngD]
        rw [hlen]
        simp only [wSs, wS, wT, wE, wEs, wO, wC, wI, wG, wGs, startD, List.map_cons, List.map_nil, List.length_cons, List.length_nil, List.replicate, List.cons_append, List.nil_append, List.append_nil, List.set_cons_zero, List.set_cons_succ, List.getElem?_cons_zero, List.getElem?_cons_succ, itT, wipeD, opAddI, opSubI, opMulI, opDivI, opModI, opPowI, opAddT, cmEq, cmNe, cmLt, cmLe, cmGt, cmGe, cmIn, eqI, eqS, inS2, truB, ixT0, ixT1, ixT2, ixT3, ixT4, ixT6, slcT, lenT, absI, intI, tupleT, listT, listRl, decide_true, decide_false, if_true, if_false, Bool.false_eq_true, reduceIte, decide_eq_true_eq, Bool.not_true, Bool.not_false, line, mI_int, mI_bool, mI_str, mI_tuple, mI_list, mB_int, mB_bool, mB_str, mB_tuple, mB_list, mS_int, mS_bool, mS_str, mS_tuple, mS_list, mT_int, mT_bool, mT_str, mT_tuple, mT_list, mN_int, mN_bool, mN_str, mN_tuple, mN_list, anyT, anyF, Nat.zero_add, Nat.reduceAdd, Nat.reduceLeDiff, true_and]
        have : meanF (dr n d) s p = ahd (dr n d) s + prd (dr n d) s p (rst p) (mor p) := by unfold meanF; rw [if_neg hp0]
        rw [this] at hQ
        exact ⟨S3, Sto.le_refl, hQ⟩
end K50
namespace K50
open PySem PySem.Spec PyProof.Rows L2 Mi
variable {k : Nat} {S : Sto} {Q : KD} {X : KX} {n d s o i j T p : Nat} {t : List Te} {W : Nat} {a b : Rat}
theorem Zq.add {m m' : Nat} (h : Zq m a) (g : Zq m' b) : Zq (m + m' + 1) (a + b) := by
  rw [Rat.add_def']
  have h1 : (a.num * (b.den : Int) + b.num * (a.den : Int)).natAbs < 2 ^ (m + m' + 1) := by
    have e1 := h.n.mul g.d
    have e2 := g.n.mul h.d
    rw [Nat.add_comm m' m] at e2
    exact e1.add e2
  have h2 : a.den * b.den < 2 ^ (m + m' + 1) := by
    have e := h.d.mul g.d
    unfold Sz at e
    rw [← Int.natCast_mul, Int.natAbs_natCast] at e
    rw [Nat.pow_succ]
    omega
  exact Zq.of h1 h2 (Nat.mul_ne_zero a.den_nz b.den_nz)
theorem mean1_zq (h : Tab t W) (hAL : spA t + spL t ≤ 64) {y : Te} (hy : y ∈ t) : Zq 250 (mean1 y) := by
  obtain ⟨h1, _, _⟩ := sp_le hAL hy
  have hd := h.dpos hy
  unfold mean1 meanF
  by_cases hp : pY y = 0
  · rw [if_pos hp, Rat.add_zero]
    exact ahd_zq (n := y.2.1) hd (by omega)
  · rw [if_neg hp]
    exact sum_zq (n := y.2.1) hd (by omega) h1 (Nat.le_refl _)
def mns (t : List Te) (i : Nat) : List Te := t.take i
noncomputable def msum (t : List Te) (i : Nat) : Rat := ((t.take i).map mean1).sum
theorem msum_succ (hi : i < t.length) : msum t (i + 1) = msum t i + mean1 t[i] := by
  unfold msum
  rw [List.take_succ_eq_append_getElem hi, List.map_append, List.sum_append]
  simp [Rat.add_zero]
theorem msum_zq (h : Tab t W) (hAL : spA t + spL t ≤ 64) : ∀ i, i ≤ t.length → Zq (1 + 251 * i) (msum t i)
  | 0, _ => ⟨by unfold msum Sz; simp, by unfold msum; simp; exact szn (by decide)⟩
  | i + 1, hi => by
    rw [msum_succ (by omega)]
    have := (msum_zq h hAL i (by omega)).add (mean1_zq h hAL (List.getElem_mem (by omega : i < t.length)))
    exact this.mono (by omega)
theorem ltree_mean_ok (hk : 5 < k) (h : Tab t W) (hAL : spA t + spL t ≤ 64) (hQ : Q (rq (t.map mean1).sum) S) : Γ k "_law_tree_mean" [.tup (tabL t)] S Q X := by
  cases k with
  | zero => omega
  | succ k =>
  refine gam (np := 1) (nn := 4) (b := b__law_tree_mean) rfl rfl ?_
  simp only [b__law_tree_mean, wSs, wS, wT, wE, wEs, wO, wC, wI, wG, wGs, startD, List.map_cons, List.map_nil, List.length_cons, List.length_nil, List.replicate, List.cons_append, List.nil_append, List.append_nil, List.set_cons_zero, List.set_cons_succ, List.getElem?_cons_zero, List.getElem?_cons_succ, itT, wipeD, opAddI, opSubI, opMulI, opDivI, opModI, opPowI, opAddT, cmEq, cmNe, cmLt, cmLe, cmGt, cmGe, cmIn, eqI, eqS, inS2, truB, ixT0, ixT1, ixT2, ixT3, ixT4, ixT6, slcT, lenT, absI, intI, tupleT, listT, listRl, decide_true, decide_false, if_true, if_false, Bool.false_eq_true, reduceIte, decide_eq_true_eq, Bool.not_true, Bool.not_false, line, mI_int, mI_bool, mI_str, mI_tuple, mI_list, mB_int, mB_bool, mB_str, mB_tuple, mB_list, mS_int, mS_bool, mS_str, mS_tuple, mS_list, mT_int, mT_bool, mT_str, mT_tuple, mT_list, mN_int, mN_bool, mN_str, mN_tuple, mN_list, anyT, anyF, Nat.zero_add, Nat.reduceAdd, Nat.reduceLeDiff, true_and]
  have hl := h.len
  have e0 : D.tup [.int 0, .int 1] = rq (msum t 0) := rq0.symm
  rw [e0]
  refine forL_inv (tabL t) (fun i σ S2 => ∃ x2 x3, σ = [some (.tup (tabL t)), some (rq (msum t i)), x2, x3] ∧ S2 = S) (fun _ _ _ _ => trivial) ?_ ?_ ⟨_, _, rfl, rfl⟩
  · rintro i dd σ S2 NX hd' ⟨x2, x3, rfl, rfl⟩ hN
    obtain ⟨hi, rfl⟩ := tab_get hd'
    have hy := List.getElem_mem hi
    have hd := h.d_lt hy
    have f := fc (h.el _ hy).1 (h.el _ hy).2.1
    obtain ⟨h1, _, _⟩ := sp_le hAL hy
    simp only [s__law_tree_mean_1, teD, wSs, wS, wT, wE, wEs, wO, wC, wI, wG, wGs, startD, List.map_cons, List.map_nil, List.length_cons, List.length_nil, List.replicate, List.cons_append, List.nil_append, List.append_nil, List.set_cons_zero, List.set_cons_succ, List.getElem?_cons_zero, List.getElem?_cons_succ, itT, wipeD, opAddI, opSubI, opMulI, opDivI, opModI, opPowI, opAddT, cmEq, cmNe, cmLt, cmLe, cmGt, cmGe, cmIn, eqI, eqS, inS2, truB, ixT0, ixT1, ixT2, ixT3, ixT4, ixT6, slcT, lenT, absI, intI, tupleT, listT, listRl, decide_true, decide_false, if_true, if_false, Bool.false_eq_true, reduceIte, decide_eq_true_eq, Bool.not_true, Bool.not_false, line, mI_int, mI_bool, mI_str, mI_tuple, mI_list, mB_int, mB_bool, mB_str, mB_tuple, mB_list, mS_int, mS_bool, mS_str, mS_tuple, mS_list, mT_int, mT_bool, mT_str, mT_tuple, mT_list, mN_int, mN_bool, mN_str, mN_tuple, mN_list, anyT, anyF, Nat.zero_add, Nat.reduceAdd, Nat.reduceLeDiff, true_and]
    refine lmean_ok (by omega) f (by omega) (binY hAL hy) h1 ?_
    refine lplus_rq (by omega) ((msum_zq h hAL i (by omega)).up (by omega)) (mean1_zq h hAL hy).up ?_
    have e : msum t i + meanF (dr t[i].2.1 t[i].2.2) (sOf t[i].2.2) (pY t[i]) = msum t (i + 1) := (msum_succ hi).symm
    rw [e]
    exact hN _ _ ⟨_, _, rfl, rfl⟩
  · rintro σ S2 ⟨x2, x3, rfl, rfl⟩
    have el : (tabL t).length = t.length := by unfold tabL; rw [List.length_map]
    rw [el]
    have e : msum t t.length = (t.map mean1).sum := by unfold msum; rw [List.take_length]
    rw [e]
    simp only [wSs, wS, wT, wE, wEs, wO, wC, wI, wG, wGs, startD, List.map_cons, List.map_nil, List.length_cons, List.length_nil, List.replicate, List.cons_append, List.nil_append, List.append_nil, List.set_cons_zero, List.set_cons_succ, List.getElem?_cons_zero, List.getElem?_cons_succ, itT, wipeD, opAddI, opSubI, opMulI, opDivI, opModI, opPowI, opAddT, cmEq, cmNe, cmLt, cmLe, cmGt, cmGe, cmIn, eqI, eqS, inS2, truB, ixT0, ixT1, ixT2, ixT3, ixT4, ixT6, slcT, lenT, absI, intI, tupleT, listT, listRl, decide_true, decide_false, if_true, if_false, Bool.false_eq_true, reduceIte, decide_eq_true_eq, Bool.not_true, Bool.not_false, line, mI_int, mI_bool, mI_str, mI_tuple, mI_list, mB_int, mB_bool, mB_str, mB_tuple, mB_list, mS_int, mS_bool, mS_str, mS_tuple, mS_list, mT_int, mT_bool, mT_str, mT_tuple, mT_list, mN_int, mN_bool, mN_str, mN_tuple, mN_list, anyT, anyF, Nat.zero_add, Nat.reduceAdd, Nat.reduceLeDiff, true_and]
    exact ⟨S2, Sto.le_refl, hQ⟩
abbrev mr (t : List Te) (W k : Nat) : Rat := ((mk t W k : Nat) : Rat)
abbrev fS (t : List Te) (W m : Nat) : Rat := SE (fun k => mr t W k * hp k) m
abbrev gS (t : List Te) (W A m : Nat) : Rat := SE (fun i => mr t W (A + i) * hp (A + i)) m
theorem term_bd (h : Tab t W) {k : Nat} (hk : k ≤ 64) : Bd (2 ^ 64) (4 * 2 ^ 64) (mr t W k * hp k) := by
  have b := (Bd.int (mk t W k : Nat) (N := 4) (by rw [Int.natAbs_natCast]; exact mk_le h)).mul (hp_bd64 hk)
  rw [Nat.one_mul] at b
  exact b
theorem SE_bd {f : Nat → Rat} {E N : Nat} (hE : E ≠ 0) : ∀ m, (∀ i, i < m → Bd E N (f i)) → Bd E (m * N) (SE f m)
  | 0, _ => Bd.zero
  | m + 1, h => by
    have := (SE_bd hE m fun i hi => h i (by omega)).add hE (h m (by omega))
    rw [Nat.add_mul, Nat.one_mul]
    exact this
theorem frac_term (k : Nat) : mkRat ((mk t W k : Nat) : Int) (2 ^ k) = mr t W k * hp k := by
  rw [hp_mk]
  have e : mr t W k = mkRat ((mk t W k : Nat) : Int) 1 := by rw [Rat.mkRat_eq_div]; have : ((1 : Nat) : Rat) = 1 := rfl; rw [this]; show mr t W k = mr t W k / 1; grind
  rw [e, Rat.mkRat_mul_mkRat, Int.mul_one, Nat.one_mul]
theorem mean_ok (hk : 3 < k) (h : Tab t W) (h1 : spA t + spL t ≤ 64 → Q (rq (t.map mean1).sum) S) (h2 : 64 < spA t + spL t → X ⟨"NotFit", [("word", .str "tree")]⟩ S) : Γ k "least_mean" [.tup (tabL t)] S Q X := by
  cases k with
  | zero => omega
  | succ k =>
  refine gam (np := 1) (nn := 11) (b := b_least_mean) rfl rfl ?_
  simp only [b_least_mean, wSs, wS, wT, wE, wEs, wO, wC, wI, wG, wGs, startD, List.map_cons, List.map_nil, List.length_cons, List.length_nil, List.replicate, List.cons_append, List.nil_append, List.append_nil, List.set_cons_zero, List.set_cons_succ, List.getElem?_cons_zero, List.getElem?_cons_succ, itT, wipeD, opAddI, opSubI, opMulI, opDivI, opModI, opPowI, opAddT, cmEq, cmNe, cmLt, cmLe, cmGt, cmGe, cmIn, eqI, eqS, inS2, truB, ixT0, ixT1, ixT2, ixT3, ixT4, ixT6, slcT, lenT, absI, intI, tupleT, listT, listRl, decide_true, decide_false, if_true, if_false, Bool.false_eq_true, reduceIte, decide_eq_true_eq, Bool.not_true, Bool.not_false, line, mI_int, mI_bool, mI_str, mI_tuple, mI_list, mB_int, mB_bool, mB_str, mB_tuple, mB_list, mS_int, mS_bool, mS_str, mS_tuple, mS_list, mT_int, mT_bool, mT_str, mT_tuple, mT_list, mN_int, mN_bool, mN_str, mN_tuple, mN_list, anyT, anyF, Nat.zero_add, Nat.reduceAdd, Nat.reduceLeDiff, true_and]
  refine levels_ok (by omega) h (fun hAL fp fl S1 l1 hf hF => ?_) fun hAL => ⟨S, Sto.le_refl, h2 hAL⟩
  have hL : 1 ≤ spL t := (spanF_ok (t.map sp) (0, 1) (by decide)).2.2.1
  have h1 := h1 hAL
  rw [← mean_eq h hAL hL] at h1
  generalize spA t = A at h1 hAL hF ⊢
  generalize spL t = L at h1 hAL hF hL ⊢
  simp only [wSs, wS, wT, wE, wEs, wO, wC, wI, wG, wGs, startD, List.map_cons, List.map_nil, List.length_cons, List.length_nil, List.replicate, List.cons_append, List.nil_append, List.append_nil, List.set_cons_zero, List.set_cons_succ, List.getElem?_cons_zero, List.getElem?_cons_succ, itT, wipeD, opAddI, opSubI, opMulI, opDivI, opModI, opPowI, opAddT, cmEq, cmNe, cmLt, cmLe, cmGt, cmGe, cmIn, eqI, eqS, inS2, truB, ixT0, ixT1, ixT2, ixT3, ixT4, ixT6, slcT, lenT, absI, intI, tupleT, listT, listRl, decide_true, decide_false, if_true, if_false, Bool.false_eq_true, reduceIte, decide_eq_true_eq, Bool.not_true, Bool.not_false, line, mI_int, mI_bool, mI_str, mI_tuple, mI_list, mB_int, mB_bool, mB_str, mB_tuple, mB_list, mS_int, mS_bool, mS_str, mS_tuple, mS_list, mT_int, mT_bool, mT_str, mT_tuple, mT_list, mN_int, mN_bool, mN_str, mN_tuple, mN_list, anyT, anyF, Nat.zero_add, Nat.reduceAdd, Nat.reduceLeDiff, true_and]
  rw [itL hf]
  have hAB : ∀ x : Rat, x - hp L = x + -(hp L) := fun x => Rat.sub_eq_add_neg _ _
  rw [hAB] at h1
  have e0 : D.tup [.int 0, .int 1] = rq 0 := rq0.symm
  rw [e0]
  refine forL_inv (enumD fl) (fun i σ S2 => ∃ x8 x9 x10, σ = [some (.tup (tabL t)), some (rq (fS t W (min i A))), some (rq (gS t W A (i - A))), some (.int ((2 ^ i : Nat) : Int)), none, none, some (.int (A : Nat)), some (.ref fp), x8, x9, x10] ∧ S2 = S1) (fun _ σ S2 hI => by obtain ⟨_, _, _, _, rfl⟩ := hI; exact hf) ?_ ?_ ⟨none, none, none, by rw [show min 0 A = 0 by omega, show 0 - A = 0 by omega]; rfl, rfl⟩
  · rintro i dd σ S2 NX hd' ⟨x8, x9, x10, rfl, rfl⟩ hN
    obtain ⟨hi, rfl⟩ := enumD_get hd'
    have hi : i < A + L := by rw [hF.1] at hi; exact hi
    obtain ⟨q, q1, q2, q3⟩ := hF.2 i hi
    rw [List.getElem?_eq_getElem (by rw [hF.1]; exact hi)] at q2
    have q2 := Option.some.inj q2
    rw [q2]
    have s2 : Sz 2 2 := by unfold Sz; decide
    have sp2 : Sz 70 ((2 ^ i : Nat) : Int) := szn (pow_lt64 (by omega))
    have hpw : 0 < 2 ^ i := Nat.two_pow_pos i
    have hp4 : 2 ^ i < 2 ^ 250 := Nat.pow_lt_pow_right (by decide) (by omega)
    have ztm : Zq 250 (mr t W i * hp i) := (term_bd h (by omega)).zq (pow_ne 64) (by decide) (by decide)
    have ep : (2 : Int) * ((2 ^ i : Nat) : Int) = ((2 ^ (i + 1) : Nat) : Int) := by rw [Nat.pow_succ, Int.natCast_mul, Int.mul_comm]; rfl
    simp only [s_least_mean_1, wSs, wS, wT, wE, wEs, wO, wC, wI, wG, wGs, startD, List.map_cons, List.map_nil, List.length_cons, List.length_nil, List.replicate, List.cons_append, List.nil_append, List.append_nil, List.set_cons_zero, List.set_cons_succ, List.getElem?_cons_zero, List.getElem?_cons_succ, itT, wipeD, opAddI, opSubI, opMulI, opDivI, opModI, opPowI, opAddT, cmEq, cmNe, cmLt, cmLe, cmGt, cmGe, cmIn, eqI, eqS, inS2, truB, ixT0, ixT1, ixT2, ixT3, ixT4, ixT6, slcT, lenT, absI, intI, tupleT, listT, listRl, decide_true, decide_false, if_true, if_false, Bool.false_eq_true, reduceIte, decide_eq_true_eq, Bool.not_true, Bool.not_false, line, mI_int, mI_bool, mI_str, mI_tuple, mI_list, mB_int, mB_bool, mB_str, mB_tuple, mB_list, mS_int, mS_bool, mS_str, mS_tuple, mS_list, mT_int, mT_bool, mT_str, mT_tuple, mT_list, mN_int, mN_bool, mN_str, mN_tuple, mN_list, anyT, anyF, Nat.zero_add, Nat.reduceAdd, Nat.reduceLeDiff, true_and]
    by_cases hc : i < A
    · rw [if_pos (by omega)]
      refine fraction_rq (by omega) hpw hp4 ?_
      rw [frac_term]
      have zf : Zq 250 (fS t W (min i A)) := by
        refine (SE_bd (pow_ne 64) (min i A) fun j hj => term_bd h (by omega)).zq (pow_ne 64) ?_ (by decide)
        exact Nat.lt_of_le_of_lt (Nat.mul_le_mul_right _ (show min i A ≤ 64 by omega)) (by decide)
      refine plus_rq (by omega) zf.up ztm.up ?_
      have e1 : fS t W (min i A) + mr t W i * hp i = fS t W (min (i + 1) A) := by
        rw [show min i A = i by omega, show min (i + 1) A = i + 1 by omega]
        rfl
      have e2 : gS t W A (i - A) = gS t W A (i + 1 - A) := by rw [show i - A = i + 1 - A by omega]
      rw [e1, e2]
      refine ⟨s2.cm sp2, ?_⟩
      rw [ep]
      exact hN _ _ ⟨_, _, _, rfl, rfl⟩
    · rw [if_neg (by omega)]
      refine fraction_rq (by omega) hpw hp4 ?_
      rw [frac_term]
      have zg : Zq 250 (gS t W A (i - A)) := by
        refine (SE_bd (pow_ne 64) (i - A) fun j hj => term_bd (k := A + j) h (by omega)).zq (pow_ne 64) ?_ (by decide)
        exact Nat.lt_of_le_of_lt (Nat.mul_le_mul_right _ (show i - A ≤ 64 by omega)) (by decide)
      refine plus_rq (by omega) zg.up ztm.up ?_
      have e1 : gS t W A (i - A) + mr t W i * hp i = gS t W A (i + 1 - A) := by
        rw [show i + 1 - A = (i - A) + 1 by omega]
        show _ = SE _ (i - A) + mr t W (A + (i - A)) * hp (A + (i - A))
        rw [show A + (i - A) = i by omega]
      have e2 : fS t W (min i A) = fS t W (min (i + 1) A) := by rw [show min i A = min (i + 1) A by omega]
      rw [e1, e2]
      refine ⟨s2.cm sp2, ?_⟩
      rw [ep]
      exact hN _ _ ⟨_, _, _, rfl, rfl⟩
  · rintro σ S2 ⟨x8, x9, x10, rfl, rfl⟩
    rw [enumD_len, hF.1, show min (A + L) A = A by omega, show A + L - A = L by omega]
    simp only [wSs, wS, wT, wE, wEs, wO, wC, wI, wG, wGs, startD, List.map_cons, List.map_nil, List.length_cons, List.length_nil, List.replicate, List.cons_append, List.nil_append, List.append_nil, List.set_cons_zero, List.set_cons_succ, List.getElem?_cons_zero, List.getElem?_cons_succ, itT, wipeD, opAddI, opSubI, opMulI, opDivI, opModI, opPowI, opAddT, cmEq, cmNe, cmLt, cmLe, cmGt, cmGe, cmIn, eqI, eqS, inS2, truB, ixT0, ixT1, ixT2, ixT3, ixT4, ixT6, slcT, lenT, absI, intI, tupleT, listT, listRl, decide_true, decide_false, if_true, if_false, Bool.false_eq_true, reduceIte, decide_eq_true_eq, Bool.not_true, Bool.not_false, line, mI_int, mI_bool, mI_str, mI_tuple, mI_list, mB_int, mB_bool, mB_str, mB_tuple, mB_list, mS_int, mS_bool, mS_str, mS_tuple, mS_list, mT_int, mT_bool, mT_str, mT_tuple, mT_list, mN_int, mN_bool, mN_str, mN_tuple, mN_list, anyT, anyF, Nat.zero_add, Nat.reduceAdd, Nat.reduceLeDiff, true_and]
    rw [lenL hf, hF.1]
    simp only [opSubI]
    refine ⟨by unfold inB; omega, ?_⟩
    have eL : (((A + L : Nat) : Int) - (A : Int)).toNat = L := by omega
    rw [eL]
    refine forL_inv (rngD 0 L) (fun i σ S3 => ∃ x5, σ = [some (.tup (tabL t)), some (rq (fS t W A)), some (rq (gS t W A L)), some (.int ((2 ^ (A + L) : Nat) : Int)), some (.int ((2 ^ i : Nat) : Int)), x5, some (.int (A : Nat)), some (.ref fp), x8, x9, x10] ∧ S3 = S2) (fun _ _ _ _ => trivial) ?_ ?_ ⟨_, rfl, rfl⟩
    · rintro i dd σ S3 NX hd' ⟨x5, rfl, rfl⟩ hN
      have hi : i < L := by
        have := (List.getElem?_eq_some_iff.mp hd').1
        simpa [rngD] using this
      have s2 : Sz 2 2 := by unfold Sz; decide
      have sp2 : Sz 70 ((2 ^ i : Nat) : Int) := szn (pow_lt64 (by omega))
      have ep : (2 : Int) * ((2 ^ i : Nat) : Int) = ((2 ^ (i + 1) : Nat) : Int) := by rw [Nat.pow_succ, Int.natCast_mul, Int.mul_comm]; rfl
      simp only [s_least_mean_2, wSs, wS, wT, wE, wEs, wO, wC, wI, wG, wGs, startD, List.map_cons, List.map_nil, List.length_cons, List.length_nil, List.replicate, List.cons_append, List.nil_append, List.append_nil, List.set_cons_zero, List.set_cons_succ, List.getElem?_cons_zero, List.getElem?_cons_succ, itT, wipeD, opAddI, opSubI, opMulI, opDivI, opModI, opPowI, opAddT, cmEq, cmNe, cmLt, cmLe, cmGt, cmGe, cmIn, eqI, eqS, inS2, truB, ixT0, ixT1, ixT2, ixT3, ixT4, ixT6, slcT, lenT, absI, intI, tupleT, listT, listRl, decide_true, decide_false, if_true, if_false, Bool.false_eq_true, reduceIte, decide_eq_true_eq, Bool.not_true, Bool.not_false, line, mI_int, mI_bool, mI_str, mI_tuple, mI_list, mB_int, mB_bool, mB_str, mB_tuple, mB_list, mS_int, mS_bool, mS_str, mS_tuple, mS_list, mT_int, mT_bool, mT_str, mT_tuple, mT_list, mN_int, mN_bool, mN_str, mN_tuple, mN_list, anyT, anyF, Nat.zero_add, Nat.reduceAdd, Nat.reduceLeDiff, true_and]
      rw [ep]
      exact ⟨s2.cm sp2, hN _ _ ⟨_, rfl, rfl⟩⟩
    · rintro σ S3 ⟨x5, rfl, rfl⟩
      have hlen : (rngD 0 L).length = L := by simp [rngD]
      rw [hlen]
      simp only [wSs, wS, wT, wE, wEs, wO, wC, wI, wG, wGs, startD, List.map_cons, List.map_nil, List.length_cons, List.length_nil, List.replicate, List.cons_append, List.nil_append, List.append_nil, List.set_cons_zero, List.set_cons_succ, List.getElem?_cons_zero, List.getElem?_cons_succ, itT, wipeD, opAddI, opSubI, opMulI, opDivI, opModI, opPowI, opAddT, cmEq, cmNe, cmLt, cmLe, cmGt, cmGe, cmIn, eqI, eqS, inS2, truB, ixT0, ixT1, ixT2, ixT3, ixT4, ixT6, slcT, lenT, absI, intI, tupleT, listT, listRl, decide_true, decide_false, if_true, if_false, Bool.false_eq_true, reduceIte, decide_eq_true_eq, Bool.not_true, Bool.not_false, line, mI_int, mI_bool, mI_str, mI_tuple, mI_list, mB_int, mB_bool, mB_str, mB_tuple, mB_list, mS_int, mS_bool, mS_str, mS_tuple, mS_list, mT_int, mT_bool, mT_str, mT_tuple, mT_list, mN_int, mN_bool, mN_str, mN_tuple, mN_list, anyT, anyF, Nat.zero_add, Nat.reduceAdd, Nat.reduceLeDiff, true_and]
      have hLl : L ≤ 64 := by omega
      have e1 : ((2 ^ L : Nat) : Int) - 1 = ((RR L : Nat) : Int) := by
        have := Nat.two_pow_pos L
        show _ = ((2 ^ L - 1 : Nat) : Int)
        omega
      rw [e1]
      refine fraction_rq (by omega) (Nat.two_pow_pos L) (Nat.pow_lt_pow_right (by decide) (by omega)) ?_
      rw [← rst_mk]
      have b1 : Bd (2 ^ 64) (64 * (4 * 2 ^ 64)) (gS t W A L) := (SE_bd (pow_ne 64) L fun j hj => term_bd (k := A + j) h (by omega)).mono (Nat.mul_le_mul_right _ hLl)
      have zg : Zq 250 (gS t W A L) := b1.zq (pow_ne 64) (by decide) (by decide)
      have zf : Zq 250 (fS t W A) := by
        refine (SE_bd (pow_ne 64) A fun j hj => term_bd h (by omega)).zq (pow_ne 64) ?_ (by decide)
        exact Nat.lt_of_le_of_lt (Nat.mul_le_mul_right _ (show A ≤ 64 by omega)) (by decide)
      have zr := rst_zq hLl
      refine over_rq (by omega) zg.up zr.up (num_pos (rst_pos hL)) ?_
      have zq : Zq 250 (gS t W A L / rst L) := by
        have h0 := RR_pos hL
        have b2 : Bd (RR L) (2 ^ 64) (1 / rst L) := by
          have e := inv_mk (x := 1) (A := RR L) (B := 2 ^ L) (by omega) (pow_ne L) _ (rst_mk L)
          refine ⟨_, e, ?_⟩
          rw [Int.one_mul, Int.natAbs_natCast]
          exact Nat.pow_le_pow_right (by decide) hLl
        have e : gS t W A L / rst L = gS t W A L * (1 / rst L) := by
          generalize gS t W A L = g
          generalize rst L = r
          grind
        rw [e]
        refine (b1.mul b2).zq (Nat.mul_ne_zero (pow_ne 64) (by omega)) (by decide) ?_
        exact Nat.lt_of_le_of_lt (Nat.mul_le_mul_left _ (RR_le hLl)) (by decide)
      refine plus_rq (by omega) zf.up zq.up ?_
      exact ⟨S, l1, h1⟩
end K50
namespace K50
open PySem PySem.Spec PyProof.Rows L2 Mi
variable {k : Nat} {S : Sto} {Q : KD} {X : KX} {n d s o i j T p : Nat} {t : List Te} {W : Nat}
theorem told_tree_ok (hk : 4 < k) (h : Tab t W) (h1 : spA t + spL t ≤ 64 → Q (.tup [.str "told", .tup (trL t W (spA t) (spA t + spL t) (spA t + spL t))]) S) (h2 : 64 < spA t + spL t → Q (.tup [.str "raised", .str "tree"]) S) : Γ k "_law_told_tree" [.tup (tabL t)] S Q X := by
  cases k with
  | zero => omega
  | succ k =>
  refine gam (np := 1) (nn := 2) (b := b__law_told_tree) rfl rfl ?_
  simp only [b__law_told_tree, wSs, wS, wT, wE, wEs, wO, wC, wI, wG, wGs, startD, List.map_cons, List.map_nil, List.length_cons, List.length_nil, List.replicate, List.cons_append, List.nil_append, List.append_nil, List.set_cons_zero, List.set_cons_succ, List.getElem?_cons_zero, List.getElem?_cons_succ, itT, wipeD, opAddI, opSubI, opMulI, opDivI, opModI, opPowI, opAddT, cmEq, cmNe, cmLt, cmLe, cmGt, cmGe, cmIn, eqI, eqS, inS2, truB, ixT0, ixT1, ixT2, ixT3, ixT4, ixT6, slcT, lenT, absI, intI, tupleT, listT, listRl, decide_true, decide_false, if_true, if_false, Bool.false_eq_true, reduceIte, decide_eq_true_eq, Bool.not_true, Bool.not_false, line, mI_int, mI_bool, mI_str, mI_tuple, mI_list, mB_int, mB_bool, mB_str, mB_tuple, mB_list, mS_int, mS_bool, mS_str, mS_tuple, mS_list, mT_int, mT_bool, mT_str, mT_tuple, mT_list, mN_int, mN_bool, mN_str, mN_tuple, mN_list, anyT, anyF, Nat.zero_add, Nat.reduceAdd, Nat.reduceLeDiff, true_and]
  refine tree_ok (by omega) h (fun hc => ⟨S, Sto.le_refl, h1 hc⟩) fun hc => ?_
  have e1 : List.lookup ("NotFit" : Str) [(("NotFit" : Str), true)] = some true := by decide +kernel
  simp only [e1, if_true]
  exact ⟨by decide, S, Sto.le_refl, h2 hc⟩
theorem told_mean_ok (hk : 4 < k) (h : Tab t W) (h1 : spA t + spL t ≤ 64 → Q (.tup [.str "told", rq (t.map mean1).sum]) S) (h2 : 64 < spA t + spL t → Q (.tup [.str "raised", .str "tree"]) S) : Γ k "_law_told_mean" [.tup (tabL t)] S Q X := by
  cases k with
  | zero => omega
  | succ k =>
  refine gam (np := 1) (nn := 2) (b := b__law_told_mean) rfl rfl ?_
  simp only [b__law_told_mean, wSs, wS, wT, wE, wEs, wO, wC, wI, wG, wGs, startD, List.map_cons, List.map_nil, List.length_cons, List.length_nil, List.replicate, List.cons_append, List.nil_append, List.append_nil, List.set_cons_zero, List.set_cons_succ, List.getElem?_cons_zero, List.getElem?_cons_succ, itT, wipeD, opAddI, opSubI, opMulI, opDivI, opModI, opPowI, opAddT, cmEq, cmNe, cmLt, cmLe, cmGt, cmGe, cmIn, eqI, eqS, inS2, truB, ixT0, ixT1, ixT2, ixT3, ixT4, ixT6, slcT, lenT, absI, intI, tupleT, listT, listRl, decide_true, decide_false, if_true, if_false, Bool.false_eq_true, reduceIte, decide_eq_true_eq, Bool.not_true, Bool.not_false, line, mI_int, mI_bool, mI_str, mI_tuple, mI_list, mB_int, mB_bool, mB_str, mB_tuple, mB_list, mS_int, mS_bool, mS_str, mS_tuple, mS_list, mT_int, mT_bool, mT_str, mT_tuple, mT_list, mN_int, mN_bool, mN_str, mN_tuple, mN_list, anyT, anyF, Nat.zero_add, Nat.reduceAdd, Nat.reduceLeDiff, true_and]
  refine mean_ok (by omega) h (fun hc => ⟨S, Sto.le_refl, h1 hc⟩) fun hc => ?_
  have e1 : List.lookup ("NotFit" : Str) [(("NotFit" : Str), true)] = some true := by decide +kernel
  simp only [e1, if_true]
  exact ⟨by decide, S, Sto.le_refl, h2 hc⟩
theorem sid_ok {A N m : Nat} {x : D} (hx : x ∈ sid t W A N m) : Mi.ok 1 x = true := by
  unfold sid at hx
  rcases List.mem_append.mp hx with hx | hx
  · obtain ⟨y, hy, rfl⟩ := List.mem_map.mp hx
    unfold toL at hy
    obtain ⟨e, _, he⟩ := List.mem_filterMap.mp hy
    unfold tel at he
    split at he
    case isTrue =>
      cases he
      exact ok2 ok_str ok_int
    case isFalse => cases he
  · unfold nod at hx
    obtain ⟨j, _, rfl⟩ := List.mem_map.mp hx
    exact ok2 ok_str ok_int
theorem trL_ok {A N : Nat} : ∀ i, ∀ x ∈ trL t W A N i, Mi.ok 2 x = true
  | 0, x, hx => by cases hx
  | i + 1, x, hx => by
    rcases List.mem_append.mp (show x ∈ trL t W A N i ++ trJ (sid t W A N i) (mk t W i) from hx) with hx | hx
    · exact trL_ok i x hx
    · unfold trJ at hx
      obtain ⟨j, hj, rfl⟩ := List.mem_map.mp hx
      rw [List.mem_range] at hj
      have hl := sid_len (t := t) (W := W) (A := A) (N := N) (k := i)
      have g : ∀ e, e < (sid t W A N i).length → Mi.ok 1 ((sid t W A N i).getD e .non) = true := fun e he => by
        rw [List.getD_eq_getElem?_getD, List.getElem?_eq_getElem he]
        exact sid_ok (List.getElem_mem he)
      exact ok2 (g _ (by omega)) (g _ (by omega))
theorem tree_fits_ok (hk : 8 < k) (h : Tab t W) (hQ : Q (.bl true) S) : Γ k "_law_tree_fits" [.tup (tabL t)] S Q X := by
  cases k with
  | zero => omega
  | succ k =>
  refine gam (np := 1) (nn := 5) (b := b__law_tree_fits) rfl rfl ?_
  have eR : ∀ QB : Bool → Prop, eqR (.tup [.str "raised", .str "tree"]) (.tup [.str "raised", .str "tree"]) S QB = QB true := fun QB => eqC rfl rfl (by decide +kernel) (by decide +kernel)
  obtain ⟨a1, a2⟩ := sp_alike (t := t)
  simp only [b__law_tree_fits, wSs, wS, wT, wE, wEs, wO, wC, wI, wG, wGs, startD, List.map_cons, List.map_nil, List.length_cons, List.length_nil, List.replicate, List.cons_append, List.nil_append, List.append_nil, List.set_cons_zero, List.set_cons_succ, List.getElem?_cons_zero, List.getElem?_cons_succ, itT, wipeD, opAddI, opSubI, opMulI, opDivI, opModI, opPowI, opAddT, cmEq, cmNe, cmLt, cmLe, cmGt, cmGe, cmIn, eqI, eqS, inS2, truB, ixT0, ixT1, ixT2, ixT3, ixT4, ixT6, slcT, lenT, absI, intI, tupleT, listT, listRl, decide_true, decide_false, if_true, if_false, Bool.false_eq_true, reduceIte, decide_eq_true_eq, Bool.not_true, Bool.not_false, line, mI_int, mI_bool, mI_str, mI_tuple, mI_list, mB_int, mB_bool, mB_str, mB_tuple, mB_list, mS_int, mS_bool, mS_str, mS_tuple, mS_list, mT_int, mT_bool, mT_str, mT_tuple, mT_list, mN_int, mN_bool, mN_str, mN_tuple, mN_list, anyT, anyF, Nat.zero_add, Nat.reduceAdd, Nat.reduceLeDiff, true_and]
  refine lspan_ok (by omega) h ?_
  by_cases hc : spA t + spL t ≤ 64
  · rw [a1 hc]
    simp only [wSs, wS, wT, wE, wEs, wO, wC, wI, wG, wGs, startD, List.map_cons, List.map_nil, List.length_cons, List.length_nil, List.replicate, List.cons_append, List.nil_append, List.append_nil, List.set_cons_zero, List.set_cons_succ, List.getElem?_cons_zero, List.getElem?_cons_succ, itT, wipeD, opAddI, opSubI, opMulI, opDivI, opModI, opPowI, opAddT, cmEq, cmNe, cmLt, cmLe, cmGt, cmGe, cmIn, eqI, eqS, inS2, truB, ixT0, ixT1, ixT2, ixT3, ixT4, ixT6, slcT, lenT, absI, intI, tupleT, listT, listRl, decide_true, decide_false, if_true, if_false, Bool.false_eq_true, reduceIte, decide_eq_true_eq, Bool.not_true, Bool.not_false, line, mI_int, mI_bool, mI_str, mI_tuple, mI_list, mB_int, mB_bool, mB_str, mB_tuple, mB_list, mS_int, mS_bool, mS_str, mS_tuple, mS_list, mT_int, mT_bool, mT_str, mT_tuple, mT_list, mN_int, mN_bool, mN_str, mN_tuple, mN_list, anyT, anyF, Nat.zero_add, Nat.reduceAdd, Nat.reduceLeDiff, true_and]
    refine told_tree_ok (by omega) h (fun _ => ?_) fun z => absurd hc (by omega)
    simp only [wSs, wS, wT, wE, wEs, wO, wC, wI, wG, wGs, startD, List.map_cons, List.map_nil, List.length_cons, List.length_nil, List.replicate, List.cons_append, List.nil_append, List.append_nil, List.set_cons_zero, List.set_cons_succ, List.getElem?_cons_zero, List.getElem?_cons_succ, itT, wipeD, opAddI, opSubI, opMulI, opDivI, opModI, opPowI, opAddT, cmEq, cmNe, cmLt, cmLe, cmGt, cmGe, cmIn, eqI, eqS, inS2, truB, ixT0, ixT1, ixT2, ixT3, ixT4, ixT6, slcT, lenT, absI, intI, tupleT, listT, listRl, decide_true, decide_false, if_true, if_false, Bool.false_eq_true, reduceIte, decide_eq_true_eq, Bool.not_true, Bool.not_false, line, mI_int, mI_bool, mI_str, mI_tuple, mI_list, mB_int, mB_bool, mB_str, mB_tuple, mB_list, mS_int, mS_bool, mS_str, mS_tuple, mS_list, mT_int, mT_bool, mT_str, mT_tuple, mT_list, mN_int, mN_bool, mN_str, mN_tuple, mN_list, anyT, anyF, Nat.zero_add, Nat.reduceAdd, Nat.reduceLeDiff, true_and]
    refine told_mean_ok (by omega) h (fun _ => ?_) fun z => absurd hc (by omega)
    simp only [wSs, wS, wT, wE, wEs, wO, wC, wI, wG, wGs, startD, List.map_cons, List.map_nil, List.length_cons, List.length_nil, List.replicate, List.cons_append, List.nil_append, List.append_nil, List.set_cons_zero, List.set_cons_succ, List.getElem?_cons_zero, List.getElem?_cons_succ, itT, wipeD, opAddI, opSubI, opMulI, opDivI, opModI, opPowI, opAddT, cmEq, cmNe, cmLt, cmLe, cmGt, cmGe, cmIn, eqI, eqS, inS2, truB, ixT0, ixT1, ixT2, ixT3, ixT4, ixT6, slcT, lenT, absI, intI, tupleT, listT, listRl, decide_true, decide_false, if_true, if_false, Bool.false_eq_true, reduceIte, decide_eq_true_eq, Bool.not_true, Bool.not_false, line, mI_int, mI_bool, mI_str, mI_tuple, mI_list, mB_int, mB_bool, mB_str, mB_tuple, mB_list, mS_int, mS_bool, mS_str, mS_tuple, mS_list, mT_int, mT_bool, mT_str, mT_tuple, mT_list, mN_int, mN_bool, mN_str, mN_tuple, mN_list, anyT, anyF, Nat.zero_add, Nat.reduceAdd, Nat.reduceLeDiff, true_and]
    rw [if_neg (by omega)]
    refine due_tree_ok (A := spA t) (L := spL t) (by omega) h hc ?_
    refine same_ok 3 _ _ _ _ _ (by omega) (ok_mk (Nat.le_trans (trL_len h _) (by omega)) (trL_ok _)) ?_
    simp only [wSs, wS, wT, wE, wEs, wO, wC, wI, wG, wGs, startD, List.map_cons, List.map_nil, List.length_cons, List.length_nil, List.replicate, List.cons_append, List.nil_append, List.append_nil, List.set_cons_zero, List.set_cons_succ, List.getElem?_cons_zero, List.getElem?_cons_succ, itT, wipeD, opAddI, opSubI, opMulI, opDivI, opModI, opPowI, opAddT, cmEq, cmNe, cmLt, cmLe, cmGt, cmGe, cmIn, eqI, eqS, inS2, truB, ixT0, ixT1, ixT2, ixT3, ixT4, ixT6, slcT, lenT, absI, intI, tupleT, listT, listRl, decide_true, decide_false, if_true, if_false, Bool.false_eq_true, reduceIte, decide_eq_true_eq, Bool.not_true, Bool.not_false, line, mI_int, mI_bool, mI_str, mI_tuple, mI_list, mB_int, mB_bool, mB_str, mB_tuple, mB_list, mS_int, mS_bool, mS_str, mS_tuple, mS_list, mT_int, mT_bool, mT_str, mT_tuple, mT_list, mN_int, mN_bool, mN_str, mN_tuple, mN_list, anyT, anyF, Nat.zero_add, Nat.reduceAdd, Nat.reduceLeDiff, true_and]
    refine ltree_mean_ok (by omega) h hc ?_
    refine same_ok 1 _ _ _ _ _ (by omega) (ok2 ok_int ok_int) ?_
    exact ⟨S, Sto.le_refl, hQ⟩
  · have a2 := a2 (by omega)
    generalize spanF (t.map sp') = z at a2 ⊢
    simp only [wSs, wS, wT, wE, wEs, wO, wC, wI, wG, wGs, startD, List.map_cons, List.map_nil, List.length_cons, List.length_nil, List.replicate, List.cons_append, List.nil_append, List.append_nil, List.set_cons_zero, List.set_cons_succ, List.getElem?_cons_zero, List.getElem?_cons_succ, itT, wipeD, opAddI, opSubI, opMulI, opDivI, opModI, opPowI, opAddT, cmEq, cmNe, cmLt, cmLe, cmGt, cmGe, cmIn, eqI, eqS, inS2, truB, ixT0, ixT1, ixT2, ixT3, ixT4, ixT6, slcT, lenT, absI, intI, tupleT, listT, listRl, decide_true, decide_false, if_true, if_false, Bool.false_eq_true, reduceIte, decide_eq_true_eq, Bool.not_true, Bool.not_false, line, mI_int, mI_bool, mI_str, mI_tuple, mI_list, mB_int, mB_bool, mB_str, mB_tuple, mB_list, mS_int, mS_bool, mS_str, mS_tuple, mS_list, mT_int, mT_bool, mT_str, mT_tuple, mT_list, mN_int, mN_bool, mN_str, mN_tuple, mN_list, anyT, anyF, Nat.zero_add, Nat.reduceAdd, Nat.reduceLeDiff, true_and]
    refine told_tree_ok (by omega) h (fun z => absurd z hc) fun _ => ?_
    simp only [wSs, wS, wT, wE, wEs, wO, wC, wI, wG, wGs, startD, List.map_cons, List.map_nil, List.length_cons, List.length_nil, List.replicate, List.cons_append, List.nil_append, List.append_nil, List.set_cons_zero, List.set_cons_succ, List.getElem?_cons_zero, List.getElem?_cons_succ, itT, wipeD, opAddI, opSubI, opMulI, opDivI, opModI, opPowI, opAddT, cmEq, cmNe, cmLt, cmLe, cmGt, cmGe, cmIn, eqI, eqS, inS2, truB, ixT0, ixT1, ixT2, ixT3, ixT4, ixT6, slcT, lenT, absI, intI, tupleT, listT, listRl, decide_true, decide_false, if_true, if_false, Bool.false_eq_true, reduceIte, decide_eq_true_eq, Bool.not_true, Bool.not_false, line, mI_int, mI_bool, mI_str, mI_tuple, mI_list, mB_int, mB_bool, mB_str, mB_tuple, mB_list, mS_int, mS_bool, mS_str, mS_tuple, mS_list, mT_int, mT_bool, mT_str, mT_tuple, mT_list, mN_int, mN_bool, mN_str, mN_tuple, mN_list, anyT, anyF, Nat.zero_add, Nat.reduceAdd, Nat.reduceLeDiff, true_and]
    refine told_mean_ok (by omega) h (fun z => absurd z hc) fun _ => ?_
    simp only [wSs, wS, wT, wE, wEs, wO, wC, wI, wG, wGs, startD, List.map_cons, List.map_nil, List.length_cons, List.length_nil, List.replicate, List.cons_append, List.nil_append, List.append_nil, List.set_cons_zero, List.set_cons_succ, List.getElem?_cons_zero, List.getElem?_cons_succ, itT, wipeD, opAddI, opSubI, opMulI, opDivI, opModI, opPowI, opAddT, cmEq, cmNe, cmLt, cmLe, cmGt, cmGe, cmIn, eqI, eqS, inS2, truB, ixT0, ixT1, ixT2, ixT3, ixT4, ixT6, slcT, lenT, absI, intI, tupleT, listT, listRl, decide_true, decide_false, if_true, if_false, Bool.false_eq_true, reduceIte, decide_eq_true_eq, Bool.not_true, Bool.not_false, line, mI_int, mI_bool, mI_str, mI_tuple, mI_list, mB_int, mB_bool, mB_str, mB_tuple, mB_list, mS_int, mS_bool, mS_str, mS_tuple, mS_list, mT_int, mT_bool, mT_str, mT_tuple, mT_list, mN_int, mN_bool, mN_str, mN_tuple, mN_list, anyT, anyF, Nat.zero_add, Nat.reduceAdd, Nat.reduceLeDiff, true_and]
    rw [if_pos (by omega), eR]
    simp only [opAddI, opSubI, opMulI, opDivI, opModI, opPowI, opAddT, cmEq, cmNe, cmLt, cmLe, cmGt, cmGe, cmIn, eqI, eqS, inS2, truB, ixT0, ixT1, ixT2, ixT3, ixT4, ixT6, slcT, lenT, absI, intI, tupleT, listT, listRl, decide_true, decide_false, if_true, if_false, Bool.false_eq_true, reduceIte, decide_eq_true_eq, Bool.not_true, Bool.not_false, line, mI_int, mI_bool, mI_str, mI_tuple, mI_list, mB_int, mB_bool, mB_str, mB_tuple, mB_list, mS_int, mS_bool, mS_str, mS_tuple, mS_list, mT_int, mT_bool, mT_str, mT_tuple, mT_list, mN_int, mN_bool, mN_str, mN_tuple, mN_list, anyT, anyF, Nat.zero_add, Nat.reduceAdd, Nat.reduceLeDiff, true_and]
    rw [eR]
    exact ⟨S, Sto.le_refl, hQ⟩
end K50
namespace K50
open PySem PySem.Spec PyProof.Rows L2 Mi
variable {k : Nat} {S : Sto} {Q : KD} {X : KX} {pp : Addr} {n d s o i j T p : Nat} {t : List Te} {W : Nat}
theorem Stt.upd {S : Sto} {a p : Addr} {z : Nat} {c : Cell} (st : Stt S a pp z) (h1 : p ≠ a) (h2 : p ≠ pp) : Stt (S.upd p c) a pp z := by
  obtain ⟨ns, x, y, w, ext, ha, hp, r⟩ := st
  exact ⟨ns, x, y, w, ext, by rw [Sto.upd_ne (Ne.symm h1)]; exact ha, by rw [Sto.upd_ne (Ne.symm h2)]; exact hp, r⟩
theorem Stt.np {S : Sto} {a q : Addr} {z : Nat} (st : Stt S a pp z) (h : S q = none) : q ≠ pp := by
  obtain ⟨ns, x, y, w, ext, ha, hp, _⟩ := st
  exact (Sto.ne_of hp h).symm
theorem cmpL_inv {tg : Tg} {e : En → Sto → KD → Prop} {chk : Sto → Prop} {σ : En} {S : Sto} {Q : List D → Sto → Prop} (l : List D) (I : Nat → List D → Sto → Prop) (hchk : ∀ i acc S, I i acc S → chk S)
    (step : ∀ i d acc S (P : KD), l[i]? = some d → I i acc S → (∀ v S', I (i + 1) (acc ++ [v]) S' → P v S') → wG tg d σ fun σ' => e σ' S P)
    (fin : ∀ ds S', I l.length ds S' → Q ds S') (h0 : I 0 [] S) : cmpL tg (fun _ S' Q' => Q' true S') e chk l σ S Q := by
  have key : ∀ (r : List D) (i : Nat) (acc : List D) (S : Sto), l.drop i = r → i ≤ l.length → I i acc S → cmpL tg (fun _ S' Q' => Q' true S') e chk r σ S fun vs S' => Q (acc ++ vs) S' := by
    intro r
    induction r with
    | nil =>
      intro i acc S hd hi h
      have ei : i = l.length := by
        have := congrArg List.length hd
        rw [List.length_drop, List.length_nil] at this
        omega
      subst ei
      refine ⟨hchk _ _ _ h, ?_⟩
      show Q (acc ++ []) S
      rw [List.append_nil]
      exact fin _ _ h
    | cons d r ih =>
      intro i acc S hd hi h
      have hl : i < l.length := by
        have := congrArg List.length hd
        rw [List.length_drop, List.length_cons] at this
        omega
      have hdr := List.drop_eq_getElem_cons hl
      rw [hd] at hdr
      injection hdr with e1 e2
      refine ⟨hchk _ _ _ h, ?_⟩
      have := step i d acc S (fun v S2 => cmpL tg (fun _ S' Q' => Q' true S') e chk r σ S2 fun vs S3 => Q (acc ++ (v :: vs)) S3) (by rw [List.getElem?_eq_getElem hl, e1]) h fun v S' h' => by
        have := ih (i + 1) (acc ++ [v]) S' e2.symm hl h'
        simpa only [List.append_assoc, List.singleton_append] using this
      simpa only [if_true] using this
  exact key l 0 [] S rfl (Nat.zero_le _) h0
def nrT (W w : Nat) : Nat × Nat := (w / Nat.gcd w W, W / Nat.gcd w W)
theorem nrm_nat (w W : Nat) : nrm (w : Int) (W : Int) = fr (nrT W w).1 (nrT W w).2 := rfl
theorem tab_of {ws : List Nat} (ht : t.map (·.2) = ws.map (nrT W)) (h1 : ∀ w ∈ ws, 0 < w ∧ w < W) (hl : ws.length ≤ 4) (hs : ws.sum = W) (h0 : 0 < W) (hW : W < 256) : Tab t W := by
  have key : ∀ w ∈ ws, (nrT W w).1 < (nrT W w).2 ∧ Nat.gcd (nrT W w).1 (nrT W w).2 = 1 ∧ (nrT W w).2 ∣ W ∧ (nrT W w).1 * (W / (nrT W w).2) = w := by
    intro w hw
    obtain ⟨w0, w1⟩ := h1 w hw
    have hg : 0 < Nat.gcd w W := Nat.gcd_pos_of_pos_left _ w0
    have d1 := Nat.gcd_dvd_left w W
    have d2 := Nat.gcd_dvd_right w W
    have m1 := Nat.div_mul_cancel d1
    have m2 := Nat.div_mul_cancel d2
    unfold nrT
    dsimp only
    refine ⟨?_, Nat.coprime_div_gcd_div_gcd hg, Nat.div_dvd_of_dvd d2, ?_⟩
    · refine Nat.lt_of_mul_lt_mul_right (a := Nat.gcd w W) ?_
      rw [m1, m2]
      exact w1
    · rw [Nat.div_div_self d2 (by omega), m1]
  have hy : ∀ y ∈ t, ∃ w ∈ ws, y.2 = nrT W w := fun y hy => by
    have : y.2 ∈ t.map (·.2) := List.mem_map_of_mem hy
    rw [ht] at this
    obtain ⟨w, hw, e⟩ := List.mem_map.mp this
    exact ⟨w, hw, e.symm⟩
  refine ⟨fun y hy' => ?_, ?_, h0, hW, ?_⟩
  · obtain ⟨w, hw, e⟩ := hy y hy'
    rw [e]
    obtain ⟨k1, k2, k3, _⟩ := key w hw
    exact ⟨k1, k2, k3⟩
  · have := congrArg List.length ht
    rw [List.length_map, List.length_map] at this
    omega
  · have e1 : (t.map fun y => y.2.1 * (W / y.2.2)) = (t.map (·.2)).map fun q => q.1 * (W / q.2) := by rw [List.map_map]; rfl
    rw [e1, ht, List.map_map]
    have e2 : ws.map ((fun q : Nat × Nat => q.1 * (W / q.2)) ∘ nrT W) = ws := by
      refine (List.map_congr_left fun w hw => ?_).trans (List.map_id _)
      exact (key w hw).2.2.2
    rw [e2, hs]
def wtL (ws : List Nat) : List D := ws.map fun (w : Nat) => D.int (w : Int)
theorem wtL_ints (ws : List Nat) : asInts (wtL ws) = some (ws.map fun (w : Nat) => (w : Int)) := by
  unfold wtL
  rw [← asInts_map, List.map_map]
  rfl
theorem sum_cast' : ∀ l : List Nat, (l.map fun (w : Nat) => (w : Int)).sum = ((l.sum : Nat) : Int)
  | [] => rfl
  | y :: l => by simp only [List.map_cons, List.sum_cons, sum_cast' l, Int.natCast_add]
theorem sum_ge : ∀ (l : List Nat) (b : Nat), (∀ w ∈ l, w ≤ b) → l.sum ≤ l.length * b
  | [], _, _ => by simp
  | y :: l, b, h => by
    have h1 := h y List.mem_cons_self
    have h2 := sum_ge l b fun x hx => h x (List.mem_cons_of_mem _ hx)
    simp only [List.sum_cons, List.length_cons, Nat.add_mul, Nat.one_mul]
    omega
theorem mem_le_sum : ∀ (l : List Nat), ∀ w ∈ l, w ≤ l.sum
  | [], _, h => by cases h
  | x :: l, w, h => by
    rw [List.sum_cons]
    rcases List.mem_cons.mp h with rfl | h
    · omega
    · have := mem_le_sum l w h
      omega
theorem sum_mem : ∀ (l : List Nat), 2 ≤ l.length → (∀ w ∈ l, 0 < w) → ∀ w ∈ l, w < l.sum
  | [], h, _, _, _ => by simp at h
  | [_], h, _, _, _ => by simp at h
  | x :: y :: l, _, h, w, hw => by
    have hx := h x List.mem_cons_self
    have hy := h y (List.mem_cons_of_mem _ List.mem_cons_self)
    have hge : ∀ w ∈ y :: l, w ≤ (y :: l).sum := mem_le_sum (y :: l)
    have hpos : 0 < (y :: l).sum := by
      have := hge y List.mem_cons_self
      omega
    rw [List.sum_cons]
    rcases List.mem_cons.mp hw with rfl | hw
    · omega
    · have := hge w hw
      omega
theorem some_table_ok {a : Addr} {z : Nat} (hk : 3 < k) (hz : z < 2 ^ 40) (st : Stt S a pp z) (hQ : ∀ t W S', Tab t W → S.off a S' → Stt S' a pp (z + 20) → Q (.tup (tabL t)) S') : Γ k "_law_some_table_of" [.ref a] S Q X := by
  cases k with
  | zero => omega
  | succ k =>
  refine gam (np := 1) (nn := 8) (b := b__law_some_table_of) rfl rfl ?_
  simp only [b__law_some_table_of, wSs, wS, wT, wE, wEs, wO, wC, wI, wG, wGs, startD, List.map_cons, List.map_nil, List.length_cons, List.length_nil, List.replicate, List.cons_append, List.nil_append, List.append_nil, List.set_cons_zero, List.set_cons_succ, List.getElem?_cons_zero, List.getElem?_cons_succ, itT, wipeD, opAddI, opSubI, opMulI, opDivI, opModI, opPowI, opAddT, cmEq, cmNe, cmLt, cmLe, cmGt, cmGe, cmIn, eqI, eqS, inS2, truB, ixT0, ixT1, ixT2, ixT3, ixT4, ixT6, slcT, lenT, absI, intI, tupleT, listT, listRl, decide_true, decide_false, if_true, if_false, Bool.false_eq_true, reduceIte, decide_eq_true_eq, Bool.not_true, Bool.not_false, line, mI_int, mI_bool, mI_str, mI_tuple, mI_list, mB_int, mB_bool, mB_str, mB_tuple, mB_list, mS_int, mS_bool, mS_str, mS_tuple, mS_list, mT_int, mT_bool, mT_str, mT_tuple, mT_list, mN_int, mN_bool, mN_str, mN_tuple, mN_list, anyT, anyF, Nat.zero_add, Nat.reduceAdd, Nat.reduceLeDiff, true_and]
  refine draw_ok (by omega) (by omega) (by omega) (by omega) st fun r S1 r0 r1 o1 st1 => ?_
  simp only [wSs, wS, wT, wE, wEs, wO, wC, wI, wG, wGs, startD, List.map_cons, List.map_nil, List.length_cons, List.length_nil, List.replicate, List.cons_append, List.nil_append, List.append_nil, List.set_cons_zero, List.set_cons_succ, List.getElem?_cons_zero, List.getElem?_cons_succ, itT, wipeD, opAddI, opSubI, opMulI, opDivI, opModI, opPowI, opAddT, cmEq, cmNe, cmLt, cmLe, cmGt, cmGe, cmIn, eqI, eqS, inS2, truB, ixT0, ixT1, ixT2, ixT3, ixT4, ixT6, slcT, lenT, absI, intI, tupleT, listT, listRl, decide_true, decide_false, if_true, if_false, Bool.false_eq_true, reduceIte, decide_eq_true_eq, Bool.not_true, Bool.not_false, line, mI_int, mI_bool, mI_str, mI_tuple, mI_list, mB_int, mB_bool, mB_str, mB_tuple, mB_list, mS_int, mS_bool, mS_str, mS_tuple, mS_list, mT_int, mT_bool, mT_str, mT_tuple, mT_list, mN_int, mN_bool, mN_str, mN_tuple, mN_list, anyT, anyF, Nat.zero_add, Nat.reduceAdd, Nat.reduceLeDiff, true_and]
  refine ⟨by unfold inB; omega, by simp [rngD]; omega, ?_⟩
  refine cmpL_inv (rngD 0 (2 + r).toNat) (fun i acc S2 => ∃ ws : List Nat, acc = wtL ws ∧ ws.length = i ∧ (∀ w ∈ ws, 0 < w ∧ w ≤ 13) ∧ S1.off a S2 ∧ Stt S2 a pp (z + 1 + i)) (fun _ _ _ _ => trivial) ?_ ?_ ⟨[], rfl, rfl, (fun _ h => by cases h), Sto.off.refl, st1⟩
  · rintro i dd acc S2 PP hd ⟨ws, rfl, e1, e2, e3, e4⟩ hP
    have hi : i < 5 := by
      have := (List.getElem?_eq_some_iff.mp hd).1
      simp [rngD] at this
      omega
    simp only [e__law_some_table_of_1, wSs, wS, wT, wE, wEs, wO, wC, wI, wG, wGs, startD, List.map_cons, List.map_nil, List.length_cons, List.length_nil, List.replicate, List.cons_append, List.nil_append, List.append_nil, List.set_cons_zero, List.set_cons_succ, List.getElem?_cons_zero, List.getElem?_cons_succ, itT, wipeD, opAddI, opSubI, opMulI, opDivI, opModI, opPowI, opAddT, cmEq, cmNe, cmLt, cmLe, cmGt, cmGe, cmIn, eqI, eqS, inS2, truB, ixT0, ixT1, ixT2, ixT3, ixT4, ixT6, slcT, lenT, absI, intI, tupleT, listT, listRl, decide_true, decide_false, if_true, if_false, Bool.false_eq_true, reduceIte, decide_eq_true_eq, Bool.not_true, Bool.not_false, line, mI_int, mI_bool, mI_str, mI_tuple, mI_list, mB_int, mB_bool, mB_str, mB_tuple, mB_list, mS_int, mS_bool, mS_str, mS_tuple, mS_list, mT_int, mT_bool, mT_str, mT_tuple, mT_list, mN_int, mN_bool, mN_str, mN_tuple, mN_list, anyT, anyF, Nat.zero_add, Nat.reduceAdd, Nat.reduceLeDiff, true_and]
    intro q hq
    refine one_of_ok (by omega) (by simp) (by simp) (by omega) (e4.new hq) Sto.upd_same (e4.ne hq) fun d S3 hd o st' => ?_
    obtain ⟨w, rfl, hw⟩ : ∃ w : Nat, d = .int (w : Int) ∧ (0 < w ∧ w ≤ 13) := by
      simp only [List.mem_cons, List.not_mem_nil, or_false] at hd
      rcases hd with rfl | rfl | rfl | rfl | rfl | rfl | rfl
      · exact ⟨1, rfl, by omega⟩
      · exact ⟨1, rfl, by omega⟩
      · exact ⟨2, rfl, by omega⟩
      · exact ⟨3, rfl, by omega⟩
      · exact ⟨5, rfl, by omega⟩
      · exact ⟨8, rfl, by omega⟩
      · exact ⟨13, rfl, by omega⟩
    refine hP _ _ ⟨ws ++ [w], by unfold wtL; rw [List.map_append]; rfl, by simp [e1], fun x hx => ?_, e3.trans (off_of_new hq o), st'.more (by omega)⟩
    rcases List.mem_append.mp hx with hx | hx
    · exact e2 x hx
    · rw [List.mem_singleton] at hx
      rw [hx]
      exact hw
  · rintro ds S2 ⟨ws, rfl, e1, e2, e3, e4⟩
    have hlen : (rngD 0 (2 + r).toNat).length = (2 + r).toNat := by simp [rngD]
    rw [hlen] at e1 e4
    intro p hp
    have hpa := e4.ne hp
    have hpp := e4.np hp
    refine draw_ok (by omega) (by omega) (by omega) (by omega) (e4.new hp) fun r2 S3 r20 r21 o3 st3 => ?_
    have g3 := o3 p _ hpa Sto.upd_same
    simp only [opAddI, opSubI, opMulI, opDivI, opModI, opPowI, opAddT, cmEq, cmNe, cmLt, cmLe, cmGt, cmGe, cmIn, eqI, eqS, inS2, truB, ixT0, ixT1, ixT2, ixT3, ixT4, ixT6, slcT, lenT, absI, intI, tupleT, listT, listRl, decide_true, decide_false, if_true, if_false, Bool.false_eq_true, reduceIte, decide_eq_true_eq, Bool.not_true, Bool.not_false, line, mI_int, mI_bool, mI_str, mI_tuple, mI_list, mB_int, mB_bool, mB_str, mB_tuple, mB_list, mS_int, mS_bool, mS_str, mS_tuple, mS_list, mT_int, mT_bool, mT_str, mT_tuple, mT_list, mN_int, mN_bool, mN_str, mN_tuple, mN_list, anyT, anyF, Nat.zero_add, Nat.reduceAdd, Nat.reduceLeDiff, true_and]
    have tail : ∀ (ws : List Nat) (S4 : Sto) (x7 : Option D), 2 ≤ ws.length → ws.length ≤ 4 → (∀ w ∈ ws, 0 < w) → ws.sum ≤ 200 → S4 p = some (.lst (wtL ws)) → S.off a S4 → Stt S4 a pp (z + 10) →
        wSs (Γ k) G0 (.cons (.set 3 (.blt .sum (.cons (.var 2) .nil))) (.cons (.set 4 (.call "_law_draw" (.cons (.var 0) (.cons (.lit (.int (3))) .nil)))) (.cons (.set 5 (.lst .nil)) (.cons (.for (.nm 6) (.of (.var 2)) s__law_some_table_of_2) (.cons (.ret (.blt .tuple (.cons (.var 5) .nil))) .nil)))))
          { nx := fun _ _ => True, rt := fun d S' => ∃ S0 : Sto, S0.le S' ∧ Q d S0, bk := fun _ _ => False, ct := fun _ _ => False, xr := fun x _ S' => ∃ S0 : Sto, S0.le S' ∧ X x S0 }
          [some (.ref a), some (.int (2 + r)), some (.ref p), none, none, none, none, x7] S4 := by
      intro ws S4 x7 w1 w2 w3 w4 hw ho hst
      simp only [wSs, wS, wT, wE, wEs, wO, wC, wI, wG, wGs, startD, List.map_cons, List.map_nil, List.length_cons, List.length_nil, List.replicate, List.cons_append, List.nil_append, List.append_nil, List.set_cons_zero, List.set_cons_succ, List.getElem?_cons_zero, List.getElem?_cons_succ, itT, wipeD, opAddI, opSubI, opMulI, opDivI, opModI, opPowI, opAddT, cmEq, cmNe, cmLt, cmLe, cmGt, cmGe, cmIn, eqI, eqS, inS2, truB, ixT0, ixT1, ixT2, ixT3, ixT4, ixT6, slcT, lenT, absI, intI, tupleT, listT, listRl, decide_true, decide_false, if_true, if_false, Bool.false_eq_true, reduceIte, decide_eq_true_eq, Bool.not_true, Bool.not_false, line, mI_int, mI_bool, mI_str, mI_tuple, mI_list, mB_int, mB_bool, mB_str, mB_tuple, mB_list, mS_int, mS_bool, mS_str, mS_tuple, mS_list, mT_int, mT_bool, mT_str, mT_tuple, mT_list, mN_int, mN_bool, mN_str, mN_tuple, mN_list, anyT, anyF, Nat.zero_add, Nat.reduceAdd, Nat.reduceLeDiff, true_and]
      rw [sumL hw (wtL_ints ws), sum_cast']
      have hsz : 0 < ws.sum := by
        cases ws with
        | nil => simp at w1
        | cons x l => have := w3 x List.mem_cons_self; simp only [List.sum_cons]; omega
      have hWm := sum_mem ws w1 w3
      generalize hW : ws.sum = W at *
      refine draw_ok (by omega) (by omega) (by omega) (by omega) hst fun at0 S5 a0 a1 o5 st5 => ?_
      intro f hf
      have hfa := st5.ne hf
      have hfp := st5.np hf
      have hp5 := o5 p _ hpa hw
      have hpf : p ≠ f := Sto.ne_of hp5 hf
      rw [itL (l := wtL ws) (by rw [Sto.upd_ne hpf]; exact hp5)]
      have hwl : (wtL ws).length = ws.length := by unfold wtL; rw [List.length_map]
      refine forL_inv (wtL ws) (fun i σ S6 => ∃ (at1 : Int) (x6 : Option D) (t : List Te), σ = [some (.ref a), some (.int (2 + r)), some (.ref p), some (.int (W : Int)), some (.int at1), some (.ref f), x6, x7] ∧ S6 f = some (.lst (tabL t)) ∧ t.map (·.2) = (ws.take i).map (nrT W) ∧ S6 p = some (.lst (wtL ws)) ∧ (∀ b c, b ≠ a → b ≠ f → S5 b = some c → S6 b = some c) ∧ Stt S6 a pp (z + 11 + i)) (fun _ _ _ hI => by obtain ⟨_, _, _, _, _, _, g, _⟩ := hI; exact g) ?_ ?_
        ⟨_, _, [], rfl, Sto.upd_same, rfl, by rw [Sto.upd_ne hpf]; exact hp5, (fun b c _ hb e => by rw [Sto.upd_ne hb]; exact e), (st5.new hf).more (by omega)⟩
      · rintro i dd σ S6 NX hd ⟨at1, x6, t, rfl, k1, k2, k3, k4, k5⟩ hN
        have hi : i < ws.length := by
          have := (List.getElem?_eq_some_iff.mp hd).1
          rw [hwl] at this
          exact this
        have edd : dd = .int ((ws[i] : Nat) : Int) := by
          unfold wtL at hd
          rw [List.getElem?_map, List.getElem?_eq_getElem hi] at hd
          exact (Option.some.inj hd).symm
        subst edd
        have htl : t.length = i := by
          have := congrArg List.length k2
          rw [List.length_map, List.length_map, List.length_take] at this
          omega
        simp only [s__law_some_table_of_2, wSs, wS, wT, wE, wEs, wO, wC, wI, wG, wGs, startD, List.map_cons, List.map_nil, List.length_cons, List.length_nil, List.replicate, List.cons_append, List.nil_append, List.append_nil, List.set_cons_zero, List.set_cons_succ, List.getElem?_cons_zero, List.getElem?_cons_succ, itT, wipeD, opAddI, opSubI, opMulI, opDivI, opModI, opPowI, opAddT, cmEq, cmNe, cmLt, cmLe, cmGt, cmGe, cmIn, eqI, eqS, inS2, truB, ixT0, ixT1, ixT2, ixT3, ixT4, ixT6, slcT, lenT, absI, intI, tupleT, listT, listRl, decide_true, decide_false, if_true, if_false, Bool.false_eq_true, reduceIte, decide_eq_true_eq, Bool.not_true, Bool.not_false, line, mI_int, mI_bool, mI_str, mI_tuple, mI_list, mB_int, mB_bool, mB_str, mB_tuple, mB_list, mS_int, mS_bool, mS_str, mS_tuple, mS_list, mT_int, mT_bool, mT_str, mT_tuple, mT_list, mN_int, mN_bool, mN_str, mN_tuple, mN_list, anyT, anyF, Nat.zero_add, Nat.reduceAdd, Nat.reduceLeDiff, true_and, mtyA k1]
        refine lfrac (m := 10) (by omega) (by omega) (szn (by omega)) (by decide) ?_
        rw [nrm_nat, appL k1]
        have htb : (tabL t).length = t.length := by unfold tabL; rw [List.length_map]
        have ete : tabL t ++ [.tup [.int at1, fr (nrT W ws[i]).1 (nrT W ws[i]).2]] = tabL (t ++ [(at1, nrT W ws[i])]) := by unfold tabL; rw [List.map_append]; rfl
        rw [ete]
        refine ⟨by rw [htb]; have := Mi.line; omega, ?_⟩
        refine draw_ok (by omega) (by omega) (by omega) (by omega) (k5.upd hfa hfp) fun r4 S7 r40 r41 o7 st7 => ?_
        simp only [opAddI, opSubI, opMulI, opDivI, opModI, opPowI, opAddT, cmEq, cmNe, cmLt, cmLe, cmGt, cmGe, cmIn, eqI, eqS, inS2, truB, ixT0, ixT1, ixT2, ixT3, ixT4, ixT6, slcT, lenT, absI, intI, tupleT, listT, listRl, decide_true, decide_false, if_true, if_false, Bool.false_eq_true, reduceIte, decide_eq_true_eq, Bool.not_true, Bool.not_false, line, mI_int, mI_bool, mI_str, mI_tuple, mI_list, mB_int, mB_bool, mB_str, mB_tuple, mB_list, mS_int, mS_bool, mS_str, mS_tuple, mS_list, mT_int, mT_bool, mT_str, mT_tuple, mT_list, mN_int, mN_bool, mN_str, mN_tuple, mN_list, anyT, anyF, Nat.zero_add, Nat.reduceAdd, Nat.reduceLeDiff, true_and]
        have k6 : (S6.upd f (.lst (tabL (t ++ [(at1, nrT W ws[i])])))) f = some (.lst (tabL (t ++ [(at1, nrT W ws[i])]))) := Sto.upd_same
        refine hN _ _ ⟨_, _, t ++ [(at1, nrT W ws[i])], rfl, o7 f _ hfa k6, ?_, o7 p _ hpa (by rw [Sto.upd_ne hpf]; exact k3), ?_, st7.more (by omega)⟩
        · rw [List.map_append, k2, List.take_succ_eq_append_getElem hi, List.map_append]
          rfl
        · exact fun b c hb hbf e => o7 b c hb (by rw [Sto.upd_ne hbf]; exact k4 b c hb hbf e)
      · rintro σ S6 ⟨at1, x6, t, rfl, k1, k2, k3, k4, k5⟩
        rw [hwl, List.take_length] at k2
        simp only [wSs, wS, wT, wE, wEs, wO, wC, wI, wG, wGs, startD, List.map_cons, List.map_nil, List.length_cons, List.length_nil, List.replicate, List.cons_append, List.nil_append, List.append_nil, List.set_cons_zero, List.set_cons_succ, List.getElem?_cons_zero, List.getElem?_cons_succ, itT, wipeD, opAddI, opSubI, opMulI, opDivI, opModI, opPowI, opAddT, cmEq, cmNe, cmLt, cmLe, cmGt, cmGe, cmIn, eqI, eqS, inS2, truB, ixT0, ixT1, ixT2, ixT3, ixT4, ixT6, slcT, lenT, absI, intI, tupleT, listT, listRl, decide_true, decide_false, if_true, if_false, Bool.false_eq_true, reduceIte, decide_eq_true_eq, Bool.not_true, Bool.not_false, line, mI_int, mI_bool, mI_str, mI_tuple, mI_list, mB_int, mB_bool, mB_str, mB_tuple, mB_list, mS_int, mS_bool, mS_str, mS_tuple, mS_list, mT_int, mT_bool, mT_str, mT_tuple, mT_list, mN_int, mN_bool, mN_str, mN_tuple, mN_list, anyT, anyF, Nat.zero_add, Nat.reduceAdd, Nat.reduceLeDiff, true_and]
        rw [tupleL k1]
        refine ⟨S6, Sto.le_refl, hQ t W S6 (tab_of k2 (fun w hw => ⟨w3 w hw, hWm w hw⟩) w2 hW hsz (by omega)) ?_ (k5.more (by omega))⟩
        intro b c hb e
        have e5 := o5 b c hb (ho b c hb e)
        exact k4 b c hb (Sto.ne_of e5 hf) e5
    have hof : S.off a S3 := (o1.trans e3).trans (off_of_new hp o3)
    have hbd : ∀ w ∈ ws, w ≤ 13 := fun w hw => (e2 w hw).2
    have hsum := sum_ge ws 13 hbd
    have hl4 : ws.length ≤ 4 := by omega
    have hl2 : 2 ≤ ws.length := by omega
    have hSp : S p = none := by
      cases e : S p with
      | none => rfl
      | some c =>
        have := (o1.trans e3) p c hpa e
        rw [hp] at this
        cases this
    by_cases hr : r2 = 0
    · rw [if_pos hr]
      obtain ⟨w0, l, rfl⟩ : ∃ w0 l, ws = w0 :: l := by
        cases ws with
        | nil => simp at hl2
        | cons x l => exact ⟨x, l, rfl⟩
      have g30 : atI (wtL (w0 :: l)) 0 = some (.int (w0 : Int)) := atIk 0 rfl rfl
      rw [ixL g3 g30]
      intro q hq
      refine one_of_ok (by omega) (by simp) (by simp) (by omega) (st3.new hq) Sto.upd_same (st3.ne hq) fun d S4 hd o4 st4 => ?_
      obtain ⟨w, rfl, hw⟩ : ∃ w : Nat, d = .int (w : Int) ∧ w ≤ 96 := by
        simp only [List.mem_cons, List.not_mem_nil, or_false] at hd
        rcases hd with rfl | rfl | rfl | rfl
        · exact ⟨50, rfl, by omega⟩
        · exact ⟨60, rfl, by omega⟩
        · exact ⟨64, rfl, by omega⟩
        · exact ⟨96, rfl, by omega⟩
      have hpq : p ≠ q := Sto.ne_of g3 hq
      have g4 : S4 p = some (.lst (wtL (w0 :: l))) := o4 p _ hpa (by rw [Sto.upd_ne hpq]; exact g3)
      simp only [opAddI, opSubI, opMulI, opDivI, opModI, opPowI, opAddT, cmEq, cmNe, cmLt, cmLe, cmGt, cmGe, cmIn, eqI, eqS, inS2, truB, ixT0, ixT1, ixT2, ixT3, ixT4, ixT6, slcT, lenT, absI, intI, tupleT, listT, listRl, decide_true, decide_false, if_true, if_false, Bool.false_eq_true, reduceIte, decide_eq_true_eq, Bool.not_true, Bool.not_false, line, mI_int, mI_bool, mI_str, mI_tuple, mI_list, mB_int, mB_bool, mB_str, mB_tuple, mB_list, mS_int, mS_bool, mS_str, mS_tuple, mS_list, mT_int, mT_bool, mT_str, mT_tuple, mT_list, mN_int, mN_bool, mN_str, mN_tuple, mN_list, anyT, anyF, Nat.zero_add, Nat.reduceAdd, Nat.reduceLeDiff, true_and]
      have es : (wtL (w0 :: l)).set 0 (.int ((w0 : Int) + (w : Int))) = wtL ((w0 + w) :: l) := rfl
      refine Eq.mpr (setL (n := 0) (i := 0) g4 rfl (by unfold wtL; simp)) ?_
      rw [es]
      have hx := (e2 w0 List.mem_cons_self)
      have := tail ((w0 + w) :: l) (S4.upd p (.lst (wtL ((w0 + w) :: l)))) none (by simpa using hl2) (by simpa using hl4) (fun x hx' => by
          rcases List.mem_cons.mp hx' with rfl | hx'
          · omega
          · exact (e2 x (List.mem_cons_of_mem _ hx')).1) (by
          simp only [List.sum_cons, List.length_cons] at hsum hl4 ⊢
          omega) Sto.upd_same ((hof.trans (off_of_new hq o4)).same (c := .lst []) hSp) (st4.upd hpa hpp |>.more (by omega))
      simp only [wSs, wS, wT, wE, wEs, wO, wC, wI, wG, wGs, startD, List.map_cons, List.map_nil, List.length_cons, List.length_nil, List.replicate, List.cons_append, List.nil_append, List.append_nil, List.set_cons_zero, List.set_cons_succ, List.getElem?_cons_zero, List.getElem?_cons_succ, itT, wipeD, opAddI, opSubI, opMulI, opDivI, opModI, opPowI, opAddT, cmEq, cmNe, cmLt, cmLe, cmGt, cmGe, cmIn, eqI, eqS, inS2, truB, ixT0, ixT1, ixT2, ixT3, ixT4, ixT6, slcT, lenT, absI, intI, tupleT, listT, listRl, decide_true, decide_false, if_true, if_false, Bool.false_eq_true, reduceIte, decide_eq_true_eq, Bool.not_true, Bool.not_false, line, mI_int, mI_bool, mI_str, mI_tuple, mI_list, mB_int, mB_bool, mB_str, mB_tuple, mB_list, mS_int, mS_bool, mS_str, mS_tuple, mS_list, mT_int, mT_bool, mT_str, mT_tuple, mT_list, mN_int, mN_bool, mN_str, mN_tuple, mN_list, anyT, anyF, Nat.zero_add, Nat.reduceAdd, Nat.reduceLeDiff, true_and] at this
      exact this
    · rw [if_neg hr]
      have := tail ws S3 none hl2 hl4 (fun w hw => (e2 w hw).1) (by omega) g3 hof (st3.more (by omega))
      simp only [wSs, wS, wT, wE, wEs, wO, wC, wI, wG, wGs, startD, List.map_cons, List.map_nil, List.length_cons, List.length_nil, List.replicate, List.cons_append, List.nil_append, List.append_nil, List.set_cons_zero, List.set_cons_succ, List.getElem?_cons_zero, List.getElem?_cons_succ, itT, wipeD, opAddI, opSubI, opMulI, opDivI, opModI, opPowI, opAddT, cmEq, cmNe, cmLt, cmLe, cmGt, cmGe, cmIn, eqI, eqS, inS2, truB, ixT0, ixT1, ixT2, ixT3, ixT4, ixT6, slcT, lenT, absI, intI, tupleT, listT, listRl, decide_true, decide_false, if_true, if_false, Bool.false_eq_true, reduceIte, decide_eq_true_eq, Bool.not_true, Bool.not_false, line, mI_int, mI_bool, mI_str, mI_tuple, mI_list, mB_int, mB_bool, mB_str, mB_tuple, mB_list, mS_int, mS_bool, mS_str, mS_tuple, mS_list, mT_int, mT_bool, mT_str, mT_tuple, mT_list, mN_int, mN_bool, mN_str, mN_tuple, mN_list, anyT, anyF, Nat.zero_add, Nat.reduceAdd, Nat.reduceLeDiff, true_and] at this
      exact this
end K50
namespace K50
open PySem PySem.Spec PyProof.Rows L2 Mi
variable {k : Nat} {S : Sto} {Q : KD} {X : KX} {pp : Addr} {n d s o i j T p : Nat} {t : List Te} {W : Nat}
def Fg (x : D) : Prop := ∃ n d s o, x = fr (n : Nat) (d : Nat) ∧ Fc n d s o ∧ d < 2 ^ 70
theorem fg_of {n d : Nat} (h1 : n < d) (h2 : d < 2 ^ 60) : Fg (nrm (n : Int) (d : Int)) := by
  have hd : 0 < d := by omega
  have hg : 0 < Nat.gcd n d := Nat.gcd_pos_of_pos_right _ hd
  have d1 := Nat.gcd_dvd_left n d
  have d2 := Nat.gcd_dvd_right n d
  have m1 := Nat.div_mul_cancel d1
  have m2 := Nat.div_mul_cancel d2
  refine ⟨n / Nat.gcd n d, d / Nat.gcd n d, _, _, rfl, fc ?_ (Nat.coprime_div_gcd_div_gcd hg), ?_⟩
  · refine Nat.lt_of_mul_lt_mul_right (a := Nat.gcd n d) ?_
    rw [m1, m2]
    exact h1
  · have := Nat.div_le_self d (Nat.gcd n d)
    omega
theorem fg_lit {n d s o : Nat} (f : Fc n d s o) (h : d < 2 ^ 70) : Fg (fr (n : Nat) (d : Nat)) := ⟨n, d, s, o, rfl, f, h⟩
theorem fg_odd {n s : Nat} (h : n % 2 = 1) (h1 : n < 2 ^ s) (hs : s < 70) : Fg (fr (n : Nat) ((2 ^ s : Nat) : Int)) :=
  fg_lit (s := s) (o := 1) ⟨by simp, rfl, h1, odd_cop h s⟩ (Nat.pow_lt_pow_right (by decide) hs)
theorem fit_loop (b : Ss) (hb : b = s_law_1) {l : List D} {N' : De} {ns a low : Option D} {x3 x4 x5 : Option D} {u : Addr} (hl : ∀ x ∈ l, Fg x) (hu : S u = some (.lst l)) (hN : ∀ x3, N'.nx [ns, a, low, x3, x4, x5] S) :
    forL (.nm 3) (wSs (Γ 99) G0 b) (fun S' => S' u = some (.lst l)) l N' [ns, a, low, x3, x4, x5] S := by
  subst hb
  refine forL_inv l (fun i σ S2 => ∃ x3, σ = [ns, a, low, x3, x4, x5] ∧ S2 = S) (fun _ σ S2 hI => by obtain ⟨_, _, rfl⟩ := hI; exact hu) ?_ ?_ ⟨_, rfl, rfl⟩
  · rintro i d σ S' NX hd ⟨x3, rfl, rfl⟩ hN'
    obtain ⟨n, dd, s, o, rfl, f, hlt⟩ := hl d (List.mem_of_getElem? hd)
    simp only [s_law_1, wSs, wS, wT, wE, wEs, wO, wC, wI, wG, wGs, startD, List.map_cons, List.map_nil, List.length_cons, List.length_nil, List.replicate, List.cons_append, List.nil_append, List.append_nil, List.set_cons_zero, List.set_cons_succ, List.getElem?_cons_zero, List.getElem?_cons_succ, itT, wipeD, opAddI, opSubI, opMulI, opDivI, opModI, opPowI, opAddT, cmEq, cmNe, cmLt, cmLe, cmGt, cmGe, cmIn, eqI, eqS, inS2, truB, ixT0, ixT1, ixT2, ixT3, ixT4, ixT6, slcT, lenT, absI, intI, tupleT, listT, listRl, decide_true, decide_false, if_true, if_false, Bool.false_eq_true, reduceIte, decide_eq_true_eq, Bool.not_true, Bool.not_false, line, mI_int, mI_bool, mI_str, mI_tuple, mI_list, mB_int, mB_bool, mB_str, mB_tuple, mB_list, mS_int, mS_bool, mS_str, mS_tuple, mS_list, mT_int, mT_bool, mT_str, mT_tuple, mT_list, mN_int, mN_bool, mN_str, mN_tuple, mN_list, anyT, anyF, Nat.zero_add, Nat.reduceAdd, Nat.reduceLeDiff, true_and]
    refine digits_fit_ok (by omega) f hlt ?_
    simp only [opAddI, opSubI, opMulI, opDivI, opModI, opPowI, opAddT, cmEq, cmNe, cmLt, cmLe, cmGt, cmGe, cmIn, eqI, eqS, inS2, truB, ixT0, ixT1, ixT2, ixT3, ixT4, ixT6, slcT, lenT, absI, intI, tupleT, listT, listRl, decide_true, decide_false, if_true, if_false, Bool.false_eq_true, reduceIte, decide_eq_true_eq, Bool.not_true, Bool.not_false, line, mI_int, mI_bool, mI_str, mI_tuple, mI_list, mB_int, mB_bool, mB_str, mB_tuple, mB_list, mS_int, mS_bool, mS_str, mS_tuple, mS_list, mT_int, mT_bool, mT_str, mT_tuple, mT_list, mN_int, mN_bool, mN_str, mN_tuple, mN_list, anyT, anyF, Nat.zero_add, Nat.reduceAdd, Nat.reduceLeDiff, true_and]
    exact hN' _ _ ⟨_, rfl, rfl⟩
  · rintro σ S' ⟨x3, rfl, rfl⟩
    exact hN x3
theorem law_data : ∀ ns : List Int, ns.length ≤ 63 → Γ 100 "law" [.rl (ns.map .int)] (fun _ => none) (fun d _ => d = .bl true) fun _ _ => False := by
  intro ns _
  refine gam (k := 99) (np := 1) (nn := 6) (b := b_law) rfl rfl ?_
  simp only [b_law, wSs, wS, wT, wE, wEs, wO, wC, wI, wG, wGs, startD, List.map_cons, List.map_nil, List.length_cons, List.length_nil, List.replicate, List.cons_append, List.nil_append, List.append_nil, List.set_cons_zero, List.set_cons_succ, List.getElem?_cons_zero, List.getElem?_cons_succ, itT, wipeD, opAddI, opSubI, opMulI, opDivI, opModI, opPowI, opAddT, cmEq, cmNe, cmLt, cmLe, cmGt, cmGe, cmIn, eqI, eqS, inS2, truB, ixT0, ixT1, ixT2, ixT3, ixT4, ixT6, slcT, lenT, absI, intI, tupleT, listT, listRl, decide_true, decide_false, if_true, if_false, Bool.false_eq_true, reduceIte, decide_eq_true_eq, Bool.not_true, Bool.not_false, line, mI_int, mI_bool, mI_str, mI_tuple, mI_list, mB_int, mB_bool, mB_str, mB_tuple, mB_list, mS_int, mS_bool, mS_str, mS_tuple, mS_list, mT_int, mT_bool, mT_str, mT_tuple, mT_list, mN_int, mN_bool, mN_str, mN_tuple, mN_list, anyT, anyF, Nat.zero_add, Nat.reduceAdd, Nat.reduceLeDiff, true_and]
  refine start_ok (by omega) fun a pp S1 ha hle st => ?_
  intro q hq
  refine one_of_ok (by omega) (by simp) (by simp) (by omega) (st.new hq) Sto.upd_same (st.ne hq) fun dlow S2 hd o2 st2 => ?_
  obtain ⟨low, rfl, hlow⟩ : ∃ w : Nat, dlow = .int (w : Int) ∧ (0 < w ∧ w ≤ 200) := by
    simp only [List.mem_cons, List.not_mem_nil, or_false] at hd
    rcases hd with rfl | rfl | rfl | rfl | rfl | rfl | rfl | rfl | rfl | rfl | rfl | rfl | rfl | rfl | rfl | rfl | rfl
    · exact ⟨2, rfl, by omega⟩
    · exact ⟨3, rfl, by omega⟩
    · exact ⟨4, rfl, by omega⟩
    · exact ⟨5, rfl, by omega⟩
    · exact ⟨6, rfl, by omega⟩
    · exact ⟨7, rfl, by omega⟩
    · exact ⟨12, rfl, by omega⟩
    · exact ⟨13, rfl, by omega⟩
    · exact ⟨24, rfl, by omega⟩
    · exact ⟨59, rfl, by omega⟩
    · exact ⟨61, rfl, by omega⟩
    · exact ⟨67, rfl, by omega⟩
    · exact ⟨96, rfl, by omega⟩
    · exact ⟨101, rfl, by omega⟩
    · exact ⟨127, rfl, by omega⟩
    · exact ⟨131, rfl, by omega⟩
    · exact ⟨160, rfl, by omega⟩
  refine draw_ok (by omega) (by omega) (by omega) (by omega) st2 fun r S3 r0 r1 o3 st3 => ?_
  refine lfrac (m := 20) (by omega) (by omega) (szn (by omega)) (by decide) ?_
  refine draw_ok (by omega) (by omega) (by omega) (by omega) st3 fun r' S4 r0' r1' o4 st4 => ?_
  refine lfrac (m := 20) (by omega) (by omega) (by unfold Sz; decide) (by decide) ?_
  intro u hu
  have st5 := st4.new (c := .lst [nrm r (low : Int), nrm r' 1024, .tup [.int 0, .int 1]]) hu
  have e5 : (S4.upd u (.lst [nrm r (low : Int), nrm r' 1024, .tup [.int 0, .int 1]])) u = some (.lst [nrm r (low : Int), nrm r' 1024, .tup [.int 0, .int 1]]) := Sto.upd_same
  have hF : ∀ x ∈ [nrm r (low : Int), nrm r' 1024, D.tup [.int 0, .int 1]], Fg x := fun x hx => by
    simp only [List.mem_cons, List.not_mem_nil, or_false] at hx
    rcases hx with rfl | rfl | rfl
    · obtain ⟨m, rfl⟩ : ∃ m : Nat, r = (m : Int) := ⟨r.toNat, by omega⟩
      exact fg_of (by omega) (by omega)
    · obtain ⟨m, rfl⟩ : ∃ m : Nat, r' = (m : Int) := ⟨r'.toNat, by omega⟩
      exact fg_of (d := 1024) (by omega) (by decide)
    · exact fg_lit (n := 0) (d := 1) (s := 0) (o := 1) ⟨rfl, rfl, by decide, rfl⟩ (by decide)
  generalize S4.upd u (.lst [nrm r (low : Int), nrm r' 1024, .tup [.int 0, .int 1]]) = S5 at st5 e5 ⊢
  rw [itL e5]
  refine fit_loop s_law_1 rfl hF e5 fun x3 => ?_
  simp only [wSs, wS, wT, wE, wEs, wO, wC, wI, wG, wGs, startD, List.map_cons, List.map_nil, List.length_cons, List.length_nil, List.replicate, List.cons_append, List.nil_append, List.append_nil, List.set_cons_zero, List.set_cons_succ, List.getElem?_cons_zero, List.getElem?_cons_succ, itT, wipeD, opAddI, opSubI, opMulI, opDivI, opModI, opPowI, opAddT, cmEq, cmNe, cmLt, cmLe, cmGt, cmGe, cmIn, eqI, eqS, inS2, truB, ixT0, ixT1, ixT2, ixT3, ixT4, ixT6, slcT, lenT, absI, intI, tupleT, listT, listRl, decide_true, decide_false, if_true, if_false, Bool.false_eq_true, reduceIte, decide_eq_true_eq, Bool.not_true, Bool.not_false, line, mI_int, mI_bool, mI_str, mI_tuple, mI_list, mB_int, mB_bool, mB_str, mB_tuple, mB_list, mS_int, mS_bool, mS_str, mS_tuple, mS_list, mT_int, mT_bool, mT_str, mT_tuple, mT_list, mN_int, mN_bool, mN_str, mN_tuple, mN_list, anyT, anyF, Nat.zero_add, Nat.reduceAdd, Nat.reduceLeDiff, true_and]
  refine draw_ok (by omega) (by omega) (by omega) (by omega) st5 fun r2 S6 r20 r21 o6 st6 => ?_
  simp only [wSs, wS, wT, wE, wEs, wO, wC, wI, wG, wGs, startD, List.map_cons, List.map_nil, List.length_cons, List.length_nil, List.replicate, List.cons_append, List.nil_append, List.append_nil, List.set_cons_zero, List.set_cons_succ, List.getElem?_cons_zero, List.getElem?_cons_succ, itT, wipeD, opAddI, opSubI, opMulI, opDivI, opModI, opPowI, opAddT, cmEq, cmNe, cmLt, cmLe, cmGt, cmGe, cmIn, eqI, eqS, inS2, truB, ixT0, ixT1, ixT2, ixT3, ixT4, ixT6, slcT, lenT, absI, intI, tupleT, listT, listRl, decide_true, decide_false, if_true, if_false, Bool.false_eq_true, reduceIte, decide_eq_true_eq, Bool.not_true, Bool.not_false, line, mI_int, mI_bool, mI_str, mI_tuple, mI_list, mB_int, mB_bool, mB_str, mB_tuple, mB_list, mS_int, mS_bool, mS_str, mS_tuple, mS_list, mT_int, mT_bool, mT_str, mT_tuple, mT_list, mN_int, mN_bool, mN_str, mN_tuple, mN_list, anyT, anyF, Nat.zero_add, Nat.reduceAdd, Nat.reduceLeDiff, true_and]
  obtain ⟨m, hm, hm1, hm2⟩ : ∃ m : Nat, 1 + 2 * r2 = (m : Int) ∧ m % 2 = 1 ∧ m < 2 ^ 20 := ⟨(1 + 2 * r2).toNat, by omega, by omega, by omega⟩
  have s2 : Sz 2 2 := by unfold Sz; decide
  have s3 : Sz 2 3 := by unfold Sz; decide
  have cp : ∀ j : Int, 0 ≤ j → j ≤ 1000 → CPow 2 j := fun j h1 h2 => ⟨h1, by omega, by decide⟩
  have p60 : Sz 70 ((2 : Int) ^ Int.toNat 60) := by unfold Sz; decide
  have p62 : Sz 70 ((2 : Int) ^ Int.toNat 62) := by unfold Sz; decide
  have p360 : Sz 70 (3 * (2 : Int) ^ Int.toNat 60) := by unfold Sz; decide
  have s32 : Sz 10 32 := by unfold Sz; decide
  have s8 : Sz 10 8 := by unfold Sz; decide
  have sr2 : Sz 20 r2 := by
    unfold Sz
    omega
  refine ⟨s2.cm sr2, cp _ (by decide) (by decide), cp _ (by decide) (by decide), cp _ (by decide) (by decide), p60.cm s32, cp _ (by decide) (by decide), s3.cm p62, cp _ (by decide) (by decide), s3.cm p60, p360.cm s8, ?_⟩
  rw [hm]
  intro v hv
  have hG : ∀ x ∈ [D.tup [.int (m : Int), .int (2 ^ Int.toNat 63)], D.tup [.int (m : Int), .int (2 ^ Int.toNat 64)], D.tup [.int (m : Int), .int (2 ^ Int.toNat 60 * 32)], D.tup [.int 1, .int (3 * 2 ^ Int.toNat 62)], D.tup [.int 2, .int 3], D.tup [.int 1, .int (3 * 2 ^ Int.toNat 60 * 8)]], Fg x := fun x hx => by
    simp only [List.mem_cons, List.not_mem_nil, or_false] at hx
    rcases hx with rfl | rfl | rfl | rfl | rfl | rfl
    · exact fg_odd (s := 63) hm1 (by omega) (by decide)
    · exact fg_odd (s := 64) hm1 (by omega) (by decide)
    · exact fg_odd (s := 65) hm1 (by omega) (by decide)
    · exact fg_lit (n := 1) (d := 2 ^ 62 * 3) (s := 62) (o := 3) ⟨rfl, rfl, by decide, by decide⟩ (by decide)
    · exact fg_lit (n := 2) (d := 3) (s := 0) (o := 3) ⟨rfl, rfl, by decide, by decide⟩ (by decide)
    · exact fg_lit (n := 1) (d := 2 ^ 63 * 3) (s := 63) (o := 3) ⟨rfl, rfl, by decide, by decide⟩ (by decide)
  have st7 := st6.new (c := .lst [D.tup [.int (m : Int), .int (2 ^ Int.toNat 63)], D.tup [.int (m : Int), .int (2 ^ Int.toNat 64)], D.tup [.int (m : Int), .int (2 ^ Int.toNat 60 * 32)], D.tup [.int 1, .int (3 * 2 ^ Int.toNat 62)], D.tup [.int 2, .int 3], D.tup [.int 1, .int (3 * 2 ^ Int.toNat 60 * 8)]]) hv
  have e7 : (S6.upd v (.lst [D.tup [.int (m : Int), .int (2 ^ Int.toNat 63)], D.tup [.int (m : Int), .int (2 ^ Int.toNat 64)], D.tup [.int (m : Int), .int (2 ^ Int.toNat 60 * 32)], D.tup [.int 1, .int (3 * 2 ^ Int.toNat 62)], D.tup [.int 2, .int 3], D.tup [.int 1, .int (3 * 2 ^ Int.toNat 60 * 8)]])) v = some (.lst _) := Sto.upd_same
  generalize hl : [D.tup [.int (m : Int), .int (2 ^ Int.toNat 63)], D.tup [.int (m : Int), .int (2 ^ Int.toNat 64)], D.tup [.int (m : Int), .int (2 ^ Int.toNat 60 * 32)], D.tup [.int 1, .int (3 * 2 ^ Int.toNat 62)], D.tup [.int 2, .int 3], D.tup [.int 1, .int (3 * 2 ^ Int.toNat 60 * 8)]] = l at hG st7 e7 ⊢
  generalize S6.upd v (.lst l) = S7 at st7 e7 ⊢
  rw [itL e7]
  refine fit_loop s_law_2 rfl hG e7 fun x3 => ?_
  simp only [wSs, wS, wT, wE, wEs, wO, wC, wI, wG, wGs, startD, List.map_cons, List.map_nil, List.length_cons, List.length_nil, List.replicate, List.cons_append, List.nil_append, List.append_nil, List.set_cons_zero, List.set_cons_succ, List.getElem?_cons_zero, List.getElem?_cons_succ, itT, wipeD, opAddI, opSubI, opMulI, opDivI, opModI, opPowI, opAddT, cmEq, cmNe, cmLt, cmLe, cmGt, cmGe, cmIn, eqI, eqS, inS2, truB, ixT0, ixT1, ixT2, ixT3, ixT4, ixT6, slcT, lenT, absI, intI, tupleT, listT, listRl, decide_true, decide_false, if_true, if_false, Bool.false_eq_true, reduceIte, decide_eq_true_eq, Bool.not_true, Bool.not_false, line, mI_int, mI_bool, mI_str, mI_tuple, mI_list, mB_int, mB_bool, mB_str, mB_tuple, mB_list, mS_int, mS_bool, mS_str, mS_tuple, mS_list, mT_int, mT_bool, mT_str, mT_tuple, mT_list, mN_int, mN_bool, mN_str, mN_tuple, mN_list, anyT, anyF, Nat.zero_add, Nat.reduceAdd, Nat.reduceLeDiff, true_and]
  refine ⟨by unfold inB; decide, ?_⟩
  refine forL_inv (rngD 0 3) (fun i σ S' => ∃ x3 x4 x5, σ = [some (.rl (ns.map .int)), some (.ref a), some (.int (low : Int)), x3, x4, x5] ∧ Stt S' a pp (100 + 20 * i)) (fun _ _ _ _ => trivial) ?_ ?_ ⟨_, _, _, rfl, st7.more (by omega)⟩
  · rintro i d σ S' NX hd ⟨x3, x4, x5, rfl, st'⟩ hN
    have hi : i < 3 := (List.getElem?_eq_some_iff.mp hd).1
    simp only [s_law_3, wSs, wS, wT, wE, wEs, wO, wC, wI, wG, wGs, startD, List.map_cons, List.map_nil, List.length_cons, List.length_nil, List.replicate, List.cons_append, List.nil_append, List.append_nil, List.set_cons_zero, List.set_cons_succ, List.getElem?_cons_zero, List.getElem?_cons_succ, itT, wipeD, opAddI, opSubI, opMulI, opDivI, opModI, opPowI, opAddT, cmEq, cmNe, cmLt, cmLe, cmGt, cmGe, cmIn, eqI, eqS, inS2, truB, ixT0, ixT1, ixT2, ixT3, ixT4, ixT6, slcT, lenT, absI, intI, tupleT, listT, listRl, decide_true, decide_false, if_true, if_false, Bool.false_eq_true, reduceIte, decide_eq_true_eq, Bool.not_true, Bool.not_false, line, mI_int, mI_bool, mI_str, mI_tuple, mI_list, mB_int, mB_bool, mB_str, mB_tuple, mB_list, mS_int, mS_bool, mS_str, mS_tuple, mS_list, mT_int, mT_bool, mT_str, mT_tuple, mT_list, mN_int, mN_bool, mN_str, mN_tuple, mN_list, anyT, anyF, Nat.zero_add, Nat.reduceAdd, Nat.reduceLeDiff, true_and]
    refine some_table_ok (by omega) (by omega) st' fun t W S8 hT o8 st8 => ?_
    refine tree_fits_ok (by omega) hT ?_
    simp only [opAddI, opSubI, opMulI, opDivI, opModI, opPowI, opAddT, cmEq, cmNe, cmLt, cmLe, cmGt, cmGe, cmIn, eqI, eqS, inS2, truB, ixT0, ixT1, ixT2, ixT3, ixT4, ixT6, slcT, lenT, absI, intI, tupleT, listT, listRl, decide_true, decide_false, if_true, if_false, Bool.false_eq_true, reduceIte, decide_eq_true_eq, Bool.not_true, Bool.not_false, line, mI_int, mI_bool, mI_str, mI_tuple, mI_list, mB_int, mB_bool, mB_str, mB_tuple, mB_list, mS_int, mS_bool, mS_str, mS_tuple, mS_list, mT_int, mT_bool, mT_str, mT_tuple, mT_list, mN_int, mN_bool, mN_str, mN_tuple, mN_list, anyT, anyF, Nat.zero_add, Nat.reduceAdd, Nat.reduceLeDiff, true_and]
    exact hN _ _ ⟨_, _, _, rfl, st8.more (by omega)⟩
  · rintro σ S' ⟨x3, x4, x5, rfl, st'⟩
    exact ⟨S', Sto.le_refl, trivial⟩
end K50
set_option maxHeartbeats 0
namespace K50
open PySem PySem.Spec PyProof.Rows L2 Mi
theorem fs_plain : ∀ d ∈ fs, d.d.at_ = (d.d.name, none) ∧ d.d.dfl = [] ∧ d.d.kwd = [] ∧ K50.Tm.fns.contains d.d.name = true ∧ bd d.d.name = some (d.ps.length, d.N.length, d.body) ∧ d.d ∈ fnD := by
  intro d hd
  simp only [fs, List.mem_cons, List.not_mem_nil, or_false] at hd
  rcases hd with rfl | rfl | rfl | rfl | rfl | rfl | rfl | rfl | rfl | rfl | rfl | rfl | rfl | rfl | rfl | rfl | rfl | rfl | rfl | rfl | rfl | rfl | rfl | rfl | rfl | rfl | rfl | rfl | rfl | rfl | rfl | rfl | rfl
  all_goals exact ⟨rfl, rfl, rfl, by decide +kernel, rfl, List.mem_map_of_mem (by simp [fs])⟩
theorem T_fns : ∀ x : Str, K50.Tm.fns.contains x = true → ∃ d ∈ fs, d.d.name = x := by
  intro x hx
  have h : x ∈ K50.Tm.fns := by simpa using hx
  have e : K50.Tm.fns = fs.map fun d => d.d.name := rfl
  rw [e] at h
  obtain ⟨d, hd, e⟩ := List.mem_map.mp h
  exact ⟨d, hd, e⟩
theorem facts {w : World} {K : PySem.W.Frag} {h : Heap} {mg : Str → Option Value} {fa0 : Addr} (X : K.In h) (G : h.Ns mainGlobals mg) (hmg : mg ("law" : Str) = some (.ref fa0)) (ce : Mi.SaysE fa fnD PySem.Challenge.pw_castbypowers_k50_digits_and_least_trees.main.file ins K50.Tm.sub K50.Tm.mfn gl K)
    (data : ∀ ns : List Int, ns.length ≤ 63 → Γ 100 "law" [.rl (ns.map .int)] (fun _ => none) (fun d _ => d = .bl true) fun _ _ => False) :
    ∃ (K : PySem.W.Frag) (fd : FuncData) (sp : Sp), K.In h ∧ (∀ (s : Shared) (u : Value), BindsTo s fd ⟨[u], []⟩ [(("script" : Str), u)]) ∧
      (∀ (H : Hp) (a : Addr) (ns : List Int), ns.length ≤ 63 → Only H → SqL K H a (ns.map V.int) → sp [.ref a] H (fun v _ => v = .bl true) fun _ _ _ => False) ∧
      ∀ base : Heap, K.In base → base.Ns mainGlobals mg → FnOk PySem.Challenge.pw_castbypowers_k50_digits_and_least_trees w K mg base (L2.CX PySem.Challenge.pw_castbypowers_k50_digits_and_least_trees w) 102 fa0 fd ["script"] sp := by
  have c := ce.d
  have glo : ∀ d ∈ fs, mg d.d.name = some (.ref (He.ga K d.d.name)) := fun d hd => by
    obtain ⟨h1, h2, h3, h4, h5, h6⟩ := fs_plain d hd
    refine He.glo_ok X G (c.facts (f := .glo d.d.name) ?_)
    refine List.mem_append_right _ (List.mem_map_of_mem ?_)
    simpa using h4
  have dd : ∀ d ∈ fs, ∃ fd, DnD K d (He.ga K d.d.name) fd := fun d hd => by
    obtain ⟨h1, h2, h3, h4, h5, h6⟩ := fs_plain d hd
    obtain ⟨fd, F⟩ := c.defs h6
    refine ⟨fd, ?_⟩
    have e1 : d.d.dvs K = [] := by unfold He.DefD.dvs; rw [h2]; rfl
    have e2 : d.d.kws K = [] := by unfold He.DefD.kws; rw [h3]; rfl
    have e3 : He.fAd K d.d.at_ = He.ga K d.d.name := by rw [h1]; rfl
    rw [e1, e2, e3] at F
    exact F
  have hl : d_law ∈ fs := by simp [fs]
  obtain ⟨fd, F⟩ := dd _ hl
  have ef : fa0 = He.ga K "law" := by
    have := glo _ hl
    have e : d_law.d.name = ("law" : Str) := rfl
    rw [e, hmg] at this
    cases this
    rfl
  subst ef
  refine ⟨K, fd, LF K (Γ 100 "law"), X, fun s u => F.bindsA (ps := ["script"]) (fun _ _ _ _ _ _ us hl => match us, hl with | [_], _ => rfl) s [u] rfl, fun H a ns hn hO hS => ?_, fun base _ _ => ?_⟩
  · refine ⟨[.rl (ns.map .int)], fun _ => none, fun _ => none, _, _, empty_rel, .cons (script_rd hO hS) .nil, data ns hn, fun d S' v H' q e r rd => ?_, .no⟩
    subst q
    exact rd.bli
  · have fre : ∀ x : Str, K50.Tm.free.contains x = true → mg x = none := fun x hx => He.free_ok X G (c.facts (f := .free x) (List.mem_append_left _ (List.mem_map_of_mem (by simpa using hx))))
    have exf : ∀ x : Str, K50.Tm.exc.contains x = true → ExcF PySem.Challenge.pw_castbypowers_k50_digits_and_least_trees K mg x := fun x hx => by
      have h : x ∈ ins.map (·.cls) := by have e : K50.Tm.exc = ins.map (·.cls) := rfl; rw [← e]; simpa using hx
      obtain ⟨d, hd, rfl⟩ := List.mem_map.mp h
      obtain ⟨h1, h2⟩ := ce.ins_ hd
      exact excF_of X G (ins_ok d hd) h1 h2
    exact prog_ok T_fns ok_all (fun d hd => (fs_plain d hd).2.2.2.2.1) (fun d hd => let ⟨fd, F⟩ := dd d hd; ⟨_, fd, glo d hd, F⟩)
      fre (fun x b hx hb => ce.mfn X G x b hx hb) (fun x d _ hx => ce.glb X G hx) exf
      (fun x c b hy => subF_of X G (ce.sub_ hy))
      (fun k x hx => by
        have hxm : x ∈ fsC.map (fun d => d.d.name) := by have e : K50.Tm.cln = fsC.map (fun d => d.d.name) := rfl; rw [← e]; simpa using hx
        obtain ⟨d, hd, rfl⟩ := List.mem_map.mp hxm
        obtain ⟨hok, hfs⟩ := okc_all d hd
        obtain ⟨fd', F'⟩ := dd _ hfs
        exact ⟨_, fd', d.ps, glo d hfs, F'.kp, F'.bindsN (ok_all d hfs).bnd, prog_ok (T := K50.TmC) (fs := fsC) (fun x hx => by
          have h : x ∈ fsC.map (fun d => d.d.name) := by have e : K50.TmC.fns = fsC.map (fun d => d.d.name) := rfl; rw [← e]; simpa using hx
          obtain ⟨d, hd, e⟩ := List.mem_map.mp h
          exact ⟨d, hd, e⟩) (fun d hd => (okc_all d hd).1) (fun d hd => (fs_plain d (okc_all d hd).2).2.2.2.2.1) (fun d hd => let ⟨fd, F⟩ := dd d (okc_all d hd).2; ⟨_, fd, glo d (okc_all d hd).2, F⟩)
          fre (fun x b hx hb => ce.mfn X G x b hx hb) (fun x d _ hx => ce.glb X G hx) exf (fun x c b hy => subF_of X G (ce.sub_ hy)) (fun k x hx => by cases hx) k d hd _ fd' F'⟩)
      100 d_law hl _ fd F
end K50
set_option maxHeartbeats 0
open PySem PySem.W PySem.Calls PyProof.Rows
theorem PySem.Challenge.cw_castbypowers_k50_digits_and_least_trees_holds : PySem.Challenge.rw_castbypowers_k50_digits_and_least_trees.Holds := by
  w_on; o_law
  refine HandSHeadRun.head_imp (r := OpenLaw.row PySem.Challenge.rw_castbypowers_k50_digits_and_least_trees) (q := view (OpenLaw.row PySem.Challenge.rw_castbypowers_k50_digits_and_least_trees).prog [0, 40]) (H := K50.hk) (ob := K50.ob) (M := 6000) (loose := K50.loose) (d := HandSHeadRun.topDef (OpenLaw.row PySem.Challenge.rw_castbypowers_k50_digits_and_least_trees).prog 40) (kwd := []) K50.ob_eq
    K50.run (by kernel_rfl) (by kernel_rfl) (by kernel_rfl) (by rfl) (by first | assumption | decide +kernel) (by decide +kernel) ⟨rfl, rfl, rfl, rfl, rfl, by decide +kernel⟩ ?hw ?hc
  case hw => w_witness2
  case hc =>
    refine Mi.law_walk (l := PySem.Challenge.rw_castbypowers_k50_digits_and_least_trees) (n := 63) (k := 102) (x := "script") rfl (by decide) (by kernel_rfl) ⟨rfl, by decide, by decide⟩ ?F
    case F =>
      intro w mg fa h Y G hmg0
      obtain ⟨K, KX, c⟩ := Y
      have hmg : mg ("law" : PySem.Str) = some (.ref fa) := by
        have e : (HandSHeadRun.topDef (OpenLaw.row PySem.Challenge.rw_castbypowers_k50_digits_and_least_trees).prog 40).name = ("law" : PySem.Str) := by kernel_rfl
        rw [← e]
        exact hmg0
      exact K50.facts (w := w) KX G hmg c K50.law_data
