import PyProof.Rows.All
import PySem.Challenge.RW_castbypowers_k32_chances_as_polynomials
import Wide.All
import OpenK.AllK
import Wide.FinOn
import HandS.ForMost
import HandS.ForExc
import HandS.Gcd
import HandS.Wide
import HandS.TupAny
import HandS.TupMul
import HandS.Style
import HandS.More
import KE.KDictPairs
import HandS.ExcField
import HandS.ExcIs
import HandS.ExcInit
import HandS.FStr
import HandS.Nested
import KE.KExcSuper
import KE.KExcIs
import HandS.IsInst
import HandS.WordsExc
import HandS.HeadHook1
import HandS.HeadHook2
import HandS.HeadHook4
import HandS.HeadEnd
import HandS.Ends
import HandS.Codes
import HandS.Head0
import HandS.Head1
import HandS.Head2
import HandS.Head3
set_option Elab.async false
set_option linter.all false
set_option maxRecDepth 100000
namespace Mi
open PySem PySem.Spec PyProof.Rows L2
inductive D where
  | non | bl (b : Bool) | int (i : Int) | str (s : Str) | tup (l : List D) | ref (a : Addr) | rl (l : List D)
  deriving Inhabited
namespace D
mutual
def beq : D → D → Bool
  | .non, .non => true
  | .bl a, .bl b => a == b
  | .int a, .int b => decide (a = b)
  | .str a, .str b => decide (a = b)
  | .tup a, .tup b => beqs a b
  | .ref a, .ref b => decide (a = b)
  | .rl a, .rl b => beqs a b
  | .rl _, .non | .rl _, .bl _ | .rl _, .int _ | .rl _, .str _ | .rl _, .tup _ | .rl _, .ref _ => false
  | .non, .rl _ | .bl _, .rl _ | .int _, .rl _ | .str _, .rl _ | .tup _, .rl _ | .ref _, .rl _ => false
  | .non, .bl _ | .non, .int _ | .non, .str _ | .non, .tup _ | .non, .ref _ => false
  | .bl _, .non | .bl _, .int _ | .bl _, .str _ | .bl _, .tup _ | .bl _, .ref _ => false
  | .int _, .non | .int _, .bl _ | .int _, .str _ | .int _, .tup _ | .int _, .ref _ => false
  | .str _, .non | .str _, .bl _ | .str _, .int _ | .str _, .tup _ | .str _, .ref _ => false
  | .tup _, .non | .tup _, .bl _ | .tup _, .int _ | .tup _, .str _ | .tup _, .ref _ => false
  | .ref _, .non | .ref _, .bl _ | .ref _, .int _ | .ref _, .str _ | .ref _, .tup _ => false
def beqs : List D → List D → Bool
  | [], [] => true
  | a :: as, b :: bs => beq a b && beqs as bs
  | [], _ :: _ => false
  | _ :: _, [] => false
end
mutual
theorem beq_self : ∀ a : D, beq a a = true
  | .non => rfl
  | .bl a => by simp [beq]
  | .int a => by simp [beq]
  | .str a => by simp [beq]
  | .ref a => by simp [beq]
  | .tup a => by rw [beq]; exact beqs_self a
  | .rl a => by rw [beq]; exact beqs_self a
theorem beqs_self : ∀ a : List D, beqs a a = true
  | [] => rfl
  | a :: as => by rw [beqs, beq_self a, beqs_self as]; rfl
end
mutual
theorem eq_of_beq : ∀ a b : D, beq a b = true → a = b
  | .non, b, h => by cases b <;> simp [beq] at h ⊢
  | .bl a, b, h => by cases b <;> simp [beq] at h ⊢; exact h
  | .int a, b, h => by cases b <;> simp [beq] at h ⊢; exact h
  | .str a, b, h => by cases b <;> simp [beq] at h ⊢; exact h
  | .ref a, b, h => by cases b <;> simp [beq] at h ⊢; exact h
  | .tup a, b, h => by
    cases b with
    | tup b => rw [beq] at h; rw [eqs_of_beqs a b h]
    | _ => simp [beq] at h
  | .rl a, b, h => by
    cases b with
    | rl b => rw [beq] at h; rw [eqs_of_beqs a b h]
    | _ => simp [beq] at h
theorem eqs_of_beqs : ∀ a b : List D, beqs a b = true → a = b
  | [], b, h => by cases b <;> simp [beqs] at h ⊢
  | a :: as, b, h => by
    cases b with
    | nil => simp [beqs] at h
    | cons b bs =>
      rw [beqs, Bool.and_eq_true] at h
      rw [eq_of_beq a b h.1, eqs_of_beqs as bs h.2]
end
instance : DecidableEq D := fun a b => if h : beq a b = true then .isTrue (eq_of_beq a b h) else .isFalse fun e => h (e ▸ beq_self a)
mutual
def dep : D → Nat
  | .tup l => deps l + 1
  | .non => 0 | .bl _ => 0 | .int _ => 0 | .str _ => 0 | .ref _ => 0 | .rl _ => 0
def deps : List D → Nat
  | [] => 0
  | d :: l => max (dep d) (deps l)
end
mutual
def eqv : D → D → Bool
  | .non, .non => true
  | .bl a, .bl b => a == b
  | .bl a, .int j => (if a then 1 else 0) == j
  | .int i, .bl b => i == (if b then 1 else 0)
  | .int a, .int b => a == b
  | .str a, .str b => a == b
  | .tup a, .tup b => eqvs a b
  | .ref _, _ => false | _, .ref _ => false
  | .rl _, _ => false | _, .rl _ => false
  | .non, .bl _ | .non, .int _ | .non, .str _ | .non, .tup _ => false
  | .bl _, .non | .bl _, .str _ | .bl _, .tup _ => false
  | .int _, .non | .int _, .str _ | .int _, .tup _ => false
  | .str _, .non | .str _, .bl _ | .str _, .int _ | .str _, .tup _ => false
  | .tup _, .non | .tup _, .bl _ | .tup _, .int _ | .tup _, .str _ => false
def eqvs : List D → List D → Bool
  | [], [] => true
  | a :: as, b :: bs => eqv a b && eqvs as bs
  | [], _ :: _ => false
  | _ :: _, [] => false
end
mutual
def pure : D → Bool
  | .tup l => pures l
  | .ref _ => false
  | .rl _ => false
  | .non => true | .bl _ => true | .int _ => true | .str _ => true
def pures : List D → Bool
  | [] => true
  | d :: l => pure d && pures l
end
mutual
def py : D → PyData
  | .non => .none
  | .bl b => .bool b
  | .int i => .int i
  | .str s => .str s
  | .tup l => .tuple (pys l)
  | .ref _ => .none
  | .rl _ => .none
def pys : List D → List PyData
  | [] => []
  | d :: l => py d :: pys l
end
mutual
theorem eqv_py : ∀ a b : D, pure a = true → pure b = true → PyData.eqv (py a) (py b) = eqv a b
  | .non, b, _, hb => by cases b <;> simp [pure] at hb <;> simp [py, PyData.eqv, eqv]
  | .bl a, b, _, hb => by cases b <;> simp [pure] at hb <;> simp [py, PyData.eqv, eqv]
  | .int a, b, _, hb => by cases b <;> simp [pure] at hb <;> simp [py, PyData.eqv, eqv]
  | .str a, b, _, hb => by cases b <;> simp [pure] at hb <;> simp [py, PyData.eqv, eqv]
  | .ref a, _, h, _ => by simp [pure] at h
  | .tup a, b, ha, hb => by
    cases b with
    | tup b =>
      rw [pure] at ha hb
      rw [py, py, PyData.eqv, eqv]
      exact eqvs_py a b ha hb
    | ref b => simp [pure] at hb
    | rl b => simp [pure] at hb
    | _ => simp [py, PyData.eqv, eqv]
theorem eqvs_py : ∀ a b : List D, pures a = true → pures b = true → PyData.eqvAll (pys a) (pys b) = eqvs a b
  | [], b, _, _ => by cases b <;> simp [pys, PyData.eqvAll, eqvs]
  | a :: as, b, ha, hb => by
    cases b with
    | nil => simp [pys, PyData.eqvAll, eqvs]
    | cons b bs =>
      rw [pures, Bool.and_eq_true] at ha hb
      rw [pys, pys, PyData.eqvAll, eqvs, eqv_py a b ha.1 hb.1, eqvs_py as bs ha.2 hb.2]
end
mutual
theorem dep_py : ∀ a : D, (py a).depth = dep a
  | .non => by simp [py, PyData.depth, dep]
  | .bl a => by simp [py, PyData.depth, dep]
  | .int a => by simp [py, PyData.depth, dep]
  | .str a => by simp [py, PyData.depth, dep]
  | .ref a => by simp [py, PyData.depth, dep]
  | .rl a => by simp [py, PyData.depth, dep]
  | .tup a => by rw [py, PyData.depth, dep, deps_py a]
theorem deps_py : ∀ a : List D, PyData.depthAll (pys a) = deps a
  | [] => by simp [pys, PyData.depthAll, deps]
  | a :: as => by rw [pys, PyData.depthAll, deps, dep_py a, deps_py as]
end
mutual
def nb : D → Bool
  | .tup l => nbs l
  | .ref _ => false | .bl _ => false | .rl _ => false
  | .non => true | .int _ => true | .str _ => true
def nbs : List D → Bool
  | [] => true
  | d :: l => nb d && nbs l
end
mutual
theorem pure_nb : ∀ a : D, nb a = true → pure a = true
  | .non, _ => rfl
  | .bl _, h => by simp [nb] at h
  | .int _, _ => rfl
  | .str _, _ => rfl
  | .ref _, h => by simp [nb] at h
  | .rl _, h => by simp [nb] at h
  | .tup a, h => by rw [nb] at h; rw [pure]; exact pures_nbs a h
theorem pures_nbs : ∀ a : List D, nbs a = true → pures a = true
  | [], _ => rfl
  | a :: as, h => by
    rw [nbs, Bool.and_eq_true] at h
    rw [pures, pure_nb a h.1, pures_nbs as h.2]; rfl
end
mutual
theorem eqv_nb : ∀ a b : D, nb a = true → nb b = true → eqv a b = beq a b
  | .non, b, _, hb => by cases b <;> simp [nb] at hb <;> simp [beq, eqv]
  | .bl a, _, h, _ => by simp [nb] at h
  | .int a, b, _, hb => by cases b <;> simp [nb] at hb <;> simp [beq, eqv, Bool.beq_eq_decide_eq]
  | .str a, b, _, hb => by cases b <;> simp [nb] at hb <;> simp [beq, eqv, Bool.beq_eq_decide_eq]
  | .ref a, _, h, _ => by simp [nb] at h
  | .tup a, b, ha, hb => by
    cases b with
    | tup b =>
      rw [nb] at ha hb
      rw [beq, eqv]
      exact eqvs_nb a b ha hb
    | _ => simp [nb] at hb <;> simp [beq, eqv]
theorem eqvs_nb : ∀ a b : List D, nbs a = true → nbs b = true → eqvs a b = beqs a b
  | [], b, _, _ => by cases b <;> simp [beqs, eqvs]
  | a :: as, b, ha, hb => by
    cases b with
    | nil => simp [beqs, eqvs]
    | cons b bs =>
      rw [nbs, Bool.and_eq_true] at ha hb
      rw [beqs, eqvs, eqv_nb a b ha.1 hb.1, eqvs_nb as bs ha.2 hb.2]
end
theorem decide_beq (a b : D) : decide (a = b) = beq a b := by
  cases h : beq a b with
  | true => exact decide_eq_true (eq_of_beq a b h)
  | false => exact decide_eq_false fun e => by rw [e, beq_self] at h; cases h
theorem eqv_eq {a b : D} (ha : nb a = true) (hb : nb b = true) : eqv a b = decide (a = b) := by rw [eqv_nb a b ha hb, decide_beq]
end D
def TupK (K : PySem.W.Frag) (H : Hp) (a : Addr) (xs : List V) : Prop :=
  (∃ o : Obj, H a = some (.frz o (.tup xs)) ∧ o.dict = none) ∨
    ∃ (o : Obj) (its : Array Value) (n : Nat), K.lookup a = some o ∧ o.cls = .type "tuple" ∧ o.dict = none ∧ o.data = .seq its n ∧ its.size ≤ sizeLine ∧ Vals xs its.toList
theorem TupK.sq {K : PySem.W.Frag} {H : Hp} {a : Addr} {xs : List V} (h : TupK K H a xs) : SqT K H a xs := by
  rcases h with ⟨o, h, _⟩ | ⟨o, its, n, h1, h2, _, h3, h4, h5⟩
  · exact .inl (.inr ⟨o, h⟩)
  · exact .inr ⟨o, its, n, h1, h2, h3, h4, h5⟩
def FixL (K : PySem.W.Frag) (H : Hp) (a : Addr) (xs : List V) : Prop :=
  (∃ o : Obj, H a = some (.frz o (.lst xs))) ∨
    ∃ (o : Obj) (its : Array Value) (n : Nat), K.lookup a = some o ∧ o.cls = .type "list" ∧ o.dict = none ∧ o.data = .seq its n ∧ its.size ≤ sizeLine ∧ Vals xs its.toList
theorem FixL.sq {K : PySem.W.Frag} {H : Hp} {a : Addr} {xs : List V} (h : FixL K H a xs) : SqL K H a xs := by
  rcases h with h | h
  · exact .inl (.inr h)
  · exact .inr h
mutual
def RD (K : PySem.W.Frag) (H : Hp) : D → V → Prop
  | .non, v => v = .non
  | .bl b, v => v = .bl b
  | .int i, v => v = .int i
  | .str s, v => v = .str s ∧ PyData.strOk s = true
  | .tup l, v => ∃ a vs, v = .ref a ∧ TupK K H a vs ∧ RDs K H l vs
  | .ref a, v => v = .ref a
  | .rl l, v => ∃ a vs, v = .ref a ∧ FixL K H a vs ∧ RDs K H l vs
def RDs (K : PySem.W.Frag) (H : Hp) : List D → List V → Prop
  | [], vs => vs = []
  | d :: l, vs => ∃ v r, vs = v :: r ∧ RD K H d v ∧ RDs K H l r
end
structure Ext (H H' : Hp) : Prop where
  tup : ∀ b xs, H b = some (.tup xs) → H' b = some (.tup xs)
  frz : ∀ b o u, H b = some (.frz o u) → H' b = some (.frz o u)
theorem Ext.refl {H : Hp} : Ext H H := ⟨fun _ _ h => h, fun _ _ _ h => h⟩
theorem Ext.trans {H H1 H2 : Hp} (a : Ext H H1) (b : Ext H1 H2) : Ext H H2 := ⟨fun c xs h => b.tup c xs (a.tup c xs h), fun c o u h => b.frz c o u (a.frz c o u h)⟩
theorem Ext.sqT {K : PySem.W.Frag} {H H' : Hp} (e : Ext H H') {a : Addr} {vs : List V} (h : SqT K H a vs) : SqT K H' a vs := by
  rcases h with (h | ⟨o, h⟩) | h
  · exact .inl (.inl (e.tup _ _ h))
  · exact .inl (.inr ⟨o, e.frz _ _ _ h⟩)
  · exact .inr h
theorem Ext.tupK {K : PySem.W.Frag} {H H' : Hp} (e : Ext H H') {a : Addr} {vs : List V} (h : TupK K H a vs) : TupK K H' a vs := by
  rcases h with ⟨o, h, d⟩ | h
  · exact .inl ⟨o, e.frz _ _ _ h, d⟩
  · exact .inr h
theorem Ext.new {H : Hp} {p : Addr} {o : HO} (h : H p = none) : Ext H (L2.upd H p o) := by
  refine ⟨fun b xs e => ?_, fun b ob u e => ?_⟩ <;> (rw [upd_ne (ne_of_none e h)]; exact e)
theorem Ext.write {H : Hp} {p : Addr} {o u : HO} (h : H p = some o) (nt : ∀ xs, o ≠ .tup xs) (nf : ∀ ob x, o ≠ .frz ob x) : Ext H (L2.upd H p u) := by
  refine ⟨fun b xs e => ?_, fun b ob x e => ?_⟩
  · rw [upd_ne (fun z => by subst z; rw [h] at e; exact nt xs (Option.some.inj e))]; exact e
  · rw [upd_ne (fun z => by subst z; rw [h] at e; exact nf ob x (Option.some.inj e))]; exact e
theorem Ext.fixL {K : PySem.W.Frag} {H H' : Hp} (e : Ext H H') {a : Addr} {vs : List V} (h : FixL K H a vs) : FixL K H' a vs := by
  rcases h with ⟨o, h⟩ | h
  · exact .inl ⟨o, e.frz _ _ _ h⟩
  · exact .inr h
mutual
theorem RD.ext {K : PySem.W.Frag} {H H' : Hp} (e : Ext H H') : ∀ (d : D) (v : V), RD K H d v → RD K H' d v
  | .non, v, h => by rw [RD] at h ⊢; exact h
  | .bl b, v, h => by rw [RD] at h ⊢; exact h
  | .int i, v, h => by rw [RD] at h ⊢; exact h
  | .str s, v, h => by rw [RD] at h ⊢; exact h
  | .ref a, v, h => by rw [RD] at h ⊢; exact h
  | .tup l, v, h => by
    rw [RD] at h ⊢
    obtain ⟨a, vs, ev, hs, hl⟩ := h
    exact ⟨a, vs, ev, e.tupK hs, RDs.ext e l vs hl⟩
  | .rl l, v, h => by
    rw [RD] at h ⊢
    obtain ⟨a, vs, ev, hs, hl⟩ := h
    exact ⟨a, vs, ev, e.fixL hs, RDs.ext e l vs hl⟩
theorem RDs.ext {K : PySem.W.Frag} {H H' : Hp} (e : Ext H H') : ∀ (l : List D) (vs : List V), RDs K H l vs → RDs K H' l vs
  | [], vs, h => by rw [RDs] at h ⊢; exact h
  | d :: l, vs, h => by
    rw [RDs] at h ⊢
    obtain ⟨v, r, ev, h1, h2⟩ := h
    exact ⟨v, r, ev, RD.ext e d v h1, RDs.ext e l r h2⟩
end
theorem RDs.nil {K : PySem.W.Frag} {H : Hp} : RDs K H [] [] := by rw [RDs]
theorem RDs.cons {K : PySem.W.Frag} {H : Hp} {d : D} {v : V} {l : List D} {vs : List V} (h : RD K H d v) (hs : RDs K H l vs) : RDs K H (d :: l) (v :: vs) := by rw [RDs]; exact ⟨v, vs, rfl, h, hs⟩
theorem RDs.length {K : PySem.W.Frag} {H : Hp} : ∀ {l : List D} {vs : List V}, RDs K H l vs → vs.length = l.length
  | [], vs, h => by rw [RDs] at h; rw [h]; rfl
  | d :: l, vs, h => by
    rw [RDs] at h
    obtain ⟨v, r, e, _, h2⟩ := h
    rw [e, List.length_cons, List.length_cons, RDs.length h2]
theorem RDs.append {K : PySem.W.Frag} {H : Hp} : ∀ {l m : List D} {vs ws : List V}, RDs K H l vs → RDs K H m ws → RDs K H (l ++ m) (vs ++ ws)
  | [], m, vs, ws, h, g => by rw [RDs] at h; rw [h]; exact g
  | d :: l, m, vs, ws, h, g => by
    rw [RDs] at h
    obtain ⟨v, r, e, h1, h2⟩ := h
    rw [e]
    exact .cons h1 (RDs.append h2 g)
theorem RDs.get {K : PySem.W.Frag} {H : Hp} : ∀ {l : List D} {vs : List V} {i : Nat} {d : D}, RDs K H l vs → l[i]? = some d → ∃ v, vs[i]? = some v ∧ RD K H d v
  | [], _, _, _, _, e => by simp at e
  | d :: l, vs, 0, d', h, e => by
    rw [RDs] at h
    obtain ⟨v, r, ev, h1, h2⟩ := h
    have e' : d = d' := by simpa using e
    subst e' ev
    exact ⟨v, rfl, h1⟩
  | d :: l, vs, i + 1, d', h, e => by
    rw [RDs] at h
    obtain ⟨v, r, ev, h1, h2⟩ := h
    subst ev
    obtain ⟨v', e2, h3⟩ := RDs.get (i := i) h2 (by simpa using e)
    exact ⟨v', by simpa using e2, h3⟩
theorem RDs.take {K : PySem.W.Frag} {H : Hp} : ∀ {l : List D} {vs : List V} (n : Nat), RDs K H l vs → RDs K H (l.take n) (vs.take n)
  | [], vs, n, h => by rw [RDs] at h; subst h; simpa using RDs.nil
  | d :: l, vs, 0, h => by simpa using RDs.nil
  | d :: l, vs, n + 1, h => by
    rw [RDs] at h
    obtain ⟨v, r, ev, h1, h2⟩ := h
    subst ev
    exact .cons h1 (RDs.take n h2)
theorem RDs.drop {K : PySem.W.Frag} {H : Hp} : ∀ {l : List D} {vs : List V} (n : Nat), RDs K H l vs → RDs K H (l.drop n) (vs.drop n)
  | [], vs, n, h => by rw [RDs] at h; subst h; simpa using RDs.nil
  | d :: l, vs, 0, h => h
  | d :: l, vs, n + 1, h => by
    rw [RDs] at h
    obtain ⟨v, r, ev, h1, h2⟩ := h
    subst ev
    exact RDs.drop n h2
theorem RDs.set {K : PySem.W.Frag} {H : Hp} {d : D} {v : V} (hd : RD K H d v) : ∀ {l : List D} {vs : List V} (i : Nat), RDs K H l vs → RDs K H (l.set i d) (vs.set i v)
  | [], vs, i, h => by rw [RDs] at h; subst h; simpa using RDs.nil
  | d :: l, vs, 0, h => by
    rw [RDs] at h
    obtain ⟨w, r, ev, h1, h2⟩ := h
    subst ev
    exact .cons hd h2
  | d :: l, vs, i + 1, h => by
    rw [RDs] at h
    obtain ⟨w, r, ev, h1, h2⟩ := h
    subst ev
    exact .cons h1 (RDs.set hd i h2)
theorem RDs.reverse {K : PySem.W.Frag} {H : Hp} : ∀ {l : List D} {vs : List V}, RDs K H l vs → RDs K H l.reverse vs.reverse
  | [], vs, h => by rw [RDs] at h; subst h; exact RDs.nil
  | d :: l, vs, h => by
    rw [RDs] at h
    obtain ⟨w, r, ev, h1, h2⟩ := h
    subst ev
    rw [List.reverse_cons, List.reverse_cons]
    exact (RDs.reverse h2).append (.cons h1 .nil)
inductive Cell where
  | lst (l : List D) | rls (l : List D) | dct (kvs : List (D × D)) | ins (C : Str) (fs : List (Str × D))
abbrev Sto := Addr → Option Cell
def Sto.upd (S : Sto) (a : Addr) (c : Cell) : Sto := fun b => if b = a then some c else S b
theorem Sto.upd_same {S : Sto} {a : Addr} {c : Cell} : S.upd a c a = some c := by unfold Sto.upd; rw [if_pos rfl]
theorem Sto.upd_ne {S : Sto} {a b : Addr} {c : Cell} (h : b ≠ a) : S.upd a c b = S b := by unfold Sto.upd; rw [if_neg h]
theorem Sto.upd_upd {S : Sto} {a : Addr} {c c' : Cell} : (S.upd a c).upd a c' = S.upd a c' := by
  funext b; unfold Sto.upd; split <;> rfl
theorem Sto.upd_comm {S : Sto} {a b : Addr} {c c' : Cell} (h : a ≠ b) : (S.upd a c).upd b c' = (S.upd b c').upd a c := by
  funext x; unfold Sto.upd
  by_cases h1 : x = a
  · subst h1; simp [h]
  · simp [h1]
theorem Sto.ne_of {S : Sto} {a b : Addr} {c : Cell} (h : S a = some c) (h' : S b = none) : a ≠ b := by
  intro e; subst e; rw [h] at h'; cases h'
def Sto.le (S S' : Sto) : Prop := ∀ a c, S a = some c → S' a = some c
theorem Sto.le_refl {S : Sto} : S.le S := fun _ _ h => h
theorem Sto.le.trans {S S1 S2 : Sto} (a : S.le S1) (b : S1.le S2) : S.le S2 := fun c x h => b c x (a c x h)
theorem Sto.le_new {S : Sto} {p : Addr} {c : Cell} (h : S p = none) : S.le (S.upd p c) := fun a x e => by rw [Sto.upd_ne (Sto.ne_of e h)]; exact e
theorem Sto.le_upd {S S' : Sto} {p : Addr} {c : Cell} (h : S p = none) (e : S.le S') : S.le (S'.upd p c) := fun a x q => by rw [Sto.upd_ne (Sto.ne_of q h)]; exact e a x q
def keyD : D → Option Key
  | .int i => some (.inl i)
  | .str s => some (.inr s)
  | _ => none
def RK (K : PySem.W.Frag) (H : Hp) : List (D × D) → List (Key × V) → Prop
  | [], ws => ws = []
  | (k, d) :: l, ws => ∃ k' v r, ws = (k', v) :: r ∧ keyD k = some k' ∧ RD K H d v ∧ RK K H l r
theorem RK.ext {K : PySem.W.Frag} {H H' : Hp} (e : Ext H H') : ∀ {l : List (D × D)} {ws : List (Key × V)}, RK K H l ws → RK K H' l ws
  | [], ws, h => by rw [RK] at h ⊢; exact h
  | (k, d) :: l, ws, h => by
    rw [RK] at h ⊢
    obtain ⟨k', v, r, e1, e2, h1, h2⟩ := h
    exact ⟨k', v, r, e1, e2, RD.ext e d v h1, RK.ext e h2⟩
def RF (K : PySem.W.Frag) (H : Hp) : List (Str × D) → List (Str × V) → Prop
  | [], ws => ws = []
  | (k, d) :: l, ws => ∃ v r, ws = (k, v) :: r ∧ RD K H d v ∧ RF K H l r
theorem RF.ext {K : PySem.W.Frag} {H H' : Hp} (e : Ext H H') : ∀ {l : List (Str × D)} {ws : List (Str × V)}, RF K H l ws → RF K H' l ws
  | [], ws, h => by rw [RF] at h ⊢; exact h
  | (k, d) :: l, ws, h => by
    rw [RF] at h ⊢
    obtain ⟨v, r, e1, h1, h2⟩ := h
    exact ⟨v, r, e1, RD.ext e d v h1, RF.ext e h2⟩
def gAd (K : PySem.W.Frag) (x : Str) : Addr := match PySem.W.nsIn K mainGlobals x with
  | some (some (.ref a)) => a
  | _ => 0
def RC (K : PySem.W.Frag) (H : Hp) (a : Addr) : Cell → Prop
  | .lst l => ∃ vs, H a = some (.lst vs) ∧ RDs K H l vs
  | .rls l => ∃ o vs, H a = some (.frz o (.lst vs)) ∧ RDs K H l vs
  | .dct kvs => ∃ ws, H a = some (.dK ws) ∧ RK K H kvs ws
  | .ins C fs => ∃ dx ws, H a = some (.ins (gAd K C) dx ws) ∧ RF K H fs ws
theorem RC.ext {K : PySem.W.Frag} {H H' : Hp} {a : Addr} {c : Cell} (e : Ext H H') (h : H' a = H a) (r : RC K H a c) : RC K H' a c := by
  cases c with
  | lst l =>
    obtain ⟨vs, h1, h2⟩ := r
    exact ⟨vs, by rw [h]; exact h1, h2.ext e⟩
  | rls l =>
    obtain ⟨o, vs, h1, h2⟩ := r
    exact ⟨o, vs, by rw [h]; exact h1, h2.ext e⟩
  | dct kvs =>
    obtain ⟨ws, h1, h2⟩ := r
    exact ⟨ws, by rw [h]; exact h1, h2.ext e⟩
  | ins C fs =>
    obtain ⟨dx, ws, h1, h2⟩ := r
    exact ⟨dx, ws, by rw [h]; exact h1, h2.ext e⟩
structure Rel (K : PySem.W.Frag) (S : Sto) (F H : Hp) : Prop where
  cell : ∀ a c, S a = some c → RC K H a c
  frm : ∀ a o, F a = some o → H a = some o
  sep : ∀ a o, F a = some o → S a = none
theorem Rel.there {K : PySem.W.Frag} {S : Sto} {F H : Hp} (r : Rel K S F H) {a : Addr} {c : Cell} (e : S a = some c) : ∃ o, H a = some o := by
  have q := r.cell a c e
  cases c with
  | lst l => obtain ⟨vs, h, _⟩ := q; exact ⟨_, h⟩
  | rls l => obtain ⟨o, vs, h, _⟩ := q; exact ⟨_, h⟩
  | dct kvs => obtain ⟨ws, h, _⟩ := q; exact ⟨_, h⟩
  | ins C fs => obtain ⟨dx, ws, h, _⟩ := q; exact ⟨_, h⟩
theorem Rel.free {K : PySem.W.Frag} {S : Sto} {F H : Hp} (r : Rel K S F H) {p : Addr} (e : H p = none) : S p = none := by
  cases q : S p with
  | none => rfl
  | some c =>
    obtain ⟨o, h⟩ := r.there q
    rw [e] at h; cases h
theorem Rel.freeF {K : PySem.W.Frag} {S : Sto} {F H : Hp} (r : Rel K S F H) {p : Addr} (e : H p = none) : F p = none := by
  cases q : F p with
  | none => rfl
  | some c => have h := r.frm _ _ q; rw [e] at h; cases h
theorem Rel.tup {K : PySem.W.Frag} {S : Sto} {F H : Hp} (r : Rel K S F H) {p : Addr} {o : HO} (e : H p = none) : Rel K S F (L2.upd H p o) where
  cell := fun a c q => (r.cell a c q).ext (.new e) (by
    obtain ⟨u, h⟩ := r.there q
    rw [upd_ne (ne_of_none h e)])
  frm := fun a u q => by rw [upd_ne (ne_of_none (r.frm a u q) e)]; exact r.frm a u q
  sep := r.sep
theorem Rel.new {K : PySem.W.Frag} {S : Sto} {F H : Hp} (r : Rel K S F H) {p : Addr} {o : HO} {c : Cell} (e : H p = none) (h : RC K (L2.upd H p o) p c) : Rel K (S.upd p c) F (L2.upd H p o) where
  cell := fun a c' q => by
    by_cases hp : a = p
    · subst hp; rw [Sto.upd_same] at q; cases q; exact h
    · rw [Sto.upd_ne hp] at q; exact (r.tup e).cell a c' q
  frm := (r.tup (o := o) e).frm
  sep := fun a u q => by
    have hp : a ≠ p := fun z => by subst z; rw [r.freeF e] at q; cases q
    rw [Sto.upd_ne hp]; exact r.sep a u q
theorem Rel.write {K : PySem.W.Frag} {S : Sto} {F H : Hp} (r : Rel K S F H) {p : Addr} {o : HO} {c c' : Cell} (e : S p = some c) (x : Ext H (L2.upd H p o)) (h : RC K (L2.upd H p o) p c') : Rel K (S.upd p c') F (L2.upd H p o) where
  cell := fun a d q => by
    by_cases hp : a = p
    · subst hp; rw [Sto.upd_same] at q; cases q; exact h
    · rw [Sto.upd_ne hp] at q; exact (r.cell a d q).ext x (upd_ne hp)
  frm := fun a u q => by
    have hp : a ≠ p := fun z => by subst z; rw [r.sep _ _ q] at e; cases e
    rw [upd_ne hp]; exact r.frm a u q
  sep := fun a u q => by
    have hp : a ≠ p := fun z => by subst z; rw [r.sep _ _ q] at e; cases e
    rw [Sto.upd_ne hp]; exact r.sep a u q
theorem Rel.less {K : PySem.W.Frag} {S S' : Sto} {F H : Hp} (r : Rel K S F H) (h : S'.le S) : Rel K S' F H where
  cell := fun a c q => r.cell a c (h a c q)
  frm := r.frm
  sep := fun a o q => by
    cases e : S' a with
    | none => rfl
    | some c => have := r.sep a o q; rw [h a c e] at this; cases this
structure RS (K : PySem.W.Frag) (H : Hp) (σ : List (Option D)) (τ : L2.St) : Prop where
  len : σ.length = τ.length
  get : ∀ (i : Nat) (d : D), σ[i]? = some (some d) → ∃ v, τ[i]? = some (some v) ∧ RD K H d v
theorem RS.ext {K : PySem.W.Frag} {H H' : Hp} {σ : List (Option D)} {τ : L2.St} (e : Ext H H') (r : RS K H σ τ) : RS K H' σ τ :=
  ⟨r.len, fun i d h => let ⟨v, h1, h2⟩ := r.get i d h; ⟨v, h1, h2.ext e⟩⟩
theorem RS.set {K : PySem.W.Frag} {H : Hp} {σ : List (Option D)} {τ : L2.St} (r : RS K H σ τ) (i : Nat) {d : D} {v : V} (h : RD K H d v) : RS K H (σ.set i (some d)) (τ.set i (some v)) := by
  refine ⟨by rw [List.length_set, List.length_set, r.len], fun j e q => ?_⟩
  by_cases hj : i = j
  · subst hj
    by_cases hi : i < σ.length
    · rw [List.getElem?_set_self hi] at q
      cases q
      exact ⟨v, by rw [List.getElem?_set_self (by rw [← r.len]; exact hi)], h⟩
    · rw [List.getElem?_eq_none (by simpa using hi)] at q; cases q
  · rw [List.getElem?_set_ne hj] at q
    obtain ⟨w, h1, h2⟩ := r.get j e q
    exact ⟨w, by rw [List.getElem?_set_ne hj]; exact h1, h2⟩
theorem RS.unset {K : PySem.W.Frag} {H : Hp} {σ : List (Option D)} {τ : L2.St} (r : RS K H σ τ) (i : Nat) {x : Option V} : RS K H (σ.set i none) (τ.set i x) := by
  refine ⟨by rw [List.length_set, List.length_set, r.len], fun j e q => ?_⟩
  by_cases hj : i = j
  · subst hj
    by_cases hi : i < σ.length
    · rw [List.getElem?_set_self hi] at q; cases q
    · rw [List.getElem?_eq_none (by simpa using hi)] at q; cases q
  · rw [List.getElem?_set_ne hj] at q
    obtain ⟨w, h1, h2⟩ := r.get j e q
    exact ⟨w, by rw [List.getElem?_set_ne hj]; exact h1, h2⟩
end Mi
namespace Mi
open PySem PySem.Spec PyProof.Rows L2
inductive Op where | add | sub | mul | fdiv | mod | pow
  deriving DecidableEq
inductive Cm where | eq | ne | lt | le | gt | ge | isin | notin | is | isnot
  deriving DecidableEq
inductive Bl where | len | abs | max | min | sum | all | any | int | str | tuple | list | dict | sorted | gcd
  deriving DecidableEq
inductive Mt where | append | extend | insert | pop | get | find | index | startswith | join | zfill
  deriving DecidableEq
inductive Ty where | int | bool | str | tuple | list
  deriving DecidableEq
mutual
inductive Tg where
  | nm (i : Nat) | tup (ts : Tgs)
inductive Tgs where
  | nil | cons (t : Tg) (ts : Tgs)
end
mutual
inductive E where
  | lit (d : D) | var (i : Nat) | glob (x : Str)
  | op (o : Op) (a b : E) | neg (a : E) | not (a : E) | and (a b : E) | or (a b : E)
  | cmp (o : Cm) (a b : E) | chain (o o' : Cm) (a b c : E) | ite (t a b : E)
  | tup (es : Es) | lst (es : Es) | dnew | disp (ks vs : Es)
  | ix (a i : E) | slc (a : E) (lo hi : Eo)
  | call (f : Str) (es : Es) | blt (b : Bl) (es : Es) | mth (m : Mt) (o : E) (es : Es) | isi (a : E) (ts : List Ty)
  | comp (b : Option Bl) (elt : E) (tg : Tg) (it : I) (c : Eo) (vs : List Nat)
inductive Es where
  | nil | cons (e : E) (es : Es)
inductive Eo where
  | none | some (e : E)
inductive I where
  | of (e : E) | rng1 (e : E) | rng2 (a b : E) | rng3 (a b c : E) | rev (e : E) | enum (e : E) | zip (a b : E) | items (e : E)
end
inductive HE where
  | isi (tb : List (Str × Bool)) | word (z : Str) | and (a b : HE) | not (a : HE) | tag (z : Str) (a : HE)
mutual
inductive S where
  | raise (f : Str) (e : E) | tryx (b : Ss) (tb : List (Str × Bool)) (i : Nat) (h : HE)
  | set (i : Nat) (e : E) | asg (t : Tg) (e : E) | sub (o i e : E) | aug (i : Nat) (o : Op) (e : E) | exp (e : E) | ret (e : E) | retN | pass | brk | cont
  | ite (t : E) (a b : Ss) | whl (t : E) (b : Ss) | for (t : Tg) (it : I) (b : Ss)
inductive Ss where
  | nil | cons (s : S) (ss : Ss)
end
abbrev En := List (Option D)
abbrev KD := D → Sto → Prop
structure Exc where
  cls : Str
  fs : List (Str × D)
abbrev KX := Exc → Sto → Prop
def hE : HE → Exc → Option D
  | .isi tb, x => (tb.lookup x.cls).map D.bl
  | .word z, x => (match x.fs.lookup ("word" : Str) with | some (.str y) => some (.bl (decide (y = z))) | _ => none)
  | .and a b, x => (match hE a x with | some (.bl c) => if c = true then hE b x else some (.bl false) | _ => none)
  | .not a, x => (match hE a x with | some (.bl c) => some (.bl (!c)) | _ => none)
  | .tag z a, x => (match hE a x with | some d => some (.tup [.str z, d]) | none => none)
abbrev FS := List D → Sto → KD → KX → Prop
def mulOk (i j : Int) : Prop := CMulW i j
def divOk (j : Int) : Prop := 0 < j ∧ j.natAbs.log2 < 9000
def opR : Op → D → D → Sto → KD → Prop
  | .add, .int i, .int j, S, Q => Q (.int (i + j)) S
  | .add, .str x, .str y, S, Q => x.length + y.length ≤ sizeLine ∧ Q (.str (x ++ y)) S
  | .add, .tup x, .tup y, S, Q => x.length + y.length ≤ sizeLine ∧ Q (.tup (x ++ y)) S
  | .add, .ref a, .ref b, S, Q => (match S a, S b with
    | some (.lst x), some (.lst y) => x.length + y.length ≤ sizeLine ∧ ∀ p, S p = none → Q (.ref p) (S.upd p (.lst (x ++ y)))
    | _, _ => False)
  | .sub, .int i, .int j, S, Q => Q (.int (i - j)) S
  | .mul, .int i, .int j, S, Q => CMulW i j ∧ Q (.int (i * j)) S
  | .fdiv, .int i, .int j, S, Q => CDivW i j ∧ Q (.int (i / j)) S
  | .mod, .int i, .int j, S, Q => 0 < j ∧ Q (.int (i % j)) S
  | .pow, .int i, .int j, S, Q => CPow i j ∧ Q (.int (i ^ j.toNat)) S
  | _, _, _, _, _ => False
def inD (x : D) (l : List D) : Bool := l.any fun y => D.eqv y x
def flatD : D → Bool
  | .non => true | .bl _ => true | .int _ => true | .str _ => true
  | .tup _ => false | .ref _ => false | .rl _ => false
def dget (kvs : List (D × D)) (k : D) : Option D := (kvs.find? fun kv => decide (kv.1 = k)).map (·.2)
def dput (kvs : List (D × D)) (k v : D) : List (D × D) := if (kvs.any fun kv => decide (kv.1 = k)) then kvs.map fun kv => if kv.1 = k then (kv.1, v) else kv else kvs ++ [(k, v)]
def ddel (kvs : List (D × D)) (k : D) : List (D × D) := kvs.filter fun kv => decide (kv.1 ≠ k)
def keyOk (_ : List (D × D)) (k : D) : Bool := (keyD k).isSome
def plainR (S : Sto) : D → Option (Bool × D)
  | .ref a => (match S a with
    | some (.lst l) => if D.pures l then some (true, .tup l) else none
    | some (.rls l) => if D.pures l then some (true, .tup l) else none
    | _ => none)
  | d => if D.pure d then some (false, d) else none
def eqR (d e : D) (S : Sto) (Q : Bool → Prop) : Prop := match plainR S d, plainR S e with
  | some (b, x), some (c, y) => min x.dep y.dep ≤ 60 ∧ Q (b == c && D.eqv x y)
  | _, _ => False
def lexR : List D → List D → Option Bool
  | [], [] => some false
  | [], _ :: _ => some true
  | _ :: _, [] => some false
  | .int a :: l, .int b :: m => if a = b then lexR l m else some (decide (a < b))
  | _ :: _, _ :: _ => none
def inR (x y : D) (S : Sto) (Q : Bool → Prop) : Prop := match y with
  | .tup l => flatD x = true ∧ l.all flatD = true ∧ Q (inD x l)
  | .str t => (match x with | .str s => Q (!(Builtin.Str.occurrences t s 0 t.length 1).isEmpty) | _ => False)
  | .ref a => (match S a with
    | some (.lst l) => flatD x = true ∧ l.all flatD = true ∧ Q (inD x l)
    | some (.dct kvs) => keyOk kvs x = true ∧ Q (dget kvs x).isSome
    | _ => False)
  | _ => False
def isR (x y : D) (Q : Bool → Prop) : Prop := match y with
  | .bl b => (match x with | .bl c => Q (c == b) | .non => Q false | .int _ => Q false | .str _ => Q false | .tup _ => Q false | .ref _ => Q false | .rl _ => Q false)
  | .non => (match x with | .non => Q true | .bl _ => Q false | .int _ => Q false | .str _ => Q false | .tup _ => Q false | .ref _ => Q false | .rl _ => Q false)
  | _ => False
def cmR : Cm → D → D → Sto → (Bool → Prop) → Prop
  | .eq, x, y, S, Q => eqR x y S Q
  | .ne, x, y, S, Q => eqR x y S fun b => Q (!b)
  | .lt, .int i, .int j, _, Q => Q (decide (i < j))
  | .le, .int i, .int j, _, Q => Q (decide (i ≤ j))
  | .gt, .int i, .int j, _, Q => Q (decide (j < i))
  | .ge, .int i, .int j, _, Q => Q (decide (j ≤ i))
  | .isin, x, y, S, Q => inR x y S Q
  | .notin, x, y, S, Q => inR x y S fun b => Q (!b)
  | .is, x, y, _, Q => isR x y Q
  | .isnot, x, y, _, Q => isR x y fun b => Q (!b)
  | _, _, _, _, _ => False
def truR (d : D) (S : Sto) (Q : Bool → Prop) : Prop := match d with
  | .non => Q false
  | .bl b => Q b
  | .int i => Q (i != 0)
  | .str s => s.length ≤ sizeLine ∧ Q ((s.length : Int) != 0)
  | .tup l => Q (!l.isEmpty)
  | .rl _ => False
  | .ref a => (match S a with
    | some (.lst l) => Q (!l.isEmpty)
    | some (.dct kvs) => Q (!kvs.isEmpty)
    | _ => False)
def ixR : D → D → Sto → KD → Prop
  | .tup l, .int i, S, Q => (match atI l i with | some d => Q d S | none => False)
  | .str s, .int i, S, Q => s.length ≤ sizeLine ∧ (match atI s.cps.toList i with | some c => Q (.str ⟨#[c]⟩) S | none => False)
  | .ref a, k, S, Q => (match S a with
    | some (.lst l) => (match k with | .int i => (match atI l i with | some d => Q d S | none => False) | _ => False)
    | some (.rls l) => (match k with | .int i => (match atI l i with | some d => Q d S | none => False) | _ => False)
    | some (.dct kvs) => keyOk kvs k = true ∧ (match dget kvs k with | some d => Q d S | none => False)
    | _ => False)
  | _, _, _, _ => False
def setR (o i v : D) (S : Sto) (Q : Sto → Prop) : Prop := match o with
  | .ref a => (match S a with
    | some (.lst l) => (match i with | .int k => (match ixN l.length k with | some j => Q (S.upd a (.lst (l.set j v))) | none => False) | _ => False)
    | some (.dct kvs) => keyOk kvs i = true ∧ kvs.length < sizeLine ∧ Q (S.upd a (.dct (dput kvs i v)))
    | _ => False)
  | _ => False
def cutD {α : Type} (xs : List α) (lo hi : Option Int) : List α := (xs.drop (HT.sIx xs.length 0 lo)).take (HT.sIx xs.length xs.length hi - HT.sIx xs.length 0 lo)
def slcR : D → Option Int → Option Int → Sto → KD → Prop
  | .tup l, lo, hi, S, Q => Q (.tup (cutD l lo hi)) S
  | .str s, lo, hi, S, Q => s.length ≤ sizeLine ∧ Q (.str ⟨(cutD s.cps.toList lo hi).toArray⟩) S
  | .ref a, lo, hi, S, Q => (match S a with
    | some (.lst l) => ∀ p, S p = none → Q (.ref p) (S.upd p (.lst (cutD l lo hi)))
    | _ => False)
  | _, _, _, _, _ => False
def asBls : List D → Option (List Bool)
  | [] => some []
  | .bl b :: l => (asBls l).map (b :: ·)
  | _ => none
def asInts : List D → Option (List Int)
  | [] => some []
  | .int b :: l => (asInts l).map (b :: ·)
  | _ => none
def ins (a : Int) : List Int → List Int
  | [] => [a]
  | b :: l => if a ≤ b then a :: b :: l else b :: ins a l
def srt : List Int → List Int
  | [] => []
  | a :: l => ins a (srt l)
def asPairs : List D → Option (List (D × D))
  | [] => some []
  | .tup [k, v] :: l => (asPairs l).map ((k, v) :: ·)
  | _ => none
def dmerge (kvs : List (D × D)) (ps : List (D × D)) : List (D × D) := ps.foldl (fun acc kv => dput acc kv.1 kv.2) kvs
def bllR : Bl → List D → Sto → KD → Prop
  | .tuple, l, S, Q => Q (.tup l) S
  | .all, l, S, Q => (match asBls l with | some bs => Q (.bl (bs.all id)) S | none => False)
  | .any, l, S, Q => (match asBls l with | some bs => Q (.bl (bs.any id)) S | none => False)
  | .sum, l, S, Q => (match asInts l with | some ns => Q (.int ns.sum) S | none => False)
  | .len, l, S, Q => Q (.int l.length) S
  | .sorted, l, S, Q => (match asInts l with | some ns => ns.length < 64 ∧ ∀ p, S p = none → Q (.ref p) (S.upd p (.lst ((srt ns).map D.int))) | none => False)
  | .max, l, S, Q => (match asInts l with | some ns => 0 < ns.length ∧ ∀ m, m ∈ ns → (∀ y, y ∈ ns → y ≤ m) → Q (.int m) S | none => False)
  | .min, l, S, Q => (match asInts l with | some ns => 0 < ns.length ∧ ∀ m, m ∈ ns → (∀ y, y ∈ ns → m ≤ y) → Q (.int m) S | none => False)
  | _, _, _, _ => False
def bltR : Bl → List D → Sto → KD → Prop
  | .len, [.tup l], S, Q => Q (.int l.length) S
  | .len, [.str s], S, Q => s.length ≤ sizeLine ∧ Q (.int s.length) S
  | .abs, [.int i], S, Q => Q (.int (if i < 0 then -i else i)) S
  | .max, [.int i, .int j], S, Q => Q (.int (if j > i then j else i)) S
  | .min, [.int i, .int j], S, Q => Q (.int (if j < i then j else i)) S
  | .gcd, [.int i, .int j], S, Q => Q (.int ((Nat.gcd i.natAbs j.natAbs : Nat) : Int)) S
  | .int, [.int i], S, Q => Q (.int i) S
  | .tuple, [.tup l], S, Q => Q (.tup l) S
  | .list, [.rl l], S, Q => ∀ p, S p = none → Q (.ref p) (S.upd p (.lst l))
  | .len, [.rl l], S, Q => Q (.int l.length) S
  | .list, [.tup l], S, Q => ∀ p, S p = none → Q (.ref p) (S.upd p (.lst l))
  | .list, [.ref a], S, Q => (match S a with
    | some (.lst l) => ∀ p, S p = none → Q (.ref p) (S.upd p (.lst l))
    | some (.rls l) => ∀ p, S p = none → Q (.ref p) (S.upd p (.lst l))
    | _ => False)
  | .dict, [.tup l], S, Q => (match asPairs l with | some kvs => kvs.all (fun kv => (keyD kv.1).isSome) = true ∧ ∀ p, S p = none → Q (.ref p) (S.upd p (.dct (dmerge [] kvs))) | none => False)
  | .sorted, [.ref a], S, Q => (match S a with
    | some (.lst l) => bllR .sorted l S Q
    | some (.dct kvs) => bllR .sorted (kvs.map (·.1)) S Q
    | _ => False)
  | b, [.ref a], S, Q => (match S a with
    | some (.lst l) => bllR b l S Q
    | some (.rls l) => b = .len ∧ Q (.int l.length) S
    | _ => False)
  | _, _, _, _ => False
def mthR : Mt → D → List D → Sto → KD → Prop
  | .append, .ref a, [d], S, Q => (match S a with | some (.lst l) => l.length < sizeLine ∧ Q .non (S.upd a (.lst (l ++ [d]))) | _ => False)
  | .extend, .ref a, [.ref b], S, Q => (match S a, S b with | some (.lst l), some (.lst m) => l.length + m.length ≤ sizeLine ∧ Q .non (S.upd a (.lst (l ++ m))) | _, _ => False)
  | .extend, .ref a, [.tup m], S, Q => (match S a with | some (.lst l) => l.length + m.length ≤ sizeLine ∧ Q .non (S.upd a (.lst (l ++ m))) | _ => False)
  | .insert, .ref a, [.int i, d], S, Q => (match S a with | some (.lst l) => l.length < sizeLine ∧ 0 ≤ i ∧ i < 2 ^ 63 ∧ Q .non (S.upd a (.lst (l.take i.toNat ++ [d] ++ l.drop i.toNat))) | _ => False)
  | .get, .ref a, [k, d], S, Q => (match S a with | some (.dct kvs) => keyOk kvs k = true ∧ Q ((dget kvs k).getD d) S | _ => False)
  | .pop, .ref a, [], S, Q => (match S a with | some (.lst l) => (match l[l.length - 1]? with | some d => Q d (S.upd a (.lst l.dropLast)) | none => False) | _ => False)
  | _, _, _, _, _ => False
def mtyR : Mt → D → Sto → Bool
  | .get, .ref a, S => (match S a with | some (.dct _) => true | _ => false)
  | .append, .ref a, S => (match S a with | some (.lst _) => true | _ => false)
  | .extend, .ref a, S => (match S a with | some (.lst _) => true | _ => false)
  | .pop, .ref a, S => (match S a with | some (.lst _) => true | _ => false)
  | .insert, .ref a, S => (match S a with | some (.lst _) => true | _ => false)
  | _, _, _ => false
def isT : Ty → D → Sto → Option Bool
  | _, .rl _, _ => none
  | t, .ref a, S => (match S a with | some (.lst _) => some (t == .list) | some (.dct _) => some false | _ => none)
  | .int, d, _ => (match d with | .int _ => some true | .bl _ => some true | _ => some false)
  | .bool, d, _ => (match d with | .bl _ => some true | _ => some false)
  | .str, d, _ => (match d with | .str _ => some true | _ => some false)
  | .tuple, d, _ => (match d with | .tup _ => some true | _ => some false)
  | .list, _, _ => some false
mutual
def wG : Tg → D → En → (En → Prop) → Prop
  | .nm i, d, σ, Q => Q (σ.set i (some d))
  | .tup ts, d, σ, Q => (match d with | .tup l => wGs ts l σ Q | _ => False)
def wGs : Tgs → List D → En → (En → Prop) → Prop
  | .nil, l, σ, Q => (match l with | [] => Q σ | _ :: _ => False)
  | .cons t ts, l, σ, Q => (match l with | d :: r => wG t d σ fun σ' => wGs ts r σ' Q | [] => False)
end
structure De where
  nx : En → Sto → Prop
  rt : KD
  bk : En → Sto → Prop
  ct : En → Sto → Prop
  xr : Exc → En → Sto → Prop
abbrev KI := List D → (Sto → Prop) → Sto → Prop
def forL (tg : Tg) (b : De → En → Sto → Prop) (chk : Sto → Prop) : List D → De → En → Sto → Prop
  | [], N, σ, S => chk S ∧ N.nx σ S
  | d :: ds, N, σ, S => chk S ∧ wG tg d σ fun σ' => b { N with nx := forL tg b chk ds N, ct := forL tg b chk ds N, bk := N.nx } σ' S
def whlL (t : En → Sto → (Bool → Sto → Prop) → Prop) (b : De → En → Sto → Prop) : Nat → De → En → Sto → Prop
  | 0, _, _, _ => False
  | n + 1, N, σ, S => t σ S fun c S' => if c = true then b { N with nx := whlL t b n N, ct := whlL t b n N, bk := N.nx } σ S' else N.nx σ S'
def cmpL (tg : Tg) (c : En → Sto → (Bool → Sto → Prop) → Prop) (e : En → Sto → KD → Prop) (chk : Sto → Prop) : List D → En → Sto → (List D → Sto → Prop) → Prop
  | [], _, S, Q => chk S ∧ Q [] S
  | d :: ds, σ, S, Q => chk S ∧ wG tg d σ fun σ' => c σ' S fun b S1 => if b = true then e σ' S1 fun v S2 => cmpL tg c e chk ds σ S2 fun vs S3 => Q (v :: vs) S3 else cmpL tg c e chk ds σ S1 Q
def wipeD (σ : En) : List Nat → En
  | [] => σ
  | v :: vs => (wipeD σ vs).set v none
def rngD (lo : Int) (n : Nat) : List D := (List.range n).map fun (i : Nat) => D.int (lo + i)
def inB (j : Int) : Prop := -(2 ^ 62) ≤ j ∧ j < 2 ^ 62
def itR (d : D) (S : Sto) (Q : KI) : Prop := match d with
  | .tup l => Q l (fun _ => True) S
  | .str s => Q (s.cps.toList.map fun c => D.str ⟨#[c]⟩) (fun _ => True) S
  | .ref a => (match S a with
    | some (.lst l) => Q l (fun S' => S' a = some (.lst l)) S
    | some (.rls l) => Q l (fun S' => S' a = some (.rls l)) S
    | _ => False)
  | _ => False
section
variable (Γ : Str → FS) (G : Str → Option D)
mutual
def wE : E → En → Sto → KD → KX → Prop
  | .lit d, _, S, Q, _ => Q d S
  | .var i, σ, S, Q, _ => (match σ[i]? with | some (some d) => Q d S | _ => False)
  | .glob x, _, S, Q, _ => (match G x with | some d => Q d S | none => False)
  | .op o a b, σ, S, Q, X => wE a σ S (fun x S1 => wE b σ S1 (fun y S2 => opR o x y S2 Q) X) X
  | .neg a, σ, S, Q, X => wE a σ S (fun x S1 => (match x with | .int i => Q (.int (-i)) S1 | _ => False)) X
  | .not a, σ, S, Q, X => wE a σ S (fun x S1 => truR x S1 fun b => Q (.bl (!b)) S1) X
  | .and a b, σ, S, Q, X => wE a σ S (fun x S1 => (match x with | .bl c => if c = true then wE b σ S1 Q X else Q (.bl false) S1 | _ => False)) X
  | .or a b, σ, S, Q, X => wE a σ S (fun x S1 => (match x with | .bl c => if c = true then Q (.bl true) S1 else wE b σ S1 Q X | _ => False)) X
  | .cmp o a b, σ, S, Q, X => wE a σ S (fun x S1 => wE b σ S1 (fun y S2 => cmR o x y S2 fun k => Q (.bl k) S2) X) X
  | .chain o o' a b c, σ, S, Q, X => wE a σ S (fun x S1 => wE b σ S1 (fun y S2 => cmR o x y S2 fun k => if k = true then wE c σ S2 (fun z S3 => cmR o' y z S3 fun k' => Q (.bl k') S3) X else Q (.bl false) S2) X) X
  | .ite t a b, σ, S, Q, X => wT t σ S (fun c S1 => if c = true then wE a σ S1 Q X else wE b σ S1 Q X) X
  | .tup es, σ, S, Q, X => wEs es σ S (fun ds S1 => ds.length ≤ sizeLine ∧ Q (.tup ds) S1) X
  | .lst es, σ, S, Q, X => wEs es σ S (fun ds S1 => ds.length ≤ sizeLine ∧ ∀ p, S1 p = none → Q (.ref p) (S1.upd p (.lst ds))) X
  | .dnew, _, S, Q, _ => ∀ p, S p = none → Q (.ref p) (S.upd p (.dct []))
  | .disp ks vs, σ, S, Q, X => wEs ks σ S (fun xs S1 => wEs vs σ S1 (fun ys S2 => xs.length = ys.length ∧ xs.length ≤ 15 ∧ xs.all (fun k => (keyD k).isSome) = true ∧ ∀ p, S2 p = none → Q (.ref p) (S2.upd p (.dct (dmerge [] (xs.zip ys))))) X) X
  | .ix a i, σ, S, Q, X => wE a σ S (fun x S1 => wE i σ S1 (fun y S2 => ixR x y S2 Q) X) X
  | .slc a lo hi, σ, S, Q, X => wE a σ S (fun x S1 => wO lo σ S1 (fun l S2 => wO hi σ S2 (fun h S3 => slcR x l h S3 Q) X) X) X
  | .call f es, σ, S, Q, X => wEs es σ S (fun ds S1 => Γ f ds S1 Q X) X
  | .blt b es, σ, S, Q, X => wEs es σ S (fun ds S1 => bltR b ds S1 Q) X
  | .mth m o es, σ, S, Q, X => wE o σ S (fun x S1 => mtyR m x S1 = true ∧ wEs es σ S1 (fun ds S2 => mthR m x ds S2 Q) X) X
  | .isi a ts, σ, S, Q, X => wE a σ S (fun x S1 => (match ts.mapM (fun t => isT t x S1) with | some bs => Q (.bl (bs.any id)) S1 | none => False)) X
  | .comp b e tg it c vs, σ, S, Q, X => wI it σ S (fun l chk S1 => l.length ≤ sizeLine ∧ cmpL tg (fun σ' S' Q' => wC c σ' S' Q' fun _ _ => False) (fun σ' S' Q' => wE e σ' S' Q' fun _ _ => False) chk l (wipeD σ vs) S1
      fun ds S2 => (match b with | some b => bllR b ds S2 Q | none => ∀ p, S2 p = none → Q (.ref p) (S2.upd p (.lst ds)))) X
def wT : E → En → Sto → (Bool → Sto → Prop) → KX → Prop
  | .not a, σ, S, Q, X => wT a σ S (fun b S1 => Q (!b) S1) X
  | .and a b, σ, S, Q, X => wT a σ S (fun c S1 => if c = true then wT b σ S1 Q X else Q false S1) X
  | .or a b, σ, S, Q, X => wT a σ S (fun c S1 => if c = true then Q true S1 else wT b σ S1 Q X) X
  | .cmp o a b, σ, S, Q, X => wE a σ S (fun x S1 => wE b σ S1 (fun y S2 => cmR o x y S2 fun k => Q k S2) X) X
  | .chain o o' a b c, σ, S, Q, X => wE a σ S (fun x S1 => wE b σ S1 (fun y S2 => cmR o x y S2 fun k => if k = true then wE c σ S2 (fun z S3 => cmR o' y z S3 fun k' => Q k' S3) X else Q false S2) X) X
  | .lit d, _, S, Q, _ => truR d S fun b => Q b S
  | .var i, σ, S, Q, _ => (match σ[i]? with | some (some d) => truR d S fun b => Q b S | _ => False)
  | .glob x, _, S, Q, _ => (match G x with | some d => truR d S fun b => Q b S | none => False)
  | .ix a i, σ, S, Q, X => wE a σ S (fun x S1 => wE i σ S1 (fun y S2 => ixR x y S2 fun d S' => truR d S' fun b => Q b S') X) X
  | .call f es, σ, S, Q, X => wEs es σ S (fun ds S1 => Γ f ds S1 (fun d S' => truR d S' fun b => Q b S') X) X
  | .blt b es, σ, S, Q, X => wEs es σ S (fun ds S1 => bltR b ds S1 fun d S' => truR d S' fun b => Q b S') X
  | .mth m o es, σ, S, Q, X => wE o σ S (fun x S1 => mtyR m x S1 = true ∧ wEs es σ S1 (fun ds S2 => mthR m x ds S2 fun d S' => truR d S' fun b => Q b S') X) X
  | .isi a ts, σ, S, Q, X => wE a σ S (fun x S1 => (match ts.mapM (fun t => isT t x S1) with | some bs => Q (bs.any id) S1 | none => False)) X
  | .comp (some b) e tg it c vs, σ, S, Q, X => wI it σ S (fun l chk S1 => l.length ≤ sizeLine ∧ cmpL tg (fun σ' S' Q' => wC c σ' S' Q' fun _ _ => False) (fun σ' S' Q' => wE e σ' S' Q' fun _ _ => False) chk l (wipeD σ vs) S1 fun ds S2 => bllR b ds S2 fun d S' => truR d S' fun b => Q b S') X
  | _, _, _, _, _ => False
def wEs : Es → En → Sto → (List D → Sto → Prop) → KX → Prop
  | .nil, _, S, Q, _ => Q [] S
  | .cons e es, σ, S, Q, X => wE e σ S (fun d S1 => wEs es σ S1 (fun ds S2 => Q (d :: ds) S2) X) X
def wO : Eo → En → Sto → (Option Int → Sto → Prop) → KX → Prop
  | .none, _, S, Q, _ => Q none S
  | .some e, σ, S, Q, X => wE e σ S (fun d S1 => (match d with | .int i => Q (some i) S1 | _ => False)) X
def wC : Eo → En → Sto → (Bool → Sto → Prop) → KX → Prop
  | .none, _, S, Q, _ => Q true S
  | .some e, σ, S, Q, X => wT e σ S Q X
def wI : I → En → Sto → KI → KX → Prop
  | .of e, σ, S, Q, X => wE e σ S (fun d S1 => itR d S1 Q) X
  | .rng1 e, σ, S, Q, X => wE e σ S (fun d S1 => (match d with | .int j => inB j ∧ Q (rngD 0 j.toNat) (fun _ => True) S1 | _ => False)) X
  | .rng2 a b, σ, S, Q, X => wE a σ S (fun d S1 => wE b σ S1 (fun d' S2 => (match d, d' with | .int i, .int j => inB i ∧ inB j ∧ Q (rngD i (j - i).toNat) (fun _ => True) S2 | _, _ => False)) X) X
  | .rng3 _ _ _, _, _, _, _ => False
  | .rev e, σ, S, Q, X => wE e σ S (fun d S1 => itR d S1 fun l => Q l.reverse) X
  | .enum e, σ, S, Q, X => wE e σ S (fun d S1 => itR d S1 fun l => Q ((List.range l.length).zipWith (fun (i : Nat) d => D.tup [.int i, d]) l)) X
  | .zip a b, σ, S, Q, X => wE a σ S (fun d S1 => wE b σ S1 (fun d' S2 => itR d S2 fun l c S3 => itR d' S3 fun m c' S4 => Q (l.zipWith (fun x y => D.tup [x, y]) m) (fun S' => c S' ∧ c' S') S4) X) X
  | .items e, σ, S, Q, X => False
end
mutual
def wS : S → De → En → Sto → Prop
  | .raise f e, N, σ, S => wE Γ G e σ S (fun d S1 => (match d with | .str z => z.length ≤ 1000000 ∧ N.xr ⟨f, [("word", .str z)]⟩ σ S1 | _ => False)) fun x S1 => N.xr x σ S1
  | .tryx b tb i h, N, σ, S => wSs b { N with xr := fun x σ' S' => (match tb.lookup x.cls with
      | some c => if c = true then i < σ'.length ∧ (match hE h x with | some d => N.rt d S' | none => False) else N.xr x σ' S'
      | none => False) } σ S
  | .set i e, N, σ, S => wE Γ G e σ S (fun d S1 => N.nx (σ.set i (some d)) S1) fun x S1 => N.xr x σ S1
  | .asg t e, N, σ, S => wE Γ G e σ S (fun d S1 => wG t d σ fun σ' => N.nx σ' S1) fun x S1 => N.xr x σ S1
  | .sub o i e, N, σ, S => wE Γ G e σ S (fun d S1 => wE Γ G o σ S1 (fun x S2 => wE Γ G i σ S2 (fun y S3 => setR x y d S3 fun S4 => N.nx σ S4) fun x S1 => N.xr x σ S1) fun x S1 => N.xr x σ S1) fun x S1 => N.xr x σ S1
  | .aug i o e, N, σ, S => (match σ[i]? with | some (some x) => wE Γ G e σ S (fun y S1 => opR o x y S1 fun d S2 => N.nx (σ.set i (some d)) S2) fun x S1 => N.xr x σ S1 | _ => False)
  | .exp e, N, σ, S => wE Γ G e σ S (fun _ S1 => N.nx σ S1) fun x S1 => N.xr x σ S1
  | .ret e, N, σ, S => wE Γ G e σ S (fun d S1 => N.rt d S1) fun x S1 => N.xr x σ S1
  | .retN, N, _, S => N.rt .non S
  | .pass, N, σ, S => N.nx σ S
  | .brk, N, σ, S => N.bk σ S
  | .cont, N, σ, S => N.ct σ S
  | .ite t a b, N, σ, S => wT Γ G t σ S (fun c S1 => if c = true then wSs a N σ S1 else wSs b N σ S1) fun x S1 => N.xr x σ S1
  | .whl t b, N, σ, S => ∃ n, whlL (fun σ' S' Q => wT Γ G t σ' S' Q fun x S1 => N.xr x σ' S1) (wSs b) n N σ S
  | .for t it b, N, σ, S => wI Γ G it σ S (fun l chk S1 => forL t (wSs b) chk l N σ S1) fun x S1 => N.xr x σ S1
def wSs : Ss → De → En → Sto → Prop
  | .nil, N, σ, S => N.nx σ S
  | .cons s ss, N, σ, S => wS s { N with nx := wSs ss N } σ S
end
end
end Mi
namespace Mi
open PySem PySem.Spec PyProof.Rows L2
structure Tb where
  fns : List Str
  glob : List Str
  free : List Str
  gcd : Bool
  exc : List Str
  sub : List (Str × Str × Bool)
def okN (x : Str) : Bool := !(x == ("__debug__" : Str)) && !(x == ("__classdict__" : Str)) && !(x == ("__name__" : Str))
def gd (b : Bool) : Option Unit := if b = true then some () else none
theorem gd_some {b : Bool} {u : Unit} : gd b = some u ↔ b = true := by unfold gd; cases b <;> simp
def ixOf (N : List Str) (x : Str) : Option Nat := N.findIdx? fun y => decide (y = x)
theorem ixOf_get {N : List Str} {x : Str} {i : Nat} (h : ixOf N x = some i) : N[i]? = some x := by
  unfold ixOf at h
  obtain ⟨hi, h1, _⟩ := List.findIdx?_eq_some_iff_getElem.mp h
  rw [List.getElem?_eq_getElem hi]
  exact congrArg some (of_decide_eq_true h1)
def visIx (N : List Str) (sc : Scope) (x : Str) : Option Nat := match sc.names.lookup x with
  | some .local => if okN x then ixOf N x else none
  | some .cell => if okN x then ixOf N x else none
  | some .free => if okN x then ixOf N x else none
  | _ => none
def locIx (N : List Str) (sc : Scope) (fnc : Str → Bool) (x : Str) : Option Nat := match sc.names.lookup x with
  | some .local => ixOf N x
  | some .cell => if fnc x then ixOf N x else none
  | _ => none
def glB (sc : Scope) (x : Str) : Bool := decide (sc.names.lookup x = some .globalImplicit) && okN x
def opOf : Operator → Option Op
  | .Add => some .add | .Sub => some .sub | .Mult => some .mul | .FloorDiv => some .fdiv | .Mod => some .mod | .Pow => some .pow
  | _ => none
def cmOf : CmpOp → Cm
  | .Eq => .eq | .NotEq => .ne | .Lt => .lt | .LtE => .le | .Gt => .gt | .GtE => .ge | .Is => .is | .IsNot => .isnot | .In => .isin | .NotIn => .notin
def bltOf (x : Str) : Option Bl :=
  if x = ("len" : Str) then some .len else if x = ("abs" : Str) then some .abs else if x = ("max" : Str) then some .max else if x = ("min" : Str) then some .min
  else if x = ("sum" : Str) then some .sum else if x = ("all" : Str) then some .all else if x = ("any" : Str) then some .any else if x = ("int" : Str) then some .int
  else if x = ("tuple" : Str) then some .tuple else if x = ("list" : Str) then some .list else if x = ("dict" : Str) then some .dict else if x = ("sorted" : Str) then some .sorted else none
def mthOf (x : Str) : Option Mt :=
  if x = ("append" : Str) then some .append else if x = ("extend" : Str) then some .extend else if x = ("get" : Str) then some .get else if x = ("pop" : Str) then some .pop else if x = ("insert" : Str) then some .insert else none
def tyOf (T : Tb) (sc : Scope) : PySem.Expr → Option Ty
  | .Name x _ => if glB sc x && T.free.contains x then
      (if x = ("int" : Str) then some .int else if x = ("bool" : Str) then some .bool else if x = ("str" : Str) then some .str else if x = ("tuple" : Str) then some .tuple else if x = ("list" : Str) then some .list else none) else none
  | _ => none
def litOf : Const → Option D
  | .int i => some (.int i)
  | .bool b => some (.bl b)
  | .none => some .non
  | .str s => if PyData.strOk s then some (.str s) else none
  | _ => none
mutual
def tgSlots : Tg → List Nat
  | .nm i => [i]
  | .tup ts => tgsSlots ts
def tgsSlots : Tgs → List Nat
  | .nil => []
  | .cons t ts => tgSlots t ++ tgsSlots ts
end
def isRng (T : Tb) (sc : Scope) : PySem.Expr → Option (List PySem.Expr)
  | .Call (.Name f _) es [] _ => if glB sc f && T.free.contains f && decide (f = ("range" : Str)) then some es else none
  | _ => none
section
variable (T : Tb) (N : List Str)
mutual
def cG : Nat → Scope → (Str → Bool) → PySem.Expr → Option Tg
  | 0, _, _, _ => none
  | n + 1, sc, fnc, .Name x _ => (locIx N sc fnc x).map Tg.nm
  | n + 1, sc, fnc, .Tuple es _ _ => (cGs n sc fnc es).map Tg.tup
  | _ + 1, _, _, _ => none
def cGs : Nat → Scope → (Str → Bool) → List PySem.Expr → Option Tgs
  | 0, _, _, _ => none
  | _ + 1, _, _, [] => some .nil
  | n + 1, sc, fnc, e :: es => do
    let t ← cG n sc fnc e
    let ts ← cGs n sc fnc es
    return .cons t ts
end
def ownOf (scope : Scope) : List (Str × Nat) := scope.names.filterMap fun y => match y.2 with
  | .local => (ixOf N y.1).map fun i => (y.1, i)
  | .cell => (ixOf N y.1).map fun i => (y.1, i)
  | _ => none
mutual
def cE : Nat → Scope → PySem.Expr → Option E
  | 0, _, _ => none
  | n + 1, sc, .Constant c _ _ => (litOf c).map E.lit
  | n + 1, sc, .Name x _ => (match visIx N sc x with
    | some i => some (.var i)
    | none => if glB sc x && T.glob.contains x then some (.glob x) else none)
  | n + 1, sc, .BinOp a o b _ => do
    let o' ← opOf o
    let a' ← cE n sc a
    let b' ← cE n sc b
    return .op o' a' b'
  | n + 1, sc, .UnaryOp .USub a _ => (cE n sc a).map E.neg
  | n + 1, sc, .UnaryOp .Not a _ => (cE n sc a).map E.not
  | n + 1, sc, .BoolOp op es _ => cB n sc op es
  | n + 1, sc, .Compare a [o] [b] _ => do
    let _ ← gd (!behindInMarks o b)
    let a' ← cE n sc a
    let b' ← cE n sc b
    return .cmp (cmOf o) a' b'
  | n + 1, sc, .IfExp t a b _ => do
    let t' ← cE n sc t
    let a' ← cE n sc a
    let b' ← cE n sc b
    return .ite t' a' b'
  | n + 1, sc, .Tuple es _ _ => (cEs n sc es).map E.tup
  | n + 1, sc, .List es _ => (cEs n sc es).map E.lst
  | n + 1, sc, .Dict [] [] _ => some .dnew
  | n + 1, sc, .Dict ks vs _ => cD n sc ks vs
  | n + 1, sc, .Subscript a (.Slice lo hi none _) _ => do
    let a' ← cE n sc a
    let lo' ← cO n sc lo
    let hi' ← cO n sc hi
    return .slc a' lo' hi'
  | n + 1, sc, .Subscript a i _ => do
    let a' ← cE n sc a
    let i' ← cE n sc i
    return .ix a' i'
  | n + 1, sc, .Call (.Name f _) es [] pos => if glB sc f then
      (if T.fns.contains f then (cEs n sc es).map (E.call f)
      else if T.free.contains f then
        (if f = ("isinstance" : Str) then (match es with
          | [a, t] => do
            let a' ← cE n sc a
            let t' ← tyOf T sc t
            return .isi a' [t']
          | _ => none)
        else match bltOf f with
          | none => none
          | some b => (match es with
            | [.ListComp e [⟨tg, it, ifs, 0⟩] scope p] => cC n sc (some b) e tg it ifs scope
            | e :: es' => (cEs n sc (e :: es')).map (E.blt b)
            | [] => none))
      else if f = ("gcd" : Str) && T.gcd then (match es with
        | [a, b] => do
          let a' ← cE n sc a
          let b' ← cE n sc b
          return .blt .gcd (.cons a' (.cons b' .nil))
        | _ => none)
      else none) else none
  | n + 1, sc, .Call (.Attribute o m apos) es [] pos => do
    let _ ← gd (apos.endLine == pos.line)
    let m' ← mthOf m
    let _ ← gd (match o with | .Call .. => false | _ => true)
    let _ ← gd (decide (es.length < 20))
    let o' ← cE n sc o
    let es' ← cEs n sc es
    return .mth m' o' es'
  | n + 1, sc, .ListComp e [⟨tg, it, ifs, 0⟩] scope p => cC n sc none e tg it ifs scope
  | _ + 1, _, _ => none
def cB : Nat → Scope → PySem.BoolOp → List PySem.Expr → Option E
  | 0, _, _, _ => none
  | n + 1, sc, op, [a] => cE n sc a
  | n + 1, sc, op, a :: b :: r => do
    let a' ← cE n sc a
    let b' ← cB n sc op (b :: r)
    return (match op with | .And => .and a' b' | .Or => .or a' b')
  | _ + 1, _, _, _ => none
def cEs : Nat → Scope → List PySem.Expr → Option Es
  | 0, _, _ => none
  | _ + 1, _, [] => some .nil
  | n + 1, sc, e :: es => do
    let e' ← cE n sc e
    let es' ← cEs n sc es
    return .cons e' es'
def cD : Nat → Scope → List (Option PySem.Expr) → List PySem.Expr → Option E
  | 0, _, _, _ => none
  | n + 1, sc, [some k], [v] => do
    let k' ← cE n sc k
    let v' ← cE n sc v
    return .disp (.cons k' .nil) (.cons v' .nil)
  | _ + 1, _, _, _ => none
def cO : Nat → Scope → Option PySem.Expr → Option Eo
  | 0, _, _ => none
  | _ + 1, _, none => some .none
  | n + 1, sc, some e => (cE n sc e).map Eo.some
def cI : Nat → Scope → PySem.Expr → Option I
  | 0, _, _ => none
  | n + 1, sc, e => (match isRng T sc e with
    | some [a] => (cE n sc a).map I.rng1
    | some [a, b] => do
      let a' ← cE n sc a
      let b' ← cE n sc b
      return .rng2 a' b'
    | some _ => none
    | none => (cE n sc e).map I.of)
def cC : Nat → Scope → Option Bl → PySem.Expr → PySem.Expr → PySem.Expr → List PySem.Expr → Scope → Option E
  | 0, _, _, _, _, _, _, _ => none
  | n + 1, sc, b, e, tg, it, ifs, scope => do
    let _ ← gd (blkC N sc scope (ownOf N scope))
    let it' ← cI n sc it
    let tg' ← cG N n (relS scope sc) (fun x => scope.names.lookup x == some .cell) tg
    let _ ← gd ((tgSlots tg').all fun i => ((ownOf N scope).map (·.2)).contains i)
    let e' ← cE n (relS scope sc) e
    let c' ← (match ifs with | [] => some .none | [c] => (cE n (relS scope sc) c).map Eo.some | _ => none)
    return .comp b e' tg' it' c' ((ownOf N scope).map (·.2))
end
def subOf (c : Str) : List (Str × Bool) := T.sub.filterMap fun y => if y.2.1 = c then some (y.1, y.2.2) else none
def cH (sc : Scope) (n : Str) : Nat → PySem.Expr → Option HE
  | 0, _ => none
  | k + 1, .BoolOp .And [a, b] _ => do
    let a' ← cH sc n k a
    let b' ← cH sc n k b
    return .and a' b'
  | k + 1, .BoolOp .And [a, b, c] p => do
    let a' ← cH sc n k a
    let b' ← cH sc n k (.BoolOp .And [b, c] p)
    return .and a' b'
  | k + 1, .BoolOp .And [a, b, c, d] p => do
    let a' ← cH sc n k a
    let b' ← cH sc n k (.BoolOp .And [b, c, d] p)
    return .and a' b'
  | k + 1, .UnaryOp .Not a _ => (cH sc n k a).map HE.not
  | _ + 1, .Call (.Name f _) [.Name e _, .Name c _] [] _ => if glB sc f && T.free.contains f && decide (f = ("isinstance" : Str)) && decide (e = n) && glB sc c && (T.sub.any fun y => decide (y.2.1 = c)) then some (.isi (subOf T c)) else none
  | _ + 1, .Compare (.Attribute (.Name e _) w _) [.Eq] [.Constant (.str z) _ _] _ => if decide (e = n) && decide (w = ("word" : Str)) && PyData.strOk z then some (.word z) else none
  | k + 1, .Tuple [.Constant (.str z) _ _, a] _ _ => if PyData.strOk z then (cH sc n k a).map (HE.tag z) else none
  | _ + 1, _ => none
mutual
def cS : Nat → Scope → PySem.Stmt → Option S
  | 0, _, _ => none
  | n + 1, sc, .Assign [.Name x py] e pos => do
    let i ← locIx N sc (fun _ => true) x
    let e' ← cE T N n sc e
    let _ ← gd (match e with | .ListComp _ _ scope p => (py.line == p.line) && decide (sc.names.lookup x = some .local) && !(scope.names.any fun y => y.1 == x && (y.2 == .local || y.2 == .cell)) | _ => true)
    return .set i e'
  | n + 1, sc, .Assign [.Tuple ts k p] e pos => do
    let ts' ← cG N n sc (fun _ => true) (.Tuple ts k p)
    let _ ← gd (match e with | .Tuple .. => false | .ListComp .. => false | _ => true)
    let e' ← cE T N n sc e
    return .asg ts' e'
  | n + 1, sc, .Assign [.Subscript o i p] e pos => do
    let _ ← gd (match i with | .Slice .. => false | _ => true)
    let _ ← gd (match e with | .ListComp .. => false | _ => true)
    let o' ← cE T N n sc o
    let i' ← cE T N n sc i
    let e' ← cE T N n sc e
    return .sub o' i' e'
  | n + 1, sc, .Raise (some (.Call (.Name f _) [e] [] pos)) none _ => do
    let _ ← gd (glB sc f && T.exc.contains f)
    let e' ← cE T N n sc e
    return .raise f e'
  | n + 1, sc, .Try b [.ExceptHandler (some (.Name x _)) (some nm) [.Return (some e) _] _] [] [] _ => do
    let i ← (match sc.names.lookup nm with | some .local => ixOf N nm | _ => none)
    let _ ← gd (glB sc x && okN nm && (T.sub.any fun y => decide (y.2.1 = x)))
    let h ← cH T sc nm n e
    let b' ← cSs n sc b
    return .tryx b' (subOf T x) i h
  | n + 1, sc, .Expr (.Constant (.str _) _ _) _ => some .pass
  | n + 1, sc, .Expr e pos => do
    let _ ← gd (match e with | .Call .. => true | _ => false)
    let e' ← cE T N n sc e
    return .exp e'
  | n + 1, sc, .Return (some e) _ => (cE T N n sc e).map S.ret
  | n + 1, sc, .Return none _ => some .retN
  | n + 1, sc, .Pass _ => some .pass
  | n + 1, sc, .Break _ => some .brk
  | n + 1, sc, .Continue _ => some .cont
  | n + 1, sc, .If t a b _ => do
    let t' ← cE T N n sc t
    let a' ← cSs n sc a
    let b' ← cSs n sc b
    return .ite t' a' b'
  | n + 1, sc, .While t b [] _ => do
    let t' ← cE T N n sc t
    let b' ← cSs n sc b
    return .whl t' b'
  | n + 1, sc, .For tg it b [] _ => do
    let _ ← gd (match it with | .Set .. => false | _ => true)
    let tg' ← cG N n sc (fun _ => true) tg
    let it' ← cI T N n sc it
    let b' ← cSs n sc b
    return .for tg' it' b'
  | _ + 1, _, _ => none
def cSs : Nat → Scope → List PySem.Stmt → Option Ss
  | 0, _, _ => none
  | _ + 1, _, [] => some .nil
  | n + 1, sc, s :: ss => do
    let s' ← cS n sc s
    let ss' ← cSs n sc ss
    return .cons s' ss'
end
end
end Mi
namespace Mi
open PySem PySem.Spec PyProof.Rows L2
theorem PE.imp {X : Cx} {e : PySem.Expr} {t t' : TE} (h : PE X e t) (i : ∀ σ H Q, t' σ H Q → t σ H Q) : PE X e t' := ⟨fun pins s σ H Q I q => h.run pins s σ H Q I (i σ H Q q)⟩
theorem PT.imp {X : Cx} {e : PySem.Expr} {t t' : TT} (h : PT X e t) (i : ∀ σ H Q, t' σ H Q → t σ H Q) : PT X e t' := ⟨fun pins s σ H Q I q => h.run pins s σ H Q I (i σ H Q q)⟩
theorem PA.imp {X : Cx} {e : List PySem.Expr} {t t' : TA} (h : PA X e t) (i : ∀ σ H Q, t' σ H Q → t σ H Q) : PA X e t' := ⟨fun pos pins s σ H Q I q => h.run pos pins s σ H Q I (i σ H Q q)⟩
theorem PS.imp {X : Cx} {e : PySem.Stmt} {t t' : TS} (h : PS X e t) (i : ∀ D σ H, t' D σ H → t D σ H) : PS X e t' := ⟨fun pins s σ H D I q => h.run pins s σ H D I (i D σ H q)⟩
theorem PSs.imp {X : Cx} {e : List PySem.Stmt} {t t' : TS} (h : PSs X e t) (i : ∀ D σ H, t' D σ H → t D σ H) : PSs X e t' := ⟨fun pins s σ H D I q => h.run pins s σ H D I (i D σ H q)⟩
theorem opR_imp {X : Cx} {f : Value → Value → Sem Value} {t t' : R2} (h : OpR X f t) (i : ∀ x y H Q, t' x y H Q → t x y H Q) : OpR X f t' := fun pins s σ H x y v u Q I rx ry q => h pins s σ H x y v u Q I rx ry (i x y H Q q)
def KV (K : PySem.W.Frag) (F H : Hp) (Qd : KD) (Q : VK) : Prop := ∀ d S' v H', Qd d S' → Ext H H' → Rel K S' F H' → RD K H' d v → Q v H'
theorem KV.ext {K : PySem.W.Frag} {F H H1 : Hp} {Qd : KD} {Q : VK} (h : KV K F H Qd Q) (e : Ext H H1) : KV K F H1 Qd Q := fun d S' v H' q e' r rd => h d S' v H' q (e.trans e') r rd
def LO (K : PySem.W.Frag) (w : D → D → Sto → KD → Prop) : R2 := fun x y H Q => ∃ d e S F Qd, Rel K S F H ∧ RD K H d x ∧ RD K H e y ∧ w d e S Qd ∧ KV K F H Qd Q
section
variable {K : PySem.W.Frag} {H : Hp} {v : V}
theorem RD.inti {i : Int} (h : RD K H (.int i) v) : v = .int i := by rw [RD] at h; exact h
theorem RD.bli {b : Bool} (h : RD K H (.bl b) v) : v = .bl b := by rw [RD] at h; exact h
theorem RD.noni (h : RD K H .non v) : v = .non := by rw [RD] at h; exact h
theorem RD.stri {s : Str} (h : RD K H (.str s) v) : v = .str s ∧ PyData.strOk s = true := by rw [RD] at h; exact h
theorem RD.refi {a : Addr} (h : RD K H (.ref a) v) : v = .ref a := by rw [RD] at h; exact h
theorem RD.tupk {l : List D} (h : RD K H (.tup l) v) : ∃ a vs, v = .ref a ∧ TupK K H a vs ∧ RDs K H l vs := by rw [RD] at h; exact h
theorem RD.tupi {l : List D} (h : RD K H (.tup l) v) : ∃ a vs, v = .ref a ∧ SqT K H a vs ∧ RDs K H l vs := let ⟨a, vs, e, h1, h2⟩ := h.tupk; ⟨a, vs, e, h1.sq, h2⟩
theorem RD.rli {l : List D} (h : RD K H (.rl l) v) : ∃ a vs, v = .ref a ∧ FixL K H a vs ∧ RDs K H l vs := by rw [RD] at h; exact h
theorem RD.int {i : Int} : RD K H (.int i) (.int i) := by rw [RD]
theorem RD.bl {b : Bool} : RD K H (.bl b) (.bl b) := by rw [RD]
theorem RD.non : RD K H .non .non := by rw [RD]
theorem RD.str {s : Str} (h : PyData.strOk s = true) : RD K H (.str s) (.str s) := by rw [RD]; exact ⟨rfl, h⟩
theorem RD.ref {a : Addr} : RD K H (.ref a) (.ref a) := by rw [RD]
theorem RD.tup {l : List D} {a : Addr} {vs : List V} (h : TupK K H a vs) (r : RDs K H l vs) : RD K H (.tup l) (.ref a) := by rw [RD]; exact ⟨a, vs, rfl, h, r⟩
theorem RD.tupNew {l : List D} {p : Addr} {o : Obj} {vs : List V} (e : H p = none) (ho : o.dict = none) (r : RDs K H l vs) : RD K (L2.upd H p (.frz o (.tup vs))) (.tup l) (.ref p) := .tup (.inl ⟨o, upd_same, ho⟩) (r.ext (.new e))
end
theorem strOk_append {a b : Str} (ha : PyData.strOk a = true) (hb : PyData.strOk b = true) : PyData.strOk (a ++ b) = true := by
  unfold PyData.strOk at ha hb ⊢
  show ((Str.append a b).cps.all fun x => decide (x < 0x110000)) = true
  unfold Str.append
  simp only [Array.all_append, ha, hb, Bool.and_self]
theorem Rel.lst {K : PySem.W.Frag} {S : Sto} {F H : Hp} {a : Addr} {l : List D} (r : Rel K S F H) (h : S a = some (.lst l)) : ∃ vs, H a = some (.lst vs) ∧ RDs K H l vs := r.cell a _ h
theorem Rel.rls {K : PySem.W.Frag} {S : Sto} {F H : Hp} {a : Addr} {l : List D} (r : Rel K S F H) (h : S a = some (.rls l)) : ∃ o vs, H a = some (.frz o (.lst vs)) ∧ RDs K H l vs := r.cell a _ h
theorem Rel.dct {K : PySem.W.Frag} {S : Sto} {F H : Hp} {a : Addr} {kvs : List (D × D)} (r : Rel K S F H) (h : S a = some (.dct kvs)) : ∃ ws, H a = some (.dK ws) ∧ RK K H kvs ws := r.cell a _ h
theorem Rel.newLst {K : PySem.W.Frag} {S : Sto} {F H : Hp} {l : List D} {vs : List V} {p : Addr} (r : Rel K S F H) (e : H p = none) (h : RDs K H l vs) : Rel K (S.upd p (.lst l)) F (L2.upd H p (.lst vs)) :=
  r.new e ⟨vs, upd_same, h.ext (.new e)⟩
theorem Rel.setLst {K : PySem.W.Frag} {S : Sto} {F H : Hp} {l m : List D} {vs ws : List V} {p : Addr} (r : Rel K S F H) (h : S p = some (.lst l)) (hH : H p = some (.lst vs)) (hm : RDs K H m ws) :
    Ext H (L2.upd H p (.lst ws)) ∧ Rel K (S.upd p (.lst m)) F (L2.upd H p (.lst ws)) := by
  have x : Ext H (L2.upd H p (.lst ws)) := .write hH (fun _ z => nomatch z) fun _ _ z => nomatch z
  exact ⟨x, r.write h x ⟨ws, upd_same, hm.ext x⟩⟩
theorem Inv.laidT {X : Cx} {pins : List (Addr × Obj)} {σ : L2.St} {H : Hp} {s : Shared} {xs : List V} {us : List Value} {h' : Heap} {t' : Nat} (I : L2.Inv X pins σ H s) (k : ∀ b u, s.heap.get? b = some u → h'.get? b = some u) {p : Addr} (hp : s.heap.objs.size ≤ p)
    (e : h'.get? p = some { cls := .type "tuple", data := .seq us.toArray }) (r : Vals xs us) (z : xs.length ≤ sizeLine) :
    L2.Inv X pins σ (L2.upd H p (.frz { cls := .type "tuple", data := .seq us.toArray } (.tup xs))) { s with heap := h', toks := t' } :=
  I.laid k hp (show ObjOk X.prog X.w _ _ _ (.frz _ (.tup xs)) from ⟨e, z, us, r, ⟨_, e, rfl, _, rfl⟩⟩)
section
variable {X : Cx} {es : List PySem.Expr} {t : TA} {pos : Pos}
def NewT (xs : List V) (H : Hp) (Q : VK) : Prop := ∀ p o, H p = none → Obj.dict o = none → Q (.ref p) (L2.upd H p (.frz o (.tup xs)))
def tTupF (t : TA) : TE := fun σ H Q => t σ H fun xs H1 => xs.length ≤ sizeLine ∧ NewT xs H1 Q
theorem pe_tupF {x1} (h : PA X es t) : PE X (.Tuple es x1 pos) (tTupF t) := by
  refine ⟨fun pins s σ H Q I hq => ?_⟩
  refine wpAny_Tuple_spliced (thn (h.run pos pins s σ H _ I hq) fun us s1 ⟨xs, H1, I1, r, z, q⟩ => ⟨by rw [← r.length]; exact z, ?_⟩)
  exact ⟨.ref s1.heap.objs.size, _, Inv.laidT (t' := s1.toks) I1 (fun b u e => Heap.get?_push_of_some _ e) (Nat.le_refl _) (Heap.get?_push_size _ rfl) r z, rfl, q _ _ (I1.hok.fresh (Nat.le_refl _)) rfl⟩
def rCatF (K : PySem.W.Frag) : R2 := fun x y H Q => ∃ a b xs ys, x = .ref a ∧ y = .ref b ∧ SqT K H a xs ∧ SqT K H b ys ∧ xs.length + ys.length ≤ sizeLine ∧
  (xs = [] → Q (.ref b) H) ∧ (xs ≠ [] → ys = [] → Q (.ref a) H) ∧ NewT (xs ++ ys) H Q
theorem op_catF : OpR X (binaryOp .Add) (rCatF X.K) := by
  intro pins s σ H x y v u Q I rx ry h
  obtain ⟨a, b, xs, ys, rfl, rfl, ha, hb, hz, q0, q1, q2⟩ := h
  cases rx
  cases ry
  obtain ⟨its, r1, p1, _⟩ := I.tuple ha
  obtain ⟨its2, r2, p2, _⟩ := I.tuple hb
  by_cases hx : xs = []
  · subst hx
    cases r1
    exact cat_tup0 p1 p2 ⟨.ref b, H, I, rfl, q0 rfl⟩
  · refine HT.cat_tup p1 p2 (fun z => hx (r1.nil_iff.mp z)) (fun z => ⟨.ref a, H, I, rfl, q1 hx (r2.nil_iff.mp z)⟩) (fun z => ?_) (by rw [← r1.length, ← r2.length]; exact hz)
    exact ⟨.ref s.heap.objs.size, _, Inv.laidT (t' := s.toks) I (fun b ob q => Heap.get?_push_of_some _ q) (Nat.le_refl _) (Heap.get?_push_size _ rfl) (r1.append r2) (by rw [List.length_append]; exact hz), rfl, q2 _ _ (I.hok.fresh (Nat.le_refl _)) rfl⟩
def rSlF (K : PySem.W.Frag) : V → Option Int → Option Int → Hp → VK → Prop := fun x lo hi H Q => ∃ a xs, x = .ref a ∧ SqT K H a xs ∧
  (HT.sIx xs.length 0 lo = 0 ∧ HT.sIx xs.length xs.length hi = xs.length → Q (.ref a) H) ∧ NewT (cutV xs lo hi) H Q
theorem sl_tupF : SlR X (rSlF X.K) := by
  intro pins s σ H x v vl vu lo hi sl Q I rx hs pl pu h
  obtain ⟨a, xs, rfl, hx, q1, q2⟩ := h
  by_cases hw : HT.sIx xs.length 0 lo = 0 ∧ HT.sIx xs.length xs.length hi = xs.length
  · exact sl_tupA pins s σ H _ v vl vu lo hi sl Q I rx hs pl pu ⟨a, xs, rfl, hx, q1, fun z => absurd hw z⟩
  · cases rx
    obtain ⟨its, r, ht, hz⟩ := I.tuple hx
    have hlen : its.toArray.size = xs.length := by rw [List.size_toArray]; exact r.length.symm
    refine ⟨"tuple", _, PyProof.Rows.slot_tuple_getitem.lookup, ht.typeIs, ?_⟩
    refine HT.getItem_tuple_cut ht hs pl pu (by rw [hlen]; exact hw) ?_ (by rw [hlen]; exact hz)
    rw [hlen]
    exact ⟨.ref s.heap.objs.size, _, Inv.laidT (t' := s.toks) I (fun b ob q => Heap.get?_push_of_some _ q) (Nat.le_refl _) (Heap.get?_push_size _ rfl) ((r.drop (HT.sIx xs.length 0 lo)).take (HT.sIx xs.length xs.length hi - HT.sIx xs.length 0 lo)) (Nat.le_trans (cutV_length xs lo hi) hz), rfl, q2 _ _ (I.hok.fresh (Nat.le_refl _)) rfl⟩
theorem call_tupleF : CallR X (.type "tuple") (fun xs H Q => ∃ p ys, xs = [.ref p] ∧ SqL X.K H p ys ∧ NewT ys H Q) := by
  intro pins s σ H xs us Q I r h
  obtain ⟨p, ys, rfl, hq, q⟩ := h
  obtain ⟨u, rfl, rx⟩ := vals1 r
  cases rx
  obtain ⟨its, r', pl, hz⟩ := I.list hq
  have hlen := r'.length
  refine call_tuple_list pl.isList (fun h' kp => ?_) (by simp only [List.size_toArray] <;> omega)
  have I1 : L2.Inv X pins σ H { s with heap := h' } := I.kept (t' := s.toks) kp
  exact ⟨.ref h'.objs.size, _, Inv.laidT (t' := s.toks) I1 (fun b o e => Heap.get?_push_of_some _ e) (Nat.le_refl _) (Heap.get?_push_size _ rfl) r' hz, rfl, q _ _ (I1.hok.fresh (Nat.le_refl _)) rfl⟩
end
variable {X : Cx}
def opO : Op → Operator
  | .add => .Add | .sub => .Sub | .mul => .Mult | .fdiv => .FloorDiv | .mod => .Mod | .pow => .Pow
theorem opOf_opO {o : Operator} {p : Op} (h : opOf o = some p) : o = opO p := by
  cases o <;> simp only [opOf, Option.some.injEq, reduceCtorEq] at h <;> subst h <;> rfl
theorem intint {C : Int → Int → Prop} {f : Value → Value → Sem Value} {g : Int → Int → V} {w : D → D → Sto → KD → Prop} (h : OpR X f (rI C g))
    (hw : ∀ d e S Q, w d e S Q → ∃ i j r, d = .int i ∧ e = .int j ∧ C i j ∧ Q r S ∧ ∀ H, RD X.K H r (g i j)) : OpR X f (LO X.K w) := by
  refine opR_imp h fun x y H Q ⟨d, e, S, F, Qd, rel, rd, re, hq, kv⟩ => ?_
  obtain ⟨i, j, r, rfl, rfl, hc, q, hr⟩ := hw d e S Qd hq
  exact ⟨i, j, rd.inti, re.inti, hc, kv _ _ _ _ q .refl rel (hr H)⟩
theorem intint0 {f : Value → Value → Sem Value} {g : Int → Int → V} {w : D → D → Sto → KD → Prop} (h : OpR X f (rI0 g))
    (hw : ∀ d e S Q, w d e S Q → ∃ i j r, d = .int i ∧ e = .int j ∧ Q r S ∧ ∀ H, RD X.K H r (g i j)) : OpR X f (LO X.K w) := by
  refine opR_imp h fun x y H Q ⟨d, e, S, F, Qd, rel, rd, re, hq, kv⟩ => ?_
  obtain ⟨i, j, r, rfl, rfl, q, hr⟩ := hw d e S Qd hq
  exact ⟨i, j, rd.inti, re.inti, kv _ _ _ _ q .refl rel (hr H)⟩
theorem rdInt {K : PySem.W.Frag} {i : Int} : ∀ H, RD K H (.int i) (.int i) := fun _ => .int
theorem RDs.nil_of {K : PySem.W.Frag} {H : Hp} {l : List D} (h : RDs K H l []) : l = [] := List.eq_nil_of_length_eq_zero h.length.symm
theorem add_sound : OpR X (binaryOp .Add) (LO X.K (opR .add)) := by
  intro pins s σ H x y v u Q I rx ry ⟨d, e, S, F, Qd, rel, rd, re, hq, kv⟩
  cases d <;> cases e <;> simp only [opR] at hq
  case int.int i j => exact op_add pins s σ H x y v u Q I rx ry ⟨i, j, rd.inti, re.inti, kv _ _ _ _ hq .refl rel .int⟩
  case str.str a b => exact op_add_str pins s σ H x y v u Q I rx ry ⟨a, b, rd.stri.1, re.stri.1, hq.1, kv _ _ _ _ hq.2 .refl rel (.str (strOk_append rd.stri.2 re.stri.2))⟩
  case tup.tup l m =>
    obtain ⟨a, vs, ea, ha, hl⟩ := rd.tupk
    obtain ⟨b, ws, eb, hb, hm⟩ := re.tupk
    refine op_catF pins s σ H x y v u Q I rx ry ⟨a, b, vs, ws, ea, eb, ha.sq, hb.sq, by rw [hl.length, hm.length]; exact hq.1, fun h0 => ?_, fun h0 h1 => ?_, fun p o hp ho => ?_⟩
    · subst h0
      obtain rfl := hl.nil_of
      exact kv _ _ _ _ hq.2 .refl rel (.tup hb hm)
    · subst h1
      obtain rfl := hm.nil_of
      rw [List.append_nil] at hq
      exact kv _ _ _ _ hq.2 .refl rel (.tup ha hl)
    · exact kv _ _ _ _ hq.2 (.new hp) (rel.tup hp) (.tupNew hp ho (hl.append hm))
  case ref.ref a b =>
    split at hq
    case h_1 l m h1 h2 =>
      obtain ⟨vs, e1, r1⟩ := rel.lst h1
      obtain ⟨ws, e2, r2⟩ := rel.lst h2
      refine op_cat pins s σ H x y v u Q I rx ry ⟨a, b, vs, ws, rd.refi, re.refi, e1, e2, by rw [r1.length, r2.length]; exact hq.1, fun p hp => ?_⟩
      exact kv _ _ _ _ (hq.2 p (rel.free hp)) (.new hp) (rel.newLst hp (r1.append r2)) .ref
    case h_2 => exact hq.elim
theorem sub_sound : OpR X (binaryOp .Sub) (LO X.K (opR .sub)) := intint0 op_sub fun d e S Q h => by
  cases d <;> cases e <;> simp only [opR] at h
  exact ⟨_, _, _, rfl, rfl, h, rdInt⟩
theorem fdiv_sound : OpR X (binaryOp .FloorDiv) (LO X.K (opR .fdiv)) := intint op_fdivW fun d e S Q h => by
  cases d <;> cases e <;> simp only [opR] at h
  exact ⟨_, _, _, rfl, rfl, h.1, h.2, rdInt⟩
theorem mod_sound : OpR X (binaryOp .Mod) (LO X.K (opR .mod)) := intint op_mod fun d e S Q h => by
  cases d <;> cases e <;> simp only [opR] at h
  exact ⟨_, _, _, rfl, rfl, h.1, h.2, rdInt⟩
theorem pow_sound : OpR X (binaryOp .Pow) (LO X.K (opR .pow)) := intint op_pow fun d e S Q h => by
  cases d <;> cases e <;> simp only [opR] at h
  exact ⟨_, _, _, rfl, rfl, h.1, h.2, rdInt⟩
theorem mul_sound : OpR X (binaryOp .Mult) (LO X.K (opR .mul)) := intint op_mulW fun d e S Q h => by
  cases d <;> cases e <;> simp only [opR] at h
  exact ⟨_, _, _, rfl, rfl, h.1, h.2, rdInt⟩
theorem op_sound : ∀ o : Op, OpR X (binaryOp (opO o)) (LO X.K (opR o))
  | .add => add_sound | .sub => sub_sound | .mul => mul_sound | .fdiv => fdiv_sound | .mod => mod_sound | .pow => pow_sound
theorem inplace_eq {o : Op} : True := trivial
end Mi
namespace Mi
open PySem PySem.Spec PyProof.Rows L2
variable {X : Cx}
mutual
theorem RD.dp {K : PySem.W.Frag} {H : Hp} : ∀ (d : D) (v : V), D.pure d = true → RD K H d v → Dp K H v (D.py d) ∧ (D.py d).canLay0 = true
  | .non, v, _, h => by rw [h.noni]; exact ⟨.non, rfl⟩
  | .bl b, v, _, h => by rw [h.bli]; exact ⟨.bl b, rfl⟩
  | .int i, v, _, h => by rw [h.inti]; exact ⟨.int i, rfl⟩
  | .str s, v, _, h => by
    obtain ⟨e, ok⟩ := h.stri
    rw [e]; exact ⟨.str s, ok⟩
  | .ref a, v, p, _ => by simp [D.pure] at p
  | .tup l, v, p, h => by
    obtain ⟨a, vs, e, hs, hl⟩ := h.tupi
    rw [D.pure] at p
    have q := RDs.dp l vs p hl
    rw [e]
    exact ⟨.tup hs q.1, q.2⟩
theorem RDs.dp {K : PySem.W.Frag} {H : Hp} : ∀ (l : List D) (vs : List V), D.pures l = true → RDs K H l vs → DpAll K H vs (D.pys l) ∧ PyData.canLayAll0 (D.pys l) = true
  | [], vs, _, h => by rw [RDs] at h; rw [h]; exact ⟨.nil, rfl⟩
  | d :: l, vs, p, h => by
    rw [RDs] at h
    obtain ⟨v, r, e, h1, h2⟩ := h
    rw [D.pures, Bool.and_eq_true] at p
    have q1 := RD.dp d v p.1 h1
    have q2 := RDs.dp l r p.2 h2
    rw [e]
    refine ⟨.cons q1.1 q2.1, ?_⟩
    show (PyData.canLay0 _ && PyData.canLayAll0 _) = true
    rw [q1.2, q2.2]; rfl
end
def asL : Bool → PyData → PyData
  | true, .tuple l => .list l
  | _, p => p
def LB (K : PySem.W.Frag) (w : D → D → Sto → (Bool → Prop) → Prop) : R2 := fun x y H Q => ∃ d e S F Qb, Rel K S F H ∧ RD K H d x ∧ RD K H e y ∧ w d e S Qb ∧ ∀ b, Qb b → Q (.bl b) H
theorem plain_dp {K : PySem.W.Frag} {S : Sto} {F H : Hp} {d x : D} {v : V} {b : Bool} (rel : Rel K S F H) (rd : RD K H d v) (h : plainR S d = some (b, x)) :
    ∃ p : PyData, Dp K H v p ∧ p.canLay0 = true ∧ D.pure x = true ∧ p = asL b (D.py x) ∧ (b = true → ∃ l, x = .tup l) := by
  cases d with
  | ref a =>
    have e := rd.refi
    unfold plainR at h
    simp only at h
    split at h
    case h_1 l hl =>
      split at h
      case isTrue hp =>
        cases h
        obtain ⟨vs, h1, h2⟩ := rel.lst hl
        have q := RDs.dp l vs hp h2
        rw [e]
        exact ⟨.list (D.pys l), .lst (.inl (.inl h1)) q.1, q.2, hp, rfl, fun _ => ⟨l, rfl⟩⟩
      case isFalse => cases h
    case h_2 l hl =>
      split at h
      case isTrue hp =>
        cases h
        obtain ⟨o, vs, h1, h2⟩ := rel.rls hl
        have q := RDs.dp l vs hp h2
        rw [e]
        exact ⟨.list (D.pys l), .lst (.inl (.inr ⟨o, h1⟩)) q.1, q.2, hp, rfl, fun _ => ⟨l, rfl⟩⟩
      case isFalse => cases h
    case h_3 => cases h
  | _ =>
    unfold plainR at h
    simp only at h
    split at h
    case isTrue hp =>
      cases h
      have q := RD.dp _ v hp rd
      exact ⟨_, q.1, q.2, hp, rfl, fun z => nomatch z⟩
    case isFalse => cases h
theorem depth_list (l : List PyData) : (PyData.list l).depth = (PyData.tuple l).depth := by simp [PyData.depth]
theorem eqv_kinds {b c : Bool} {x y : D} {p q : PyData} (hx : D.pure x = true) (hy : D.pure y = true) (ep : p = asL b (D.py x)) (eq : q = asL c (D.py y))
    (lb : b = true → ∃ l, x = .tup l) (lc : c = true → ∃ l, y = .tup l) : PyData.eqv p q = (b == c && D.eqv x y) ∧ p.depth = x.dep ∧ q.depth = y.dep := by
  have dx := D.dep_py x
  have dy := D.dep_py y
  have e := D.eqv_py x y hx hy
  cases b <;> cases c
  · subst ep eq
    simp only [asL]
    exact ⟨by rw [e]; simp, dx, dy⟩
  · obtain ⟨m, rfl⟩ := lc rfl
    subst ep eq
    simp only [D.py, asL] at dx dy e ⊢
    refine ⟨?_, dx, by rw [depth_list]; exact dy⟩
    cases x <;> simp [D.pure] at hx <;> simp [D.py, PyData.eqv]
  · obtain ⟨m, rfl⟩ := lb rfl
    subst ep eq
    simp only [D.py, asL] at dx dy e ⊢
    refine ⟨?_, by rw [depth_list]; exact dx, dy⟩
    cases y <;> simp [D.pure] at hy <;> simp [D.py, PyData.eqv]
  · obtain ⟨l, rfl⟩ := lb rfl
    obtain ⟨m, rfl⟩ := lc rfl
    subst ep eq
    simp only [D.py, asL] at dx dy e ⊢
    refine ⟨?_, by rw [depth_list]; exact dx, by rw [depth_list]; exact dy⟩
    simp only [PyData.eqv] at e ⊢
    rw [e]; simp
theorem eq_sound (hu : X.A.units + 64 < cLine) : OpR X (compareOp .Eq) (LB X.K eqR) := by
  intro pins s σ H x y v u Q I rx ry ⟨d, e, S, F, Qb, rel, rd, re, hq, kv⟩
  unfold eqR at hq
  split at hq
  case h_1 b x' c y' h1 h2 =>
    obtain ⟨p, dp, cp, px, ep, lp⟩ := plain_dp rel rd h1
    obtain ⟨q, dq, cq, py', eq', lq⟩ := plain_dp rel re h2
    obtain ⟨e1, e2, e3⟩ := eqv_kinds px py' ep eq' lp lq
    obtain ⟨as, r1⟩ := Dp.reads I p x v dp rx
    obtain ⟨bs, r2⟩ := Dp.reads I q y u dq ry
    refine SeqAt.compareEq_reads r1 r2 cp cq (by rw [e2, e3]; have := hq.1; omega) ⟨.bl _, H, I, rfl, ?_⟩
    rw [e1]; exact kv _ hq.2
  case h_2 => exact hq.elim
theorem ne_sound (hu : X.A.units + 64 < cLine) : OpR X (compareOp .NotEq) (LB X.K fun x y S Q => eqR x y S fun b => Q (!b)) := by
  intro pins s σ H x y v u Q I rx ry ⟨d, e, S, F, Qb, rel, rd, re, hq, kv⟩
  have hq : eqR d e S fun b => Qb (!b) := hq
  unfold eqR at hq
  split at hq
  case h_1 b x' c y' h1 h2 =>
    obtain ⟨p, dp, cp, px, ep, lp⟩ := plain_dp rel rd h1
    obtain ⟨q, dq, cq, py', eq', lq⟩ := plain_dp rel re h2
    obtain ⟨e1, e2, e3⟩ := eqv_kinds px py' ep eq' lp lq
    obtain ⟨as, r1⟩ := Dp.reads I p x v dp rx
    obtain ⟨bs, r2⟩ := Dp.reads I q y u dq ry
    refine SeqAt.compareNe_reads r1 r2 cp cq (by rw [e2, e3]; have := hq.1; omega) ⟨.bl _, H, I, rfl, ?_⟩
    rw [e1]; exact kv _ hq.2
  case h_2 => exact hq.elim
end Mi
namespace Mi
open PySem PySem.Spec PyProof.Rows L2
variable {X : Cx}
theorem intcmp {op : CmpOp} {g : Int → Int → Bool} {w : D → D → Sto → (Bool → Prop) → Prop} (h : OpR X (compareOp op) (rI0 fun i j => .bl (g i j)))
    (hw : ∀ d e S Q, w d e S Q → ∃ i j, d = .int i ∧ e = .int j ∧ Q (g i j)) : OpR X (compareOp op) (LB X.K w) := by
  refine opR_imp h fun x y H Q ⟨d, e, S, F, Qb, rel, rd, re, hq, kv⟩ => ?_
  obtain ⟨i, j, rfl, rfl, q⟩ := hw d e S Qb hq
  exact ⟨i, j, rd.inti, re.inti, kv _ q⟩
theorem is_bool_gen {v : V} {u : Value} {b : Bool} {E : Value → Shared → Prop} {s : Shared} {Q : Value → Shared → Prop} {M : Model} {A : Around} (r : RelV v u) (h : Q (.bool (decide (v = .bl b))) s) : wpAny M A (compareOp .Is u (.bool b)) Q E s := by
  cases v with
  | bl c =>
    cases r
    by_cases e : c = b
    · subst e; exact wpAny_is_self rfl (by simpa using h)
    · exact wpAny_is_other rfl (fun z => e (Value.bool.inj z)) (by simpa [e] using h)
  | non => cases r; exact wpAny_is_other rfl (fun z => nomatch z) (by simpa using h)
  | int i => obtain ⟨t, rfl⟩ := r; exact wpAny_is_other rfl (fun z => nomatch z) (by simpa using h)
  | str i => obtain ⟨t, rfl⟩ := r; exact wpAny_is_other rfl (fun z => nomatch z) (by simpa using h)
  | byt i => obtain ⟨t, rfl⟩ := r; exact wpAny_is_other rfl (fun z => nomatch z) (by simpa using h)
  | flt i => obtain ⟨t, rfl⟩ := r; exact wpAny_is_other rfl (fun z => nomatch z) (by simpa using h)
  | ref a => cases r; exact wpAny_is_other rfl (fun z => nomatch z) (by simpa using h)
  | ty n => cases r; exact wpAny_is_other rfl (fun z => nomatch z) (by simpa using h)
end Mi
namespace Mi
open PySem PySem.Spec PyProof.Rows L2
variable {X : Cx}
section
variable {K : PySem.W.Frag} {H : Hp}
theorem flat_of {d : D} {v : V} (h : flatD d = true) (r : RD K H d v) : flatV v = true := by
  cases d with
  | non => rw [r.noni]; rfl
  | bl b => rw [r.bli]; rfl
  | int i => rw [r.inti]; rfl
  | str s => rw [r.stri.1]; rfl
  | tup l => simp [flatD] at h
  | ref a => simp [flatD] at h
  | rl l => simp [flatD] at h
theorem eqV_of {d e : D} {v w : V} (hd : flatD d = true) (he : flatD e = true) (r : RD K H d v) (q : RD K H e w) : eqV v w = D.eqv d e := by
  cases d <;> simp only [flatD, Bool.false_eq_true] at hd <;> cases e <;> simp only [flatD, Bool.false_eq_true] at he <;>
    (first | rw [r.noni] | rw [r.bli] | rw [r.inti] | rw [r.stri.1]) <;> (first | rw [q.noni] | rw [q.bli] | rw [q.inti] | rw [q.stri.1]) <;> simp [eqV, D.eqv]
theorem all_flat : ∀ {l : List D} {vs : List V}, l.all flatD = true → RDs K H l vs → vs.all flatV = true
  | [], vs, _, h => by rw [RDs] at h; rw [h]; rfl
  | d :: l, vs, p, h => by
    rw [RDs] at h
    obtain ⟨v, r, e, h1, h2⟩ := h
    rw [List.all_cons, Bool.and_eq_true] at p
    rw [e, List.all_cons, flat_of p.1 h1, all_flat p.2 h2]; rfl
theorem inV_of {x : D} {xv : V} (hx : flatD x = true) (rx : RD K H x xv) : ∀ {l : List D} {vs : List V}, l.all flatD = true → RDs K H l vs → inV xv vs = inD x l
  | [], vs, _, h => by rw [RDs] at h; rw [h]; rfl
  | d :: l, vs, p, h => by
    rw [RDs] at h
    obtain ⟨v, r, e, h1, h2⟩ := h
    rw [List.all_cons, Bool.and_eq_true] at p
    rw [e]
    show (eqV v xv || inV xv r) = (D.eqv d x || inD x l)
    rw [eqV_of p.1 hx h1 rx, inV_of hx rx p.2 h2]
theorem keyD_kV {d : D} {k : Key} {v : V} (h : keyD d = some k) (r : RD K H d v) : v = kV k := by
  cases d with
  | int i => simp only [keyD, Option.some.injEq] at h; subst h; exact r.inti
  | str s => simp only [keyD, Option.some.injEq] at h; subst h; exact r.stri.1
  | _ => simp [keyD] at h
theorem keyD_inj {d e : D} {k : Key} (h : keyD d = some k) (g : keyD e = some k) : d = e := by
  cases d <;> simp only [keyD, Option.some.injEq, reduceCtorEq] at h <;> cases e <;> simp only [keyD, Option.some.injEq, reduceCtorEq] at g <;> subst h <;> cases g <;> rfl
theorem keyD_eq {d e : D} {k j : Key} (h : keyD d = some k) (g : keyD e = some j) : (k = j) ↔ (d = e) :=
  ⟨fun z => by subst z; exact keyD_inj h g, fun z => by subst z; rw [h] at g; exact Option.some.inj g⟩
theorem RK.get {k : D} {k' : Key} (hk : keyD k = some k') : ∀ {kvs : List (D × D)} {ws : List (Key × V)}, RK K H kvs ws →
    (∀ d, dget kvs k = some d → ∃ v, valV ws k' = some v ∧ RD K H d v) ∧ (dget kvs k = none → valV ws k' = none)
  | [], ws, h => by
    rw [RK] at h; subst h
    exact ⟨fun d e => by simp [dget] at e, fun _ => rfl⟩
  | (j, d) :: l, ws, h => by
    rw [RK] at h
    obtain ⟨j', v, r, e, hj, h1, h2⟩ := h
    subst e
    have ih := RK.get hk h2
    by_cases hjk : j = k
    · have e' : j' = k' := (keyD_eq hj hk).mpr hjk
      have e1 : dget ((j, d) :: l) k = some d := by simp [dget, hjk]
      have e2 : valV ((j', v) :: r) k' = some v := valV_pos e'
      rw [e1, e2]
      exact ⟨fun x z => by cases z; exact ⟨v, rfl, h1⟩, fun z => by cases z⟩
    · have e' : ¬ j' = k' := fun z => hjk ((keyD_eq hj hk).mp z)
      have e1 : dget ((j, d) :: l) k = dget l k := by simp [dget, List.find?_cons, hjk]
      have e2 : valV ((j', v) :: r) k' = valV r k' := valV_neg e'
      rw [e1, e2]
      exact ih
theorem RK.isSome {k : D} {k' : Key} (hk : keyD k = some k') {kvs : List (D × D)} {ws : List (Key × V)} (h : RK K H kvs ws) : (valV ws k').isSome = (dget kvs k).isSome := by
  have q := RK.get hk h
  cases e : dget kvs k with
  | none => rw [q.2 e]; rfl
  | some d => obtain ⟨v, e', _⟩ := q.1 d e; rw [e']; rfl
theorem RK.length : ∀ {kvs : List (D × D)} {ws : List (Key × V)}, RK K H kvs ws → ws.length = kvs.length
  | [], ws, h => by rw [RK] at h; rw [h]; rfl
  | (j, d) :: l, ws, h => by
    rw [RK] at h
    obtain ⟨j', v, r, e, hj, h1, h2⟩ := h
    rw [e, List.length_cons, List.length_cons, RK.length h2]
theorem RK.any {k : D} {k' : Key} (hk : keyD k = some k') : ∀ {kvs : List (D × D)} {ws : List (Key × V)}, RK K H kvs ws → (ws.any fun kv => decide (kv.1 = k')) = (kvs.any fun kv => decide (kv.1 = k))
  | [], ws, h => by rw [RK] at h; rw [h]; rfl
  | (j, d) :: l, ws, h => by
    rw [RK] at h
    obtain ⟨j', v, r, e, hj, h1, h2⟩ := h
    subst e
    rw [List.any_cons, List.any_cons, RK.any hk h2]
    congr 1
    exact decide_eq_decide.mpr (keyD_eq hj hk)
theorem RK.map {k d : D} {k' : Key} {v : V} (hk : keyD k = some k') (hd : RD K H d v) : ∀ {kvs : List (D × D)} {ws : List (Key × V)}, RK K H kvs ws →
    RK K H (kvs.map fun kv => if kv.1 = k then (kv.1, d) else kv) (ws.map fun kv => if kv.1 = k' then (kv.1, v) else kv)
  | [], ws, h => by rw [RK] at h; subst h; rw [List.map_nil, List.map_nil, RK]
  | (j, x) :: l, ws, h => by
    rw [RK] at h
    obtain ⟨j', y, r, e, hj, h1, h2⟩ := h
    subst e
    have ih := RK.map hk hd h2
    rw [List.map_cons, List.map_cons]
    by_cases hjk : j = k
    · have e' : j' = k' := (keyD_eq hj hk).mpr hjk
      simp only [hjk, e', if_true]
      rw [RK]
      exact ⟨k', v, _, rfl, hk, hd, ih⟩
    · have e' : ¬ j' = k' := fun z => hjk ((keyD_eq hj hk).mp z)
      simp only [hjk, e', if_false]
      rw [RK]
      exact ⟨j', y, _, rfl, hj, h1, ih⟩
theorem RK.snoc {k d : D} {k' : Key} {v : V} (hk : keyD k = some k') (hd : RD K H d v) : ∀ {kvs : List (D × D)} {ws : List (Key × V)}, RK K H kvs ws → RK K H (kvs ++ [(k, d)]) (ws ++ [(k', v)])
  | [], ws, h => by
    rw [RK] at h; subst h
    show RK K H [(k, d)] [(k', v)]
    rw [RK]
    exact ⟨k', v, [], rfl, hk, hd, by rw [RK]⟩
  | (j, x) :: l, ws, h => by
    rw [RK] at h
    obtain ⟨j', y, r, e, hj, h1, h2⟩ := h
    subst e
    show RK K H ((j, x) :: (l ++ [(k, d)])) ((j', y) :: (r ++ [(k', v)]))
    rw [RK]
    exact ⟨j', y, _, rfl, hj, h1, RK.snoc hk hd h2⟩
theorem RK.put {k d : D} {k' : Key} {v : V} (hk : keyD k = some k') (hd : RD K H d v) {kvs : List (D × D)} {ws : List (Key × V)} (h : RK K H kvs ws) : RK K H (dput kvs k d) (putK ws k' v) := by
  unfold dput putK
  rw [RK.any hk h]
  split
  · exact RK.map hk hd h
  · exact RK.snoc hk hd h
theorem Rel.setDct {S : Sto} {F : Hp} {l m : List (D × D)} {vs ws : List (Key × V)} {p : Addr} (r : Rel K S F H) (h : S p = some (.dct l)) (hH : H p = some (.dK vs)) (hm : RK K H m ws) :
    Ext H (L2.upd H p (.dK ws)) ∧ Rel K (S.upd p (.dct m)) F (L2.upd H p (.dK ws)) := by
  have x : Ext H (L2.upd H p (.dK ws)) := .write hH (fun _ z => nomatch z) fun _ _ z => nomatch z
  exact ⟨x, r.write h x ⟨ws, upd_same, hm.ext x⟩⟩
end
theorem in_gen (hu : X.A.units + 1 < cLine) (neg : Bool) {op : CmpOp} (hop : op = (if neg then .NotIn else .In)) : OpR X (compareOp op) (LB X.K fun x y S Q => inR x y S fun b => Q (if neg then !b else b)) := by
  intro pins s σ H x y v u Q I rx ry ⟨d, e, S, F, Qb, rel, rd, re, hq, kv⟩
  have hq : inR d e S fun b => Qb (if neg then !b else b) := hq
  cases e with
  | tup l =>
    obtain ⟨f1, f2, q⟩ := hq
    obtain ⟨a, vs, ea, ha, hl⟩ := re.tupi
    have g := kv _ q
    rw [← inV_of f1 rd f2 hl] at g
    cases neg with
    | false => subst hop; exact op_in_seq pins s σ H x y v u Q I rx ry ⟨a, vs, ea, .inr ha, flat_of f1 rd, all_flat f2 hl, g⟩
    | true => subst hop; exact op_notIn_seq pins s σ H x y v u Q I rx ry ⟨a, vs, ea, .inr ha, flat_of f1 rd, all_flat f2 hl, g⟩
  | str t =>
    cases d with
    | str z =>
      have g := kv _ hq
      cases neg with
      | false => subst hop; exact op_in_str pins s σ H x y v u Q I rx ry ⟨z, t, rd.stri.1, re.stri.1, g⟩
      | true => subst hop; exact op_notIn_str pins s σ H x y v u Q I rx ry ⟨z, t, rd.stri.1, re.stri.1, g⟩
    | _ => exact (show False from hq).elim
  | ref a =>
    unfold inR at hq
    simp only at hq
    split at hq
    case h_1 l hl =>
      obtain ⟨f1, f2, q⟩ := hq
      obtain ⟨vs, h1, h2⟩ := rel.lst hl
      have g := kv _ q
      rw [← inV_of f1 rd f2 h2] at g
      cases neg with
      | false => subst hop; exact op_in_seq pins s σ H x y v u Q I rx ry ⟨a, vs, re.refi, .inl (.of h1), flat_of f1 rd, all_flat f2 h2, g⟩
      | true => subst hop; exact op_notIn_seq pins s σ H x y v u Q I rx ry ⟨a, vs, re.refi, .inl (.of h1), flat_of f1 rd, all_flat f2 h2, g⟩
    case h_2 kvs hl =>
      obtain ⟨f1, q⟩ := hq
      obtain ⟨ws, h1, h2⟩ := rel.dct hl
      obtain ⟨k', hk⟩ := Option.isSome_iff_exists.mp (show (keyD d).isSome = true from f1)
      have g := kv _ q
      rw [← RK.isSome hk h2] at g
      have ey := re.refi
      subst ey
      obtain rfl : u = Value.ref a := ry
      have ex := keyD_kV hk rd
      subst ex
      cases neg with
      | false => subst hop; exact d_in hu I (DGet.k h1) rx fun s' I' => ⟨.bl _, H, I', rfl, g⟩
      | true => subst hop; exact d_notIn hu I (DGet.k h1) rx fun s' I' => ⟨.bl _, H, I', rfl, g⟩
    case h_3 => exact hq.elim
  | _ => exact (show False from hq).elim
theorem is_gen (neg : Bool) {op : CmpOp} (hop : op = (if neg then .IsNot else .Is)) : OpR X (compareOp op) (LB X.K fun x y S Q => isR x y fun b => Q (if neg then !b else b)) := by
  intro pins s σ H x y v u Q I rx ry ⟨d, e, S, F, Qb, rel, rd, re, hq, kv⟩
  have hq : isR d e fun b => Qb (if neg then !b else b) := hq
  cases e with
  | bl b =>
    have ey := re.bli
    subst ey
    obtain rfl : u = Value.bool b := ry
    have g : Qb (if neg then !(decide (x = .bl b)) else decide (x = .bl b)) := by
      cases d <;> simp only [isR] at hq
      case bl c => rw [rd.bli]; simpa [Bool.beq_eq_decide_eq] using hq
      case non => rw [rd.noni]; simpa using hq
      case int i => rw [rd.inti]; simpa using hq
      case str i => rw [rd.stri.1]; simpa using hq
      case tup i => obtain ⟨a, vs, e, _⟩ := rd.tupi; rw [e]; simpa using hq
      case ref i => rw [rd.refi]; simpa using hq
      case rl i => obtain ⟨a, vs, e, _⟩ := rd.rli; rw [e]; simpa using hq
    cases neg with
    | false => subst hop; exact is_bool_gen rx ⟨.bl _, H, I, rfl, kv _ g⟩
    | true =>
      subst hop
      cases hx : decide (x = V.bl b) with
      | true =>
        rw [hx] at g
        have e := of_decide_eq_true hx
        subst e
        obtain rfl : v = Value.bool b := rx
        exact wpAny_isNot_self rfl ⟨.bl _, H, I, rfl, kv _ g⟩
      | false =>
        rw [hx] at g
        have e := of_decide_eq_false hx
        refine wpAny_isNot_other (by rcases x with _ | _ | _ | _ | _ | _ | _ | _ <;> first | (cases rx; rfl) | (obtain ⟨t, rfl⟩ := rx; rfl)) (fun z => ?_) ⟨.bl _, H, I, rfl, kv _ g⟩
        subst z
        exact e (rx.inj (show RelV (V.bl b) (Value.bool b) from rfl))
  | non =>
    have ey := re.noni
    subst ey
    have g : Qb (if neg then !(decide (x = .non)) else decide (x = .non)) := by
      cases d <;> simp only [isR] at hq
      case bl c => rw [rd.bli]; simpa using hq
      case non => rw [rd.noni]; simpa using hq
      case int i => rw [rd.inti]; simpa using hq
      case str i => rw [rd.stri.1]; simpa using hq
      case tup i => obtain ⟨a, vs, e, _⟩ := rd.tupi; rw [e]; simpa using hq
      case ref i => rw [rd.refi]; simpa using hq
      case rl i => obtain ⟨a, vs, e, _⟩ := rd.rli; rw [e]; simpa using hq
    cases neg with
    | false => subst hop; exact op_isN pins s σ H x _ v u Q I rx ry ⟨rfl, kv _ g⟩
    | true => subst hop; exact op_notN pins s σ H x _ v u Q I rx ry ⟨rfl, kv _ g⟩
  | _ => exact (show False from hq).elim
theorem cm_sound {k : Nat} (hr : Room k X.A) : ∀ o : CmpOp, OpR X (compareOp o) (LB X.K (cmR (cmOf o)))
  | .Eq => eq_sound hr.units
  | .NotEq => ne_sound hr.units
  | .Lt => intcmp op_lt fun d e S Q h => by
    cases d <;> cases e <;> simp only [cmR, cmOf] at h
    exact ⟨_, _, rfl, rfl, h⟩
  | .LtE => intcmp op_le fun d e S Q h => by
    cases d <;> cases e <;> simp only [cmR, cmOf] at h
    exact ⟨_, _, rfl, rfl, h⟩
  | .Gt => intcmp op_gt fun d e S Q h => by
    cases d <;> cases e <;> simp only [cmR, cmOf] at h
    exact ⟨_, _, rfl, rfl, h⟩
  | .GtE => intcmp op_ge fun d e S Q h => by
    cases d <;> cases e <;> simp only [cmR, cmOf] at h
    exact ⟨_, _, rfl, rfl, h⟩
  | .Is => opR_imp (is_gen false rfl) fun x y H Q h => h
  | .IsNot => opR_imp (is_gen true rfl) fun x y H Q h => h
  | .In => opR_imp (in_gen (hu_of hr) false rfl) fun x y H Q h => h
  | .NotIn => opR_imp (in_gen (hu_of hr) true rfl) fun x y H Q h => h
end Mi
namespace Mi
open PySem PySem.Spec PyProof.Rows L2
variable {X : Cx}
theorem RDs.atI {K : PySem.W.Frag} {H : Hp} {l : List D} {vs : List V} {i : Int} {d : D} (h : RDs K H l vs) (e : L2.atI l i = some d) : ∃ v, L2.atI vs i = some v ∧ RD K H d v := by
  unfold L2.atI at e ⊢
  rw [h.length]
  cases q : ixN l.length i with
  | none => rw [q] at e; cases e
  | some j =>
    rw [q] at e
    exact h.get e
theorem ix_dict {k : Nat} (hr : Room k X.A) : IxR X (fun x y H Q => ∃ a v, x = .ref a ∧ DGet H a y (some v) ∧ Q v H) := by
  intro value slice pins s σ H x y v u Q I rx ry h hs
  obtain ⟨a, w, rfl, g, q⟩ := h
  obtain rfl : v = Value.ref a := rx
  have hT := dict_typeIs I g
  unfold subscriptTail
  refine wpAny_bind ?_
  rw [getitemInPython_of_ne hT.not_modules]
  refine wpAny_bind (wpAny_specialOf hT PySem.F.slot_dict_getitem.lookup ?_)
  have fin : wpAny (model X.prog X.w) X.A (subscripted slice false (.ref a) u) (fun r s₃ => wpAny (model X.prog X.w) X.A (letTemporaryGo value (.ref a) r >>= fun _ => pure r) (EP X pins σ Q) X.xe s₃) X.xe s := by
    rw [hs]
    exact wpAny_operating (d_getItem (hu_of hr) I g ry fun w' s3 I3 rw' => wpAny_bind (wpAny_letTemporaryGo (wpAny_pure ⟨w, H, I3, rw', q⟩)))
  first
    | exact wpAny_pure (wpAny_bind fin)
    | exact wpAny_bind (wpAny_pure (wpAny_bind fin))
    | exact wpAny_bind fin
theorem strOk_at {s : Str} {i : Int} {c : Nat} (h : PyData.strOk s = true) (e : L2.atI s.cps.toList i = some c) : PyData.strOk ⟨#[c]⟩ = true := by
  unfold L2.atI at e
  cases q : ixN s.cps.toList.length i with
  | none => rw [q] at e; cases e
  | some j =>
    rw [q] at e
    have hm : c ∈ s.cps := by
      have : c ∈ s.cps.toList := List.mem_of_getElem? e
      exact Array.mem_toList_iff.mp this
    unfold PyData.strOk at h ⊢
    rw [Array.all_eq_true'] at h
    have := h c hm
    simpa using this
theorem ix_sound {k : Nat} (hr : Room k X.A) : IxR X (LO X.K ixR) := by
  intro value slice pins s σ H x y v u Q I rx ry ⟨d, e, S, F, Qd, rel, rd, re, hq, kv⟩ hs
  cases d with
  | tup l =>
    cases e with
    | int i =>
      simp only [ixR] at hq
      split at hq
      case h_1 w hw =>
        obtain ⟨a, vs, ea, ha, hl⟩ := rd.tupi
        obtain ⟨z, hz, rz⟩ := hl.atI hw
        exact ix_tup value slice pins s σ H x y v u Q I rx ry ⟨a, vs, i, z, ea, re.inti, ha, hz, kv _ _ _ _ hq .refl rel rz⟩ hs
      case h_2 => exact hq.elim
    | _ => exact (show False from hq).elim
  | str t =>
    cases e with
    | int i =>
      simp only [ixR] at hq
      obtain ⟨h1, hq⟩ := hq
      split at hq
      case h_1 w hw => exact ix_str value slice pins s σ H x y v u Q I rx ry ⟨t, i, w, rd.stri.1, re.inti, h1, hw, kv _ _ _ _ hq .refl rel (.str (strOk_at rd.stri.2 hw))⟩ hs
      case h_2 => exact hq.elim
    | _ => exact (show False from hq).elim
  | ref a =>
    simp only [ixR] at hq
    split at hq
    case h_1 l hl =>
      obtain ⟨vs, h1, h2⟩ := rel.lst hl
      split at hq
      case h_1 i =>
        split at hq
        case h_1 w hw =>
          obtain ⟨z, hz, rz⟩ := h2.atI hw
          exact ix_list value slice pins s σ H x y v u Q I rx ry ⟨a, vs, i, z, rd.refi, re.inti, .of h1, hz, kv _ _ _ _ hq .refl rel rz⟩ hs
        case h_2 => exact hq.elim
      case h_2 => exact hq.elim
    case h_2 l hl =>
      obtain ⟨o, vs, h1, h2⟩ := rel.rls hl
      split at hq
      case h_1 i =>
        split at hq
        case h_1 w hw =>
          obtain ⟨z, hz, rz⟩ := h2.atI hw
          exact ix_list value slice pins s σ H x y v u Q I rx ry ⟨a, vs, i, z, rd.refi, re.inti, .inl (.inr ⟨o, h1⟩), hz, kv _ _ _ _ hq .refl rel rz⟩ hs
        case h_2 => exact hq.elim
      case h_2 => exact hq.elim
    case h_3 kvs hl =>
      obtain ⟨f1, hq⟩ := hq
      split at hq
      case h_1 w hw =>
        obtain ⟨ws, h1, h2⟩ := rel.dct hl
        obtain ⟨k', hk⟩ := Option.isSome_iff_exists.mp (show (keyD e).isSome = true from f1)
        obtain ⟨z, hz, rz⟩ := (RK.get hk h2).1 w hw
        have ey := keyD_kV hk re
        subst ey
        have g : DGet H a (kV k') (some z) := by rw [← hz]; exact DGet.k h1
        exact ix_dict hr value slice pins s σ H x _ v u Q I rx ry ⟨a, z, rd.refi, g, kv _ _ _ _ hq .refl rel rz⟩ hs
      case h_2 => exact hq.elim
    case h_4 => exact hq.elim
  | _ => exact (show False from hq).elim
def LSl (K : PySem.W.Frag) : V → Option Int → Option Int → Hp → VK → Prop := fun x lo hi H Q => ∃ d S F Qd, Rel K S F H ∧ RD K H d x ∧ slcR d lo hi S Qd ∧ KV K F H Qd Q
theorem cut_RDs {K : PySem.W.Frag} {H : Hp} {l : List D} {vs : List V} (h : RDs K H l vs) (lo hi : Option Int) : RDs K H (cutD l lo hi) (cutV vs lo hi) := by
  unfold cutD cutV
  rw [h.length]
  exact (h.drop _).take _
theorem cut_all {l : List D} {lo hi : Option Int} (h : HT.sIx l.length 0 lo = 0 ∧ HT.sIx l.length l.length hi = l.length) : cutD l lo hi = l := by
  unfold cutD
  rw [h.1, h.2]
  simp
end Mi
namespace Mi
open PySem PySem.Spec PyProof.Rows L2
variable {X : Cx}
theorem strOk_sub {l : List Nat} {s : Str} (h : PyData.strOk s = true) (hs : ∀ c ∈ l, c ∈ s.cps.toList) : PyData.strOk ⟨l.toArray⟩ = true := by
  unfold PyData.strOk at h ⊢
  rw [Array.all_eq_true'] at h ⊢
  intro c hc
  exact h c (Array.mem_toList_iff.mp (hs c (by simpa using hc)))
theorem cutS_cutD (z : Str) (lo hi : Option Int) : cutS z lo hi = ⟨(cutD z.cps.toList lo hi).toArray⟩ := by
  unfold cutS cutD
  have e : z.cps.toList.length = z.length := by simp [Str.length]
  rw [e]
theorem sl_sound : SlR X (LSl X.K) := by
  intro pins s σ H x v vl vu lo hi sl Q I rx hs pl pu ⟨d, S, F, Qd, rel, rd, hq, kv⟩
  cases d with
  | tup l =>
    obtain ⟨a, vs, ea, ha, hl⟩ := rd.tupk
    simp only [slcR] at hq
    refine sl_tupF pins s σ H x v vl vu lo hi sl Q I rx hs pl pu ⟨a, vs, ea, ha.sq, fun h => ?_, fun p o hp ho => ?_⟩
    · rw [hl.length] at h
      rw [cut_all h] at hq
      exact kv _ _ _ _ hq .refl rel (.tup ha hl)
    · exact kv _ _ _ _ hq (.new hp) (rel.tup hp) (.tupNew hp ho (cut_RDs hl lo hi))
  | str z =>
    simp only [slcR] at hq
    rw [← cutS_cutD] at hq
    refine sl_str pins s σ H x v vl vu lo hi sl Q I rx hs pl pu ⟨z, rd.stri.1, hq.1, kv _ _ _ _ hq.2 .refl rel (.str ?_)⟩
    rw [cutS_cutD]
    exact strOk_sub rd.stri.2 fun c hc => List.mem_of_mem_drop (List.mem_of_mem_take hc)
  | ref a =>
    simp only [slcR] at hq
    split at hq
    case h_1 l hl =>
      obtain ⟨vs, h1, h2⟩ := rel.lst hl
      exact sl_list pins s σ H x v vl vu lo hi sl Q I rx hs pl pu ⟨a, vs, rd.refi, .of h1, fun p hp => kv _ _ _ _ (hq p (rel.free hp)) (.new hp) (rel.newLst hp (cut_RDs h2 lo hi)) .ref⟩
    case h_2 => exact hq.elim
  | _ => exact (show False from hq).elim
def LTr (K : PySem.W.Frag) : V → Hp → (Bool → Hp → Prop) → Prop := fun x H Q => ∃ d S F Qb, Rel K S F H ∧ RD K H d x ∧ truR d S Qb ∧ ∀ b, Qb b → Q b H
theorem isEmpty_RDs {K : PySem.W.Frag} {H : Hp} {l : List D} {vs : List V} (h : RDs K H l vs) : (!vs.isEmpty) = !l.isEmpty := by
  have := h.length
  cases l <;> cases vs <;> simp at this ⊢
theorem isEmpty_RK {K : PySem.W.Frag} {H : Hp} {l : List (D × D)} {vs : List (Key × V)} (h : RK K H l vs) : (!vs.isEmpty) = !l.isEmpty := by
  have := h.length
  cases l <;> cases vs <;> simp at this ⊢
theorem tru_conv {K : PySem.W.Frag} {x : V} {H : Hp} {Q : Bool → Hp → Prop} (h : LTr K x H Q) : ∃ k, TruV K x H k ∧ Q k H := by
  obtain ⟨d, S, F, Qb, rel, rd, hq, kv⟩ := h
  cases d with
  | non => rw [rd.noni]; exact ⟨_, rfl, kv _ hq⟩
  | bl b => rw [rd.bli]; exact ⟨_, rfl, kv _ hq⟩
  | int i => rw [rd.inti]; exact ⟨_, rfl, kv _ hq⟩
  | str s => rw [rd.stri.1]; exact ⟨_, ⟨hq.1, rfl⟩, kv _ hq.2⟩
  | tup l =>
    obtain ⟨a, vs, ea, ha, hl⟩ := rd.tupi
    rw [ea]
    exact ⟨_, .inr (.inl ⟨vs, ha, (isEmpty_RDs hl).symm⟩), kv _ hq⟩
  | rl l => exact (show False from hq).elim
  | ref a =>
    rw [rd.refi]
    simp only [truR] at hq
    split at hq
    case h_1 l hl =>
      obtain ⟨vs, h1, h2⟩ := rel.lst hl
      exact ⟨_, .inl ⟨vs, .of h1, (isEmpty_RDs h2).symm⟩, kv _ hq⟩
    case h_2 l hl =>
      obtain ⟨vs, h1, h2⟩ := rel.dct hl
      exact ⟨_, .inr (.inr ⟨vs, h1, (isEmpty_RK h2).symm⟩), kv _ hq⟩
    case h_3 => exact hq.elim
def LSet (K : PySem.W.Frag) : V → V → V → Hp → (Hp → Prop) → Prop := fun o i v H Q => ∃ x y z S F Qs, Rel K S F H ∧ RD K H x o ∧ RD K H y i ∧ RD K H z v ∧ setR x y z S Qs ∧ ∀ S' H', Qs S' → Ext H H' → Rel K S' F H' → Q H'
theorem ps_setD {k : Nat} (hr : Room k X.A) : PSet X (fun o i v H Q => ∃ a H', o = .ref a ∧ DPut H a i v H' ∧ Q H') := by
  intro pins s σ H o i v ov iv u Q I ro ri rv ⟨a, H', e, g, q⟩
  subst e
  obtain rfl : ov = Value.ref a := ro
  exact d_setItem (hu_of hr) I g ri rv fun s' I' => ⟨H', I', q⟩
theorem set_sound {k : Nat} (hr : Room k X.A) : PSet X (LSet X.K) := by
  intro pins s σ H o i v ov iv u Q I ro ri rv ⟨x, y, z, S, F, Qs, rel, rx, ry, rz, hq, kv⟩
  cases x with
  | ref a =>
    simp only [setR] at hq
    split at hq
    case h_1 l hl =>
      obtain ⟨vs, h1, h2⟩ := rel.lst hl
      split at hq
      case h_1 k =>
        split at hq
        case h_1 j hj =>
          obtain ⟨e1, e2⟩ := rel.setLst hl h1 (RDs.set rz j h2)
          exact set_list pins s σ H o i v ov iv u Q I ro ri rv ⟨a, vs, k, j, rx.refi, ry.inti, h1, by rw [h2.length]; exact hj, kv _ _ hq e1 e2⟩
        case h_2 => exact hq.elim
      case h_2 => exact hq.elim
    case h_2 kvs hl =>
      obtain ⟨f1, hz, hq⟩ := hq
      obtain ⟨ws, h1, h2⟩ := rel.dct hl
      obtain ⟨k', hk⟩ := Option.isSome_iff_exists.mp (show (keyD y).isSome = true from f1)
      have ey := keyD_kV hk ry
      subst ey
      obtain ⟨e1, e2⟩ := rel.setDct hl h1 (RK.put hk rz h2)
      exact ps_setD hr pins s σ H o _ v ov iv u Q I ro ri rv ⟨a, _, rx.refi, DPut.k h1 (by rw [h2.length]; exact hz), kv _ _ hq e1 e2⟩
    case h_3 => exact hq.elim
  | _ => exact (show False from hq).elim
def LM (K : PySem.W.Frag) (m : Mt) : V → List V → Hp → VK → Prop := fun x vs H Q => ∃ d ds S F Qd, Rel K S F H ∧ RD K H d x ∧ RDs K H ds vs ∧ mthR m d ds S Qd ∧ KV K F H Qd Q
theorem RDs.one {K : PySem.W.Frag} {H : Hp} {d : D} {vs : List V} (h : RDs K H [d] vs) : ∃ v, vs = [v] ∧ RD K H d v := by
  rw [RDs] at h
  obtain ⟨v, r, e, h1, h2⟩ := h
  rw [RDs] at h2
  exact ⟨v, by rw [e, h2], h1⟩
theorem RDs.two {K : PySem.W.Frag} {H : Hp} {d e : D} {vs : List V} (h : RDs K H [d, e] vs) : ∃ v w, vs = [v, w] ∧ RD K H d v ∧ RD K H e w := by
  rw [RDs] at h
  obtain ⟨v, r, e, h1, h2⟩ := h
  obtain ⟨w, e2, h3⟩ := h2.one
  exact ⟨v, w, by rw [e, e2], h1, h3⟩
theorem append_sound : MtR X "list.append" (LM X.K .append) := by
  intro pins s σ H x vs v us Q I rx rv ⟨d, ds, S, F, Qd, rel, rd, rds, hq, kv⟩
  match d, ds, hq with
  | .ref a, [e], hq =>
    simp only [mthR] at hq
    split at hq
    case h_1 l hl =>
      obtain ⟨ws, h1, h2⟩ := rel.lst hl
      obtain ⟨w, e1, r1⟩ := rds.one
      obtain ⟨x1, x2⟩ := rel.setLst hl h1 (h2.append (.cons r1 .nil))
      exact mt_append pins s σ H x vs v us Q I rx rv ⟨a, ws, w, rd.refi, e1, h1, by rw [h2.length]; exact hq.1, kv _ _ _ _ hq.2 x1 x2 .non⟩
    case h_2 => exact hq.elim
theorem insert_sound : MtR X "list.insert" (LM X.K .insert) := by
  intro pins s σ H x vs v us Q I rx rv ⟨d, ds, S, F, Qd, rel, rd, rds, hq, kv⟩
  match d, ds, hq with
  | .ref a, [.int i, e], hq =>
    simp only [mthR] at hq
    split at hq
    case h_1 l hl =>
      obtain ⟨ws, h1, h2⟩ := rel.lst hl
      obtain ⟨w1, w2, e1, r1, r2⟩ := rds.two
      obtain ⟨x1, x2⟩ := rel.setLst hl h1 (((h2.take i.toNat).append (.cons r2 .nil)).append (h2.drop i.toNat))
      exact mt_insert pins s σ H x vs v us Q I rx rv ⟨a, ws, i, w2, rd.refi, by rw [e1, r1.inti], h1, by rw [h2.length]; exact hq.1, hq.2.1, hq.2.2.1, kv _ _ _ _ hq.2.2.2 x1 x2 .non⟩
    case h_2 => exact hq.elim
theorem list_extend_tuple (l : Addr) (items : Array Value) (n : Nat) (b : Addr) (items2 : Array Value) (n2 : Nat) (dd : Option Addr) (sl : Array (Option Value)) (hs0 : ¬(!items.isEmpty && Builtin.List.listTooLong (items.size + items2.size)) = true) (hs1 : items.size ≤ sizeLine) (hs2 : items.size + items2.size ≤ sizeLine + 1) :
    Meets (Builtin.«list.extend» ⟨[.ref l, .ref b], []⟩) (fun _ R s => s.heap.get? l = some { cls := .type "list", dict := none, data := .seq items n, slots := #[] } ∧ s.heap.get? b = some { cls := .type "tuple", dict := dd, data := .seq items2 n2, slots := sl } ∧ R (.ok (.ret Value.none)) { s with heap := s.heap.update l (Obj.mapSeq fun x => x ++ items2), toks := s.toks }) :=
  .of_wp fun prog w A R s h => by
    obtain ⟨hp, g, d, tk, os⟩ := s; obtain ⟨hl, hb, h⟩ := h; have f1 := AutoSeq1.idx_int; have f2 := AutoSeq1.sub_tuple_tuple; have f3 := AutoSeq1.sub_list_list; have f4 := AutoSeq1.sub_tuple_list; have f5 := AutoSeq1.sub_list_tuple
    have hz' : (items ++ items2).size ≤ sizeLine + 1 := by rw [Array.size_append]; exact hs2
    wp_walk using (wpAny_updateSeq hl rfl (hz := hs1) (_hz' := hz')), wpAny_loadPart' hl, wpAny_loadPart' hb; exact ⟨_, rfl, h⟩
theorem mt_extendT : MtM X "list.extend" (fun x vs H Q => ∃ l b xs zs, x = .ref l ∧ vs = [.ref b] ∧ H l = some (.lst xs) ∧ SqT X.K H b zs ∧ xs.length + zs.length ≤ sizeLine ∧ Q .non (L2.upd H l (.lst (xs ++ zs)))) := by
  intro pins s σ H x vs v us Q I rx rv h
  obtain ⟨l, b, xs, zs, rfl, rfl, hH, hB, hz, q⟩ := h
  cases rx
  obtain ⟨u, rfl, ru⟩ := rv.one
  cases ru
  obtain ⟨z, its, n, r, hl, e⟩ := I.lstM hH
  obtain ⟨its2, r2, ⟨⟨cls, dd, data, sl⟩, ho, hc, n2, hd⟩, hs⟩ := I.tuple hB
  simp only at hc hd
  subst hc hd
  have hl2 := r2.length
  have hsz : its.toArray.size + its2.toArray.size ≤ sizeLine := by rw [List.size_toArray, List.size_toArray]; omega
  have hlong : ¬ (!its.toArray.isEmpty && Builtin.List.listTooLong (its.toArray.size + its2.toArray.size)) = true := by
    rw [notLongL hsz, Bool.and_false]
    exact Bool.false_ne_true
  refine call_meets F.slot_list_extend ⟨_, e, rfl⟩ F.entry_list_extend (F.args_list_extend_2 _ _)
    (list_extend_tuple l its.toArray n b its2.toArray n2 dd sl hlong (by rw [List.size_toArray]; omega) (by omega)) ⟨e, ho, ?_⟩
  refine ⟨.non, _, I.lset (its' := its ++ its2) hH e (by simp) (r.append r2) ?_, rfl, q⟩
  rw [List.length_append]
  omega
theorem extend_sound : MtR X "list.extend" (LM X.K .extend) := by
  intro pins s σ H x vs v us Q I rx rv ⟨d, ds, S, F, Qd, rel, rd, rds, hq, kv⟩
  match d, ds, hq with
  | .ref a, [.ref b], hq =>
    simp only [mthR] at hq
    split at hq
    case h_1 l m hl hm =>
      obtain ⟨ws, h1, h2⟩ := rel.lst hl
      obtain ⟨zs, h3, h4⟩ := rel.lst hm
      obtain ⟨w, e1, r1⟩ := rds.one
      obtain ⟨x1, x2⟩ := rel.setLst hl h1 (h2.append h4)
      exact mt_extend pins s σ H x vs v us Q I rx rv ⟨a, b, ws, zs, rd.refi, by rw [e1, r1.refi], h1, h3, by rw [h2.length, h4.length]; exact hq.1, kv _ _ _ _ hq.2 x1 x2 .non⟩
    case h_2 => exact hq.elim
  | .ref a, [.tup m], hq =>
    simp only [mthR] at hq
    split at hq
    case h_1 l hl =>
      obtain ⟨ws, h1, h2⟩ := rel.lst hl
      obtain ⟨w, e1, r1⟩ := rds.one
      obtain ⟨b, zs, e2, h3, h4⟩ := r1.tupi
      obtain ⟨x1, x2⟩ := rel.setLst hl h1 (h2.append h4)
      exact mt_extendT pins s σ H x vs v us Q I rx rv ⟨a, b, ws, zs, rd.refi, by rw [e1, e2], h1, h3, by rw [h2.length, h4.length]; exact hq.1, kv _ _ _ _ hq.2 x1 x2 .non⟩
    case h_2 => exact hq.elim
theorem pop_sound : MtR X "list.pop" (LM X.K .pop) := by
  intro pins s σ H x vs v us Q I rx rv ⟨d, ds, S, F, Qd, rel, rd, rds, hq, kv⟩
  match d, ds, hq with
  | .ref a, [], hq =>
    simp only [mthR] at hq
    split at hq
    case h_1 l hl =>
      split at hq
      case h_1 w hw =>
        obtain ⟨ws, h1, h2⟩ := rel.lst hl
        rw [RDs] at rds
        obtain ⟨z, hz, rz⟩ := h2.get hw
        rw [← h2.length] at hz
        obtain ⟨x1, x2⟩ := rel.setLst hl h1 (m := l.dropLast) (ws := ws.dropLast) (by rw [List.dropLast_eq_take, List.dropLast_eq_take, h2.length]; exact h2.take _)
        exact mt_pop pins s σ H x vs v us Q I rx rv ⟨a, ws, z, rd.refi, rds, h1, hz, kv _ _ _ _ hq x1 x2 (rz.ext x1)⟩
      case h_2 => exact hq.elim
    case h_2 => exact hq.elim
theorem get_sound {k : Nat} (hr : Room k X.A) : MtR X "dict.get" (LM X.K .get) := by
  intro pins s σ H x vs v us Q I rx rv ⟨d, ds, S, F, Qd, rel, rd, rds, hq, kv⟩
  match d, ds, hq with
  | .ref a, [k, e], hq =>
    simp only [mthR] at hq
    split at hq
    case h_1 kvs hl =>
      obtain ⟨f1, hq⟩ := hq
      obtain ⟨ws, h1, h2⟩ := rel.dct hl
      obtain ⟨k', hk⟩ := Option.isSome_iff_exists.mp (show (keyD k).isSome = true from f1)
      obtain ⟨y, z, e1, r1, r2⟩ := rds.two
      subst e1
      obtain ⟨u1, u2, rfl, ru1, ru2⟩ := rv.two
      have ex := rd.refi
      subst ex
      obtain rfl : v = Value.ref a := rx
      have ey := keyD_kV hk r1
      subst ey
      refine d_get2 (hu_of hr) I (DGet.k h1) ru1 ru2 fun w' s' I' r' => ⟨_, H, I', r', ?_⟩
      refine kv _ _ _ _ hq .refl rel ?_
      have q := RK.get hk h2
      cases e : dget kvs k with
      | none => rw [q.2 e]; exact r2
      | some d' =>
        obtain ⟨v', e', r'⟩ := q.1 d' e
        rw [e']; exact r'
    case h_2 => exact hq.elim
end Mi
namespace Mi
open PySem PySem.Spec PyProof.Rows L2
variable {X : Cx}
theorem ins_perm (a : Int) : ∀ l, (ins a l).Perm (a :: l)
  | [] => .refl _
  | b :: l => by
    unfold ins
    split
    · exact .refl _
    · exact ((ins_perm a l).cons b).trans (.swap a b l)
theorem srt_perm : ∀ l, (srt l).Perm l
  | [] => .refl _
  | a :: l => (ins_perm a (srt l)).trans ((srt_perm l).cons a)
theorem ins_sorted (a : Int) : ∀ l : List Int, l.Pairwise (· ≤ ·) → (ins a l).Pairwise (· ≤ ·)
  | [], _ => .cons (fun _ h => nomatch h) .nil
  | b :: l, h => by
    unfold ins
    cases h with
    | cons h1 h2 =>
      split
      · rename_i hab
        refine .cons (fun c hc => ?_) (.cons h1 h2)
        rcases List.mem_cons.mp hc with e | hc
        · rw [e]; exact hab
        · exact Int.le_trans hab (h1 c hc)
      · rename_i hab
        refine .cons (fun c hc => ?_) (ins_sorted a l h2)
        rcases List.mem_cons.mp ((ins_perm a l).mem_iff.mp hc) with e | hc
        · rw [e]; omega
        · exact h1 c hc
theorem srt_sorted : ∀ l : List Int, (srt l).Pairwise (· ≤ ·)
  | [] => .nil
  | a :: l => ins_sorted a _ (srt_sorted l)
theorem srt_unique {l m : List Int} (p : m.Perm l) (s : m.Pairwise (· ≤ ·)) : m = srt l := List.Perm.eq_of_pairwise (fun x y _ _ h1 h2 => Int.le_antisymm h1 h2) s (srt_sorted l) (p.trans (srt_perm l).symm)
def LC (K : PySem.W.Frag) (w : List D → Sto → KD → Prop) : List V → Hp → VK → Prop := fun vs H Q => ∃ ds S F Qd, Rel K S F H ∧ RDs K H ds vs ∧ w ds S Qd ∧ KV K F H Qd Q
section
variable {K : PySem.W.Frag} {H : Hp}
theorem asInts_of : ∀ {l : List D} {ns : List Int}, asInts l = some ns → l = ns.map D.int
  | [], ns, h => by simp only [asInts, Option.some.injEq] at h; subst h; rfl
  | .int i :: l, ns, h => by
    simp only [asInts, Option.map_eq_some_iff] at h
    obtain ⟨m, h1, h2⟩ := h
    subst h2
    rw [List.map_cons, ← asInts_of h1]
  | .non :: l, _, h => by simp [asInts] at h
  | .bl _ :: l, _, h => by simp [asInts] at h
  | .str _ :: l, _, h => by simp [asInts] at h
  | .tup _ :: l, _, h => by simp [asInts] at h
  | .ref _ :: l, _, h => by simp [asInts] at h
theorem asBls_of : ∀ {l : List D} {ns : List Bool}, asBls l = some ns → l = ns.map D.bl
  | [], ns, h => by simp only [asBls, Option.some.injEq] at h; subst h; rfl
  | .bl i :: l, ns, h => by
    simp only [asBls, Option.map_eq_some_iff] at h
    obtain ⟨m, h1, h2⟩ := h
    subst h2
    rw [List.map_cons, ← asBls_of h1]
  | .non :: l, _, h => by simp [asBls] at h
  | .int _ :: l, _, h => by simp [asBls] at h
  | .str _ :: l, _, h => by simp [asBls] at h
  | .tup _ :: l, _, h => by simp [asBls] at h
  | .ref _ :: l, _, h => by simp [asBls] at h
theorem RDs.ints : ∀ {ns : List Int} {vs : List V}, RDs K H (ns.map D.int) vs → vs = ns.map V.int
  | [], vs, h => by rw [List.map_nil, RDs] at h; rw [h]; rfl
  | n :: ns, vs, h => by
    rw [List.map_cons, RDs] at h
    obtain ⟨v, r, e, h1, h2⟩ := h
    rw [e, h1.inti, RDs.ints h2]; rfl
theorem RDs.bls : ∀ {ns : List Bool} {vs : List V}, RDs K H (ns.map D.bl) vs → vs = ns.map V.bl
  | [], vs, h => by rw [List.map_nil, RDs] at h; rw [h]; rfl
  | n :: ns, vs, h => by
    rw [List.map_cons, RDs] at h
    obtain ⟨v, r, e, h1, h2⟩ := h
    rw [e, h1.bli, RDs.bls h2]; rfl
theorem RDs.ofInts : ∀ ns : List Int, RDs K H (ns.map D.int) (ns.map V.int)
  | [] => .nil
  | n :: ns => .cons .int (RDs.ofInts ns)
theorem bll_ints {b : Bl} {l : List D} {vs : List V} {ns : List Int} (h : asInts l = some ns) (r : RDs K H l vs) : vs = ns.map V.int := by
  have e := asInts_of h
  subst e
  exact r.ints
theorem RK.keysI : ∀ {kvs : List (D × D)} {ws : List (Key × V)} {ns : List Int}, RK K H kvs ws → kvs.map (·.1) = ns.map D.int → ws.map (·.1) = ns.map Sum.inl
  | [], ws, ns, h, e => by
    rw [RK] at h; subst h
    cases ns with
    | nil => rfl
    | cons n ns => simp at e
  | (k, d) :: l, ws, ns, h, e => by
    rw [RK] at h
    obtain ⟨k', v, r, e1, hk, h1, h2⟩ := h
    subst e1
    cases ns with
    | nil => simp at e
    | cons n ns =>
      simp only [List.map_cons, List.cons.injEq] at e ⊢
      obtain ⟨e2, e3⟩ := e
      subst e2
      simp only [keyD, Option.some.injEq] at hk
      exact ⟨hk.symm, RK.keysI h2 e3⟩
end
def blV : Bl → Value
  | .len => .builtin "len" | .abs => .builtin "abs" | .max => .builtin "max" | .min => .builtin "min" | .sum => .builtin "sum" | .all => .builtin "all" | .any => .builtin "any"
  | .int => .type "int" | .str => .type "str" | .tuple => .type "tuple" | .list => .type "list" | .dict => .type "dict" | .sorted => .builtin "sorted" | .gcd => .builtin "math.gcd"
theorem bll_sound (hc : X.calm = true) (b : Bl) : CallR X (blV b) (fun vs H Q => ∃ a l ws S F Qd, vs = [.ref a] ∧ Rel X.K S F H ∧ H a = some (.lst ws) ∧ RDs X.K H l ws ∧ bllR b l S Qd ∧ KV X.K F H Qd Q) := by
  intro pins s σ H vs us Q I rv ⟨a, l, ws, S, F, Qd, ev, rel, hH, hl, hq, kv⟩
  subst ev
  cases b <;> simp only [bllR] at hq
  case len => exact call_len_seq pins s σ H _ us Q I rv ⟨a, ws, rfl, .inl (.of hH), by rw [hl.length]; exact kv _ _ _ _ hq .refl rel .int⟩
  case tuple => exact call_tupleF pins s σ H _ us Q I rv ⟨a, ws, rfl, .of hH, fun p o hp ho => kv _ _ _ _ hq (.new hp) (rel.tup hp) (.tupNew hp ho hl)⟩
  case all =>
    split at hq
    case h_1 bs hb =>
      have e := asBls_of hb
      subst e
      exact cr_all hc pins s σ H _ us Q I rv ⟨a, bs, rfl, .of (by rw [hH, hl.bls]), kv _ _ _ _ hq .refl rel .bl⟩
    case h_2 => exact hq.elim
  case any =>
    split at hq
    case h_1 bs hb =>
      have e := asBls_of hb
      subst e
      exact cr_any hc pins s σ H _ us Q I rv ⟨a, bs, rfl, .of (by rw [hH, hl.bls]), kv _ _ _ _ hq .refl rel .bl⟩
    case h_2 => exact hq.elim
  case sum =>
    split at hq
    case h_1 ns hb =>
      have e := asInts_of hb
      subst e
      exact cr_sum hc pins s σ H _ us Q I rv ⟨a, ns, rfl, .of (by rw [hH, hl.ints]), kv _ _ _ _ hq .refl rel .int⟩
    case h_2 => exact hq.elim
  case max =>
    split at hq
    case h_1 ns hb =>
      have e := asInts_of hb
      subst e
      exact cr_max hc pins s σ H _ us Q I rv ⟨a, ns, rfl, .of (by rw [hH, hl.ints]), hq.1, fun m h1 h2 => kv _ _ _ _ (hq.2 m h1 h2) .refl rel .int⟩
    case h_2 => exact hq.elim
  case min =>
    split at hq
    case h_1 ns hb =>
      have e := asInts_of hb
      subst e
      exact cr_min hc pins s σ H _ us Q I rv ⟨a, ns, rfl, .of (by rw [hH, hl.ints]), hq.1, fun m h1 h2 => kv _ _ _ _ (hq.2 m h1 h2) .refl rel .int⟩
    case h_2 => exact hq.elim
  case sorted =>
    split at hq
    case h_1 ns hb =>
      have e := asInts_of hb
      subst e
      refine cr_sorted pins s σ H _ us Q I rv ⟨a, ns, rfl, .of (by rw [hH, hl.ints]), hq.1, fun ns' p h1 h2 hp => ?_⟩
      rw [srt_unique h1 h2]
      exact kv _ _ _ _ (hq.2 p (rel.free hp)) (.new hp) (rel.newLst hp (RDs.ofInts _)) .ref
    case h_2 => exact hq.elim
theorem RDs.pairs {K : PySem.W.Frag} {H : Hp} : ∀ {l : List D} {kvs : List (D × D)} {vs : List V}, asPairs l = some kvs → kvs.all (fun kv => (keyD kv.1).isSome) = true → RDs K H l vs →
    ∃ (ps : List Addr) (ws : List (Key × V)), vs = ps.map V.ref ∧ RK K H kvs ws ∧ Paired (fun p kv => TupK K H p [kV kv.1, kv.2]) ps ws
  | [], kvs, vs, h, _, r => by
    simp only [asPairs, Option.some.injEq] at h
    subst h
    rw [RDs] at r
    exact ⟨[], [], r, by rw [RK], .nil⟩
  | .tup [k, v] :: l, kvs, vs, h, hk, r => by
    simp only [asPairs, Option.map_eq_some_iff] at h
    obtain ⟨m, h1, h2⟩ := h
    subst h2
    rw [List.all_cons, Bool.and_eq_true] at hk
    rw [RDs] at r
    obtain ⟨w, r', e, r1, r2⟩ := r
    obtain ⟨a, xs, ea, ht, hx⟩ := r1.tupk
    obtain ⟨x, y, ex, q1, q2⟩ := hx.two
    obtain ⟨ps, ws, e1, e2, e3⟩ := RDs.pairs h1 hk.2 r2
    obtain ⟨k', hk'⟩ := Option.isSome_iff_exists.mp hk.1
    have := keyD_kV hk' q1
    subst this ex e ea e1
    refine ⟨a :: ps, (k', y) :: ws, rfl, ?_, .cons ht e3⟩
    rw [RK]
    exact ⟨k', y, ws, rfl, hk', q2, e2⟩
  | .tup [] :: l, _, _, h, _, _ => by simp [asPairs] at h
  | .tup [_] :: l, _, _, h, _, _ => by simp [asPairs] at h
  | .tup (_ :: _ :: _ :: _) :: l, _, _, h, _, _ => by simp [asPairs] at h
  | .non :: l, _, _, h, _, _ => by simp [asPairs] at h
  | .bl _ :: l, _, _, h, _, _ => by simp [asPairs] at h
  | .int _ :: l, _, _, h, _, _ => by simp [asPairs] at h
  | .str _ :: l, _, _, h, _, _ => by simp [asPairs] at h
  | .ref _ :: l, _, _, h, _, _ => by simp [asPairs] at h
theorem RK.merge {K : PySem.W.Frag} {H : Hp} : ∀ {ms : List (D × D)} {ws : List (Key × V)} {kvs : List (D × D)} {xs : List (Key × V)}, RK K H ms ws → RK K H kvs xs → RK K H (dmerge kvs ms) (mergeK xs ws)
  | [], ws, kvs, xs, h, g => by rw [RK] at h; subst h; exact g
  | (k, d) :: l, ws, kvs, xs, h, g => by
    rw [RK] at h
    obtain ⟨k', v, r, e1, hk, h1, h2⟩ := h
    subst e1
    show RK K H (dmerge (dput kvs k d) l) (mergeK (putK xs k' v) r)
    exact RK.merge h2 (RK.put hk h1 g)
theorem tupK_plain {pins : List (Addr × Obj)} {s : Shared} {σ : L2.St} {H : Hp} {a : Addr} {xs : List V} (I : L2.Inv X pins σ H s) (h : TupK X.K H a xs) : ∃ (o : Obj) (its : List Value) (n : Nat), Vals xs its ∧ s.heap.get? a = some o ∧ o.cls = .type "tuple" ∧ o.dict = none ∧ o.data = .seq its.toArray n ∧ xs.length ≤ sizeLine := by
  rcases h with ⟨o, h, d⟩ | ⟨o, its, n, hk, hc, hd, ho, hz, r⟩
  · obtain ⟨e, z, its, r, o', e', c, n, dt⟩ := I.hok a _ h
    rw [e] at e'; cases e'
    exact ⟨o, its, n, r, e, c, d, dt, z⟩
  · refine ⟨o, its.toList, n, r, I.kIn a o hk, hc, hd, by simpa using ho, ?_⟩
    have e := r.length
    simp only [Array.length_toList] at e
    omega
theorem pairsV {pins : List (Addr × Obj)} {σ : L2.St} {H : Hp} {s : Shared} (I : L2.Inv X pins σ H s) : ∀ {ps : List Addr} {kvs : List (Key × V)}, Paired (fun p kv => SqT X.K H p [kV kv.1, kv.2]) ps kvs →
    ∃ (zs : List (Value × Value)) (prs : List (Key × Value)), zs.length = ps.length ∧ L2.KV kvs prs ∧ prs.length = ps.length ∧ ∀ (j : Nat) (u y : Value), zs[j]? = some (u, y) → ∃ (b : Addr) (q : Key × Value), ps[j]? = some b ∧ prs[j]? = some q ∧ q.2 = y ∧ IsTup s.heap b #[u, y] ∧ keyIs q.1 u = true
  | _, _, .nil => ⟨[], [], rfl, .nil, rfl, fun j u y e => by simp at e⟩
  | _, _, .cons (a := p) (b := kv) h t => by
    obtain ⟨zs, prs, hz, r, hl, hp⟩ := pairsV I t
    obtain ⟨its, rv, ht, _⟩ := I.tuple h
    obtain ⟨u, y, ei, ru, ry⟩ := vals2 rv
    subst ei
    refine ⟨(u, y) :: zs, (kv.1, y) :: prs, by rw [List.length_cons, List.length_cons, hz], .cons ⟨rfl, ry⟩ r, by rw [List.length_cons, List.length_cons, hl], fun j u' y' e => ?_⟩
    cases j with
    | zero =>
      have e' : (u, y) = (u', y') := Option.some.inj e
      cases e'
      exact ⟨p, (kv.1, y), rfl, rfl, rfl, ht, kV_is (P := X.prog) (w := X.w) ru⟩
    | succ j =>
      obtain ⟨b, q, e1, e2, e3, e4, e5⟩ := hp j u' y' (by simpa using e)
      exact ⟨b, q, by simpa using e1, by simpa using e2, e3, e4, e5⟩
theorem call_dictT (hcalm : X.calm = true) : CallR X (.type "dict") (fun xs H Q => ∃ (a : Addr) (ps : List Addr) (kvs : List (Key × V)), xs = [.ref a] ∧ TupK X.K H a (ps.map V.ref) ∧ Paired (fun p kv => TupK X.K H p [kV kv.1, kv.2]) ps kvs ∧
    ∀ p, H p = none → Q (.ref p) (L2.upd H p (.dK (mergeK [] kvs)))) := by
  intro pins s σ H xs us Q I r q
  obtain ⟨a, ps, kvs, ex, hq, hp, q⟩ := q
  subst ex
  obtain ⟨u, eu, rx⟩ := vals1 r
  subst eu
  cases rx
  obtain ⟨o, its, n, rv, ho, hcl, hdi, hda, hz⟩ := tupK_plain I hq
  have ei := refs_at rv
  subst ei
  rw [List.length_map] at hz
  obtain ⟨zs, prs, hzl, rel, hl, hpr⟩ := pairsV I (Paired.mapP hp fun _ _ h => h.sq)
  have hsz : prs.length ≤ sizeLine := by rw [hl]; exact hz
  have ok : PlainSeq "tuple" s.heap a (ps.map Value.ref).toArray ∧ PairItems s.heap (ps.map Value.ref).toArray (fun j => ps.getD j 0) zs := by
    refine ⟨⟨o, n, ho, hcl, hdi, hda⟩, by simp [hzl], fun j k v hj => ?_⟩
    obtain ⟨b, q, e1, e2, e3, e4, e5⟩ := hpr j k v hj
    have e1' : ps.getD j 0 = b := by rw [List.getD_eq_getElem?_getD, e1]; rfl
    refine ⟨by simp [e1], ?_⟩
    show PairAt s.heap (ps.getD j 0) k v
    rw [e1', ← e3]
    exact .inl (by rw [e3]; exact e4)
  have P := PairArg.tuple (prog := X.prog) (w := X.w) a (ps.map Value.ref).toArray (fun j => ps.getD j 0) zs
  have hc : PairsHave (mixKind X.prog X.w) zs.length (PairRel zs) prs := by
    refine ⟨by rw [hl, hzl], fun i key v hi => ?_⟩
    obtain ⟨b, q, e1, e2, e3, e4, e5⟩ := hpr i key v hi
    exact ⟨q.1, by rw [e2, ← e3], e5⟩
  refine PySem.call_dict_pairs (knd := mixKind X.prog X.w) (kvs := prs) P (I.ok.hd hcalm) ok hc (by rw [hzl]; exact hz) fun h' tk hd' k => ?_
  have hm : (s.heap.objs.size == sysModules) = false := beq_eq_false_iff_ne.mpr (Nat.ne_of_gt I.big)
  have hlen : (mergeK [] kvs).length ≤ sizeLine := by
    refine Nat.le_trans (length_mergeK kvs []) ?_
    rw [List.length_nil, Nat.zero_add, rel.length]
    exact hsz
  exact ⟨.ref s.heap.objs.size, L2.upd H s.heap.objs.size (.dK (mergeK [] kvs)), I.laid (t' := tk) (fun b u e => k b u (by simp) e) (Nat.le_refl _) (show ObjOk X.prog X.w _ _ _ (.dK (mergeK [] kvs)) from ⟨hlen, hm, merged [] prs, KV.merge rel .nil, hd'⟩), rfl, q _ (I.hok.fresh (Nat.le_refl _))⟩
theorem blt_sound (hc : X.calm = true) : ∀ b : Bl, CallR X (blV b) (LC X.K (bltR b)) := by
  intro b pins s σ H vs us Q I rv ⟨ds, S, F, Qd, rel, rds, hq, kv⟩
  match ds, rds, hq with
  | [.tup l], rds, hq =>
    obtain ⟨v, e, r⟩ := rds.one
    obtain ⟨a, ws, ea, ha, hl⟩ := r.tupk
    subst e ea
    cases b <;> simp only [bltR] at hq
    case len => exact call_len_seq pins s σ H _ us Q I rv ⟨a, ws, rfl, .inr ha.sq, by rw [hl.length]; exact kv _ _ _ _ hq .refl rel .int⟩
    case tuple => exact call_tupleT pins s σ H _ us Q I rv ⟨a, ws, rfl, ha.sq, kv _ _ _ _ hq .refl rel (.tup ha hl)⟩
    case list => exact call_list_of pins s σ H _ us Q I rv ⟨a, ws, rfl, .inr ha.sq, fun p hp => kv _ _ _ _ (hq p (rel.free hp)) (.new hp) (rel.newLst hp hl) .ref⟩
    case dict =>
      split at hq
      case h_1 kvs hk =>
        obtain ⟨h1, hq⟩ := hq
        obtain ⟨ps, zs, e1, e2, e3⟩ := RDs.pairs hk h1 hl
        subst e1
        refine call_dictT hc pins s σ H _ us Q I rv ⟨a, ps, zs, rfl, ha, e3, fun p hp => ?_⟩
        have e4 : RK X.K H (dmerge [] kvs) (mergeK [] zs) := RK.merge e2 (by rw [RK])
        exact kv _ _ _ _ (hq p (rel.free hp)) (.new hp) (rel.new hp ⟨_, upd_same, e4.ext (.new hp)⟩) .ref
      case h_2 => exact hq.elim
  | [.rl l], rds, hq =>
    obtain ⟨v, e, r⟩ := rds.one
    obtain ⟨a, ws, ea, ha, hl⟩ := r.rli
    subst e ea
    cases b <;> simp only [bltR] at hq
    case len => exact call_len_seq pins s σ H _ us Q I rv ⟨a, ws, rfl, .inl ha.sq, by rw [hl.length]; exact kv _ _ _ _ hq .refl rel .int⟩
    case list => exact call_list_of pins s σ H _ us Q I rv ⟨a, ws, rfl, .inl ha.sq, fun p hp => kv _ _ _ _ (hq p (rel.free hp)) (.new hp) (rel.newLst hp hl) .ref⟩
  | .rl _ :: _ :: _, _, hq => cases b <;> exact (show False from hq).elim
  | .int _ :: .rl _ :: _, _, hq => cases b <;> exact (show False from hq).elim
  | [.str t], rds, hq =>
    obtain ⟨v, e, r⟩ := rds.one
    obtain ⟨ev, ok⟩ := r.stri
    subst e ev
    cases b <;> simp only [bltR] at hq
    case len => exact call_len_str pins s σ H _ us Q I rv ⟨t, rfl, hq.1, kv _ _ _ _ hq.2 .refl rel .int⟩
  | [.int i], rds, hq =>
    obtain ⟨v, e, r⟩ := rds.one
    have ev := r.inti
    subst e ev
    cases b <;> simp only [bltR] at hq
    case abs => exact call_abs pins s σ H _ us Q I rv ⟨i, rfl, kv _ _ _ _ hq .refl rel .int⟩
    case int => exact call_int1 pins s σ H _ us Q I rv (.inl ⟨i, rfl, kv _ _ _ _ hq .refl rel .int⟩)
  | [.int i, .int j], rds, hq =>
    obtain ⟨v, w, e, r1, r2⟩ := rds.two
    have e1 := r1.inti
    have e2 := r2.inti
    subst e e1 e2
    cases b <;> simp only [bltR] at hq
    case max => exact call_max2 hc pins s σ H _ us Q I rv ⟨i, j, rfl, kv _ _ _ _ hq .refl rel .int⟩
    case min => exact call_min2 hc pins s σ H _ us Q I rv ⟨i, j, rfl, kv _ _ _ _ hq .refl rel .int⟩
    case gcd => exact cr_gcd pins s σ H _ us Q I rv ⟨i, j, rfl, kv _ _ _ _ hq .refl rel .int⟩
  | [.ref a], rds, hq =>
    obtain ⟨v, e, r⟩ := rds.one
    have ev := r.refi
    subst e ev
    by_cases hb : b = .sorted
    · subst hb
      simp only [bltR] at hq
      split at hq
      case h_1 l hl =>
        obtain ⟨ws, h1, h2⟩ := rel.lst hl
        exact bll_sound hc .sorted pins s σ H _ us Q I rv ⟨a, l, ws, S, F, Qd, rfl, rel, h1, h2, hq, kv⟩
      case h_2 kvs hl =>
        obtain ⟨ws, h1, h2⟩ := rel.dct hl
        simp only [bllR] at hq
        split at hq
        case h_1 ns hn =>
          refine call_sortedDI hc pins s σ H _ us Q I rv ⟨a, ws, ns, rfl, .inl h1, RK.keysI h2 (asInts_of hn), hq.1, fun ys p g1 g2 hp => ?_⟩
          rw [srt_unique g1 g2]
          exact kv _ _ _ _ (hq.2 p (rel.free hp)) (.new hp) (rel.newLst hp (RDs.ofInts _)) .ref
        case h_2 => exact hq.elim
      case h_3 => exact hq.elim
    · by_cases hb2 : b = .list
      · subst hb2
        simp only [bltR] at hq
        split at hq
        case h_1 l hl =>
          obtain ⟨ws, h1, h2⟩ := rel.lst hl
          exact call_list_of pins s σ H _ us Q I rv ⟨a, ws, rfl, .inl (.of h1), fun p hp => kv _ _ _ _ (hq p (rel.free hp)) (.new hp) (rel.newLst hp h2) .ref⟩
        case h_2 l hl =>
          obtain ⟨o, ws, h1, h2⟩ := rel.rls hl
          exact call_list_of pins s σ H _ us Q I rv ⟨a, ws, rfl, .inl (.inl (.inr ⟨o, h1⟩)), fun p hp => kv _ _ _ _ (hq p (rel.free hp)) (.new hp) (rel.newLst hp h2) .ref⟩
        case h_3 => exact hq.elim
      · have hq2 : (match S a with
          | some (.lst l) => bllR b l S Qd
          | some (.rls l) => b = .len ∧ Qd (.int l.length) S
          | _ => False) := by cases b <;> first | exact hq | exact absurd rfl hb | exact absurd rfl hb2
        split at hq2
        case h_1 l hl =>
          obtain ⟨ws, h1, h2⟩ := rel.lst hl
          exact bll_sound hc b pins s σ H _ us Q I rv ⟨a, l, ws, S, F, Qd, rfl, rel, h1, h2, hq2, kv⟩
        case h_2 l hl =>
          obtain ⟨o, ws, h1, h2⟩ := rel.rls hl
          obtain ⟨eb, hq2⟩ := hq2
          subst eb
          exact call_len_seq pins s σ H _ us Q I rv ⟨a, ws, rfl, .inl (.inl (.inr ⟨o, h1⟩)), by rw [h2.length]; exact kv _ _ _ _ hq2 .refl rel .int⟩
        case h_3 => exact hq2.elim
  | [], _, hq => cases b <;> exact (show False from hq).elim
  | .non :: _, _, hq => cases b <;> exact (show False from hq).elim
  | .bl _ :: _, _, hq => cases b <;> exact (show False from hq).elim
  | .str _ :: _ :: _, _, hq => cases b <;> exact (show False from hq).elim
  | .tup _ :: _ :: _, _, hq => cases b <;> exact (show False from hq).elim
  | .ref _ :: _ :: _, _, hq => cases b <;> exact (show False from hq).elim
  | .int _ :: .non :: _, _, hq => cases b <;> exact (show False from hq).elim
  | .int _ :: .bl _ :: _, _, hq => cases b <;> exact (show False from hq).elim
  | .int _ :: .str _ :: _, _, hq => cases b <;> exact (show False from hq).elim
  | .int _ :: .tup _ :: _, _, hq => cases b <;> exact (show False from hq).elim
  | .int _ :: .ref _ :: _, _, hq => cases b <;> exact (show False from hq).elim
  | .int _ :: .int _ :: _ :: _, _, hq => cases b <;> exact (show False from hq).elim
end Mi
set_option maxHeartbeats 2000000
namespace Mi
open PySem PySem.Spec PyProof.Rows L2 NdefX
structure NfFacts (P : Program) (K : PySem.W.Frag) (mg : Str → Option Value) (C f : Addr) (F : NF) : Prop where
  T : OexC K C
  hno : PySem.W.findIn K (.ref C) "word" = some none
  lk : ∃ oc od doc pm ctv osl, K.lookup f = some ⟨oc, od, .func (F.fd doc pm ctv), osl⟩
  hcd : PySem.W.codeIn K (.ref F.c) F.qual = true
  cl : ∃ cc ccl ccd ccs, F.cl = [(("__class__" : Str), cc)] ∧ K.lookup cc = some ⟨ccl, ccd, .cell (some (.ref C)), ccs⟩
  code : ∃ vcl vcd vs vcs file tf, K.lookup F.c = some ⟨vcl, vcd, .fields vs, vcs⟩ ∧ vs[2]? = some (.str file tf) ∧ ((P.main.file : Str) == file) = true
  S : NScope ["self", "word", "__class__"] ["self", "word"] ["__class__"] F.scope
  sup : F.scope.names.lookup ("super" : Str) = some .globalImplicit
  htop : (P.main.scope.names.lookup ("super" : Str)).isSome = false
  mgs : mg "super" = none
  opq : PySem.W.nsIn K PySem.cStatics "thirdparty.any" = some none
  ini : PySem.W.ks_superIn K C C "__init__" = some (some (.builtin "ValueError.__init__"))
  subV : PySem.W.subIn K (.ref C) (.type "ValueError") = some true
  mroC : PySem.W.mroIn K C (.ref C) = some true
  body : ∃ (q1 q2 q3 q4 p0 p1 p2 p3 p4 p5 q5 q6 q7 : Pos) (j : Nat) (m : Str), F.body = [.Assign [.Attribute (.Name "self" q1) "word" q2] (.Name "word" q3) q4,
    .Expr (.Call (.Attribute (.Call (.Name "super" p0) [] [] p1) "__init__" p2) [.JoinedStr [.Constant (.str m) j q5, .FormattedValue (.Name "word" q6) (-1) none q7] p3] [] p4) p5] ∧ m.length ≤ 1000 ∧ ∃ pl : Sem Bool, ∀ env : Env, eval (.Call (.Attribute (.Call (.Name "super" p0) [] [] p1) "__init__" p2) [.JoinedStr [.Constant (.str m) j q5, .FormattedValue (.Name "word" q6) (-1) none q7] p3] [] p4) env = (do
      let ov ← attributeBase (.Call (.Name "super" p0) [] [] p1) "__init__" env (eval (.Call (.Name "super" p0) [] [] p1) env)
      standAt p2.atName
      let (f, first) ← holding [ov] (getMethod ov "__init__" pl)
      callWith p4 f first (backTo p4 (starEach [.JoinedStr [.Constant (.str m) j q5, .FormattedValue (.Name "word" q6) (-1) none q7] p3] env)) [])
  par : ∃ ar, (F.params.posonlyargs ++ F.params.args).head? = some ar ∧ ar.arg = ("self" : Str)
  bnd : ∀ (doc pm ctv : Value) (us : List Value), us.length = 2 → bindArgs (F.fd doc pm ctv) ⟨us, []⟩ = pure ((["self", "word"] : List Str).zip us)
theorem lookup1 {k y : Str} {c c' : Addr} (h : [(k, c)].lookup y = some c') : y = k ∧ c' = c := by
  rw [List.lookup_cons] at h
  cases e : y == k with
  | true => rw [e] at h; exact ⟨eq_of_beq e, (Option.some.inj h).symm⟩
  | false => rw [e] at h; cases h
def spNF (C : Addr) : Sp := fun vs H Q _ => ∃ (a : Addr) (z : Str), vs = [.ref a, .str z] ∧ z.length ≤ 1000000 ∧ H a = some (exo a C none) ∧ ∀ dx, H dx = none → dx ≠ a → Q .non (upd (upd H dx (exd dx [("word", .str z)])) a (exo a C (some dx)))
theorem fn_nf {P : Program} {w : World} {K : PySem.W.Frag} {mg : Str → Option Value} {base : Heap} {CX : CXT} {k : Nat} {C f : Addr} {F : NF} (N : NfFacts P K mg C f F) {oc : Value} {od : Option Addr} {doc pm ctv : Value} {osl : Array (Option Value)} (lk : K.lookup f = some ⟨oc, od, .func (F.fd doc pm ctv), osl⟩) :
    FnOk P w K mg base CX (k + 1) f (F.fd doc pm ctv) ["self", "word"] (spNF C) := by
  obtain ⟨cc, ccl, ccd, ccs, hcl, lkc⟩ := N.cl
  obtain ⟨vcl, vcd, cvs, vcs, file, tf, lkv, hvs, hfile⟩ := N.code
  obtain ⟨q1, q2, q3, q4, p0, p1, p2, p3, p4, p5, q5, q6, q7, j, m, hbody, hm, pl, heval⟩ := N.body
  obtain ⟨ar, hpar, harg⟩ := N.par
  refine ⟨fun vs H Q E h => by obtain ⟨a, z, rfl, _⟩ := h; rfl, fun A outer s H args us vs Q E hr e0 hb r hsp => ?_⟩
  obtain ⟨a, z, rfl, hz, ha, hQ⟩ := hsp
  have KX : K.In s.heap := e0.mod.kin.keeps fun b o e => (e0.bs b o e).1
  have lim : s.heap.NoLimit := e0.mod.nolimit.keeps fun b o e => (e0.bs b o e).1
  have bcc := e0.bs cc _ (e0.mod.kin _ _ lkc)
  have Cs : CellsAt F.cl ["__class__"] [some (.ref C)] s.heap H := by
    rw [hcl]
    refine ⟨rfl, fun y c e => ?_, fun x y c e1 e2 => ?_, fun i y e => ?_⟩
    · obtain ⟨_, rfl⟩ := lookup1 e
      exact ⟨bcc.2, _, _, bcc.1, rfl⟩
    · exact (lookup1 e1).1.trans (lookup1 e2).1.symm
    · cases i with
      | zero =>
        simp only [List.getElem?_cons_zero, Option.some.injEq] at e
        subst e
        exact ⟨cc, by simp, fun v ev => by
          simp only [List.getElem?_cons_zero, Option.some.injEq] at ev
          subst ev
          exact ⟨.ref C, rfl, _, bcc.1, rfl⟩⟩
      | succ i => simp at e
  refine PySem.ks_codeAny_call_defAt (fd := F.fd doc pm ctv) (body := F.body) hr.depth (KX _ _ lk) rfl lim (PySem.W.codeRec_of KX N.hcd) rfl hb N.S.nocell (fun x hx => N.S.par x.1 (List.of_mem_zip hx).1) (fun h₁ hns kp => ?_) N.S.co N.S.gen N.S.kind
  have I : L2.Inv (ncx CX P w K mg base ["self", "word", "__class__"] F f A outer s H E) [] (startF ["self", "word", "__class__"] [.ref a, .str z] [some (.ref C)]) H { s with heap := h₁, toks := s.toks + ((["self", "word"] : List Str).zip us).length } :=
    inv_startN N.S hr.hd e0 rfl r Cs hns kp
  rw [hbody]
  have kself : F.scope.names.lookup ("self" : Str) = some .local := N.S.par "self" (by simp)
  have kword : F.scope.names.lookup ("word" : Str) = some .local := N.S.par "word" (by simp)
  refine PySem.ks_wpAt_execs_cons (PySem.ks_wpAt_Assign_Attr (wpAt_of_wpAny (thn ((pe_var (X := ncx CX P w K mg base ["self", "word", "__class__"] F f A outer s H E) (i := 1) (x := "word") (pos := q3) rfl (.inl kword)).run [] _ _ H (fun x H' => x = .str z ∧ H' = H) I ⟨.str z, rfl, rfl, rfl⟩) fun u s1 ⟨x, H1, I1, r1, ex, eH⟩ => ?_)))
  subst ex eH
  refine thn ((pe_var (X := ncx CX P w K mg base ["self", "word", "__class__"] F f A outer s H1 E) (i := 0) (x := "self") (pos := q1) rfl (.inl kself)).run [] _ _ H1 (fun x H' => x = .ref a ∧ H' = H1) I1 ⟨.ref a, rfl, rfl, rfl⟩) fun u2 s2 ⟨x2, H2, I2, r2, ex2, eH2⟩ => ?_
  subst ex2 eH2
  obtain rfl : u2 = Value.ref a := r2
  refine ost_new N.T I2 ha N.hno r1 fun dx s3 hdx hdxa I3 => ?_
  have K3 : K.In s3.heap := I3.kIn
  obtain ⟨nm, qn, Nn, bs, bm, sn, sb, ab, col, dd, k0, k1, k2, k3, k5, hC, hbm⟩ := N.T.cls
  have hD := K3 _ _ hC
  obtain ⟨t1, hx⟩ := exo_at (e := a) I3.hok upd_same
  obtain ⟨mA, ⟨oD, esD, epD, hoD, _⟩, _⟩ := exd_at (dx := dx) I3.hok (by rw [upd_ne hdxa]; exact upd_same)
  have hcd : PySem.W.clsIn K C = some { name := nm, bases := bs, mro := .ref C :: bm, ns := Nn, qualname := qn, hasDict := true, slotNames := sn, subclasses := sb, abstract := ab, collection := col, hasDel := false } := by unfold PySem.W.clsIn; rw [hC] <;> rfl
  refine PySem.ks_wpAt_execs_cons (PySem.ks_wpAt_Expr_any (PySem.ks_wpAt_MethodCall (PySem.ks_wpAt_super_base (f := f) (cc := F.c) N.sup (N.S.frk "__class__" (by simp)) rfl rfl (K3 _ _ lk) rfl hpar rfl (K3 _ _ lkv) rfl hvs hfile N.htop ?_) (heval _)) I3.quiet)
  obtain ⟨mb, hb1, hb2⟩ := I3.mod.blt
  refine PySem.W.ks_loadName_global N.S.kind N.sup (Calls.loadGlobal_builtin (I3.mod.glob.keeps I3.bk) N.mgs (hb1.keeps I3.bk) ((hb2 "super" (by decide)).trans (show bootBuiltins "super" = some (.type "super") by decide +kernel)) ⟨rfl, ?_⟩)
  refine wpAny_loadName_free N.S.kind (N.S.frk "__class__" (by simp)) (c := cc) (v := .ref C) (show F.cl.lookup ("__class__" : Str) = some cc by rw [hcl]; rfl) ⟨_, K3 _ _ lkc, rfl⟩ ?_
  obtain ⟨mL, hnL, hlL⟩ := I3.loc
  obtain ⟨us0, rs0, hs0⟩ := hlL 0 "self" (.ref a) rfl rfl (.inl kself)
  obtain rfl : us0 = Value.ref a := rs0
  have hmL : mL "self" = some (.ref a) := by
    rcases hs0 with ⟨_, h⟩ | ⟨h, _⟩
    · exact h
    · have h : F.scope.names.lookup ("self" : Str) = some .cell ∨ F.scope.names.lookup ("self" : Str) = some .free := h
      rw [kself] at h
      rcases h with h | h <;> cases h
  rw [harg]
  refine wpAny_loadName_local N.S.kind kself hnL hmL ?_
  obtain ⟨hp3, g3, d3, tk3, os3⟩ := s3
  refine PySem.ks_wpAny_isType_cls hD rfl ⟨rfl, ?_⟩
  have hsub : PySem.W.Looks (model P w) hp3 (isSubtype (.ref C) (.ref C)) true := PySem.W.looks_mroIn K3 N.mroC
  refine PySem.ks_wpAny_call_super hD rfl hx rfl (fun c e => by cases e) hsub (fun h4 hso kp4 => ?_)
  have I4 := I3.kept (t' := tk3) kp4
  have K4 : K.In h4 := I4.kIn
  have hx4 := kp4 _ _ hx
  have hxC : a ≠ C := fun e => by
    rw [e] at hx
    have z := hx.symm.trans hD
    cases z
  have hI4 : PySem.W.Looks (model P w) h4 (isInstance (.ref a) (.type "ValueError")) true := by
    have I : PySem.W.InstAt h4 a { cls := .ref C, dict := some dx, data := .fields #[.ref t1, .none, .none, .none, .bool false, .none] } C (some oD) := ⟨hx4, rfl, rfl, kp4 _ _ hoD⟩
    exact I.type.andThen (PySem.W.looks_subIn K4 N.subV)
  refine PySem.W.kxs_getMethod PySem.W.kxs_ValueError hso (PySem.W.looks_opaque K4 N.opq) (l₀ := .ref C :: bm) ?_ rfl K4 (by have := N.ini; unfold PySem.W.ks_superIn at this; rw [hcd] at this; exact this) hI4 hxC rfl ?_
  · exact (PySem.W.looks_clsIn K4 hcd).andThen .now
  have I5 : L2.Inv _ [] _ _ ({ heap := h4.push (PySem.W.kxs_mw "ValueError.__init__" a), gens := g3, drawn := d3, toks := tk3 + 1, os := os3 } : Shared) := I4.kept (t' := tk3 + 1) fun b o e => Heap.get?_push_of_some _ e
  have fp := I4.fpOk (Nat.le_refl _) (I4.hok.fresh (Nat.le_refl h4.objs.size))
  have I6 := I5.pins_of (pins' := [(h4.objs.size, PySem.W.kxs_mw "ValueError.__init__" a)]) (by
    intro p hp
    have e : p = (h4.objs.size, PySem.W.kxs_mw "ValueError.__init__" a) := by simpa using hp
    subst e
    exact ⟨Heap.get?_push_size _ rfl, fp.1, fp.2.1, fp.2.2.1, fun v e => by cases e⟩)
  refine PySem.W.kxs_callWith (i := "ValueError.__init__") (x := a) rfl (Calls.evalArgs_plain ?_)
  have ha4 : (upd (upd H2 dx (exd dx [(("word" : Str), V.str z)])) a (exo a C (some dx))) a = some (exo a C (some dx)) := upd_same
  have pj : PJ (ncx CX P w K mg base ["self", "word", "__class__"] F f A outer s H2 E) [.Constant (.str m) j q5, .FormattedValue (.Name "word" q6) (-1) none q7] [tC (.str m), tFmt (tVar 1)] :=
    .cons pe_str (.cons (pe_fmt (pe_var (i := 1) (x := "word") rfl (.inl kword))) .nil)
  have hmz : (Str.empty ++ m).length ≤ sizeLine := by
    rw [sizeLine_eq]
    show (Str.append Str.empty m).length ≤ _
    unfold Str.append Str.length
    rw [Array.size_append]
    have : m.cps.size ≤ 1000 := hm
    have e : Str.empty.cps.size = 0 := rfl
    omega
  have hmz2 : ((Str.empty ++ m) ++ z).length ≤ sizeLine := by
    rw [sizeLine_eq]
    show (Str.append (Str.append Str.empty m) z).length ≤ _
    unfold Str.append Str.length
    rw [Array.size_append, Array.size_append]
    have h1 : m.cps.size ≤ 1000 := hm
    have h2 : z.cps.size ≤ 1000000 := hz
    have e : Str.empty.cps.size = 0 := rfl
    omega
  have hzl : z.length ≤ sizeLine := by rw [sizeLine_eq]; omega
  refine thn ((pa_cons (pe_joined (pos := p3) pj) pa_nil rfl).run p4 _ _ _ _ (fun vs H' => ∃ out, vs = [.str out] ∧ H' = upd (upd H2 dx (exd dx [(("word" : Str), V.str z)])) a (exo a C (some dx))) I6 ⟨m, rfl, hmz, .str z, rfl, .inl ⟨z, rfl, hzl, z, rfl, hmz2, _, rfl, rfl⟩⟩) fun us6 s6 ⟨vs6, H6, I7, r6, out, ev6, eH6⟩ => ?_
  subst ev6 eH6
  have hmw := (I7.pin (h4.objs.size, PySem.W.kxs_mw "ValueError.__init__" a) (by simp)).1
  refine ⟨hmw, ?_⟩
  obtain ⟨t6, hx6⟩ := exo_at (e := a) I7.hok ha4
  have hus : us6.length ≤ sizeLine := by
    have := r6.length
    rw [← this, sizeLine_eq]
    exact (show (1 : Nat) ≤ 16777216 by decide)
  obtain ⟨h6, g6, d6, tk6, os6⟩ := s6
  refine wpAny_call (codeAny_of_tree ?_)
  show wpAny _ _ (callAny (.ref h4.objs.size) ⟨us6, []⟩) _ _ _
  simp only [callAny]
  refine wpAny_bind (wpAny_load hmw ?_)
  simp only [PySem.W.kxs_mw, show (Value.type "method-wrapper" == Value.type "method" || Value.type "method-wrapper" == Value.type "builtin_function_or_method" || Value.type "method-wrapper" == Value.type "method-wrapper") = true by decide, if_true]
  refine PySem.W.KFB.if_so (by decide) ?_
  have hC6 := I7.kIn _ _ hC
  refine wpAny_bind (PySem.W.check_bound_init PySem.F.excBase_ValueError.toExcCallFacts hC6 hx6 rfl ?_)
  refine wpAny_bind (wpAny_pure (wpAny_pure ?_))
  refine ⟨plainId_quiet PySem.F.excBase_ValueError.init.plain _, codeAny_builtin PySem.F.excBase_ValueError.initEntry ?_⟩
  refine PySem.W.exc_init_tree hx6 hus fun h7 k7 hx7 _ => ?_
  have I8 := I7.write (t' := tk6) (x := a) (e := a) (o := exo a C (some dx)) (by rw [ha4]; exact True.intro) (.inl rfl) k7 ⟨_, hx7⟩ (exo_ok hx7)
  have eu : upd (upd (upd H2 dx (exd dx [(("word" : Str), V.str z)])) a (exo a C (some dx))) a (exo a C (some dx)) = upd (upd H2 dx (exd dx [(("word" : Str), V.str z)])) a (exo a C (some dx)) := by
    funext b
    by_cases hb : b = a
    · rw [hb, upd_same, upd_same]
    · rw [upd_ne hb]
  rw [eu] at I8
  refine wpAt_of_wpAny (wpAny_execs_nil ?_)
  exact ⟨.non, _, I8.os, I8.bare, I8.base, I8.hok, rfl, hQ dx hdx hdxa⟩
theorem pmk_nf {X : Cx} {C fI : Addr} {F : NF} {k : Nat} {x : Str} {e : PySem.Expr} {te : TE} {p pos : Pos} (N : NfFacts X.prog X.K X.mg C fI F) (iC : PySem.W.findIn X.K (.ref C) "__init__" = some (some (.ref fI))) (tI : PySem.W.typeIn X.K (.ref fI) = some (.type "function"))
    (hr : Room (k + 2) X.A) (mono : ∀ σ H (Q Q' : VK), (∀ v H', Q v H' → Q' v H') → te σ H Q → te σ H Q') (hg : Gl X x) (hm : X.mg x = some (.ref C)) (he : PE X e te) (hdb : (x == ("__debug__" : Str)) = false) (hs : starEach [e] X.env = [(false, eval e X.env)]) :
    PMk X (.Call (.Name x p) [e] [] pos) (fun σ H Q => te σ H fun v H1 => ∃ z : Str, v = .str z ∧ z.length ≤ 1000000 ∧ ∀ d, H1 d = none → Q (.ref C) (some d) (upd H1 d (.xd [("word", .str z)]))) := by
  obtain ⟨oc, od, doc, pm, ctv, osl, lk⟩ := N.lk
  have F1 : FnOk X.prog X.w X.K X.mg X.base (L2.CX X.prog X.w) (0 + 1) fI (F.fd doc pm ctv) ["self", "word"] (spNF C) := fn_nf N lk
  have q := pmk_oex (X := X) (CX := L2.CX X.prog X.w) (pos := pos) (p := p) (k := 0 + 1) (ds := []) (dvs := []) N.T iC tI F1 (hr.mono (show 0 + 1 + 1 ≤ k + 2 by omega)) (.all (N.bnd doc pm ctv)) .nil (fun _ _ _ _ _ _ _ c => by
    obtain ⟨_, _, _, _, _, _, _, _, _, _, _, _, z⟩ := c
    exact z.elim) hg hm (pa_cons he pa_nil (by rw [hs]; rfl)) hdb (by rw [hs]; rfl) rfl
  intro pins s σ H Q I h
  refine q pins s σ H Q I ?_
  refine mono _ _ _ _ (fun v H1 ⟨z, hv, hz, hQ⟩ => ?_) h
  refine ⟨by simp, fun a ha => ?_⟩
  refine ⟨a, z, by rw [hv]; rfl, hz, upd_same, fun dx hd hda => ?_⟩
  have hd1 : H1 dx = none := by rw [upd_ne hda] at hd; exact hd
  refine ⟨rfl, dx, [("word", .str z)], upd_same, by rw [upd_ne hda, upd_same], hd1, ?_⟩
  have e : upd (del (upd (upd (upd H1 a (exo a C none)) dx (exd dx [("word", .str z)])) a (exo a C (some dx))) a) dx (.xd [("word", .str z)]) = upd H1 dx (.xd [("word", .str z)]) := by
    funext b
    by_cases hb : b = dx
    · rw [hb, upd_same, upd_same]
    · rw [upd_ne hb, upd_ne hb]
      by_cases hb2 : b = a
      · rw [hb2, del_same, ha]
      · rw [del_ne hb2, upd_ne hb2, upd_ne hb, upd_ne hb2]
  rw [e]
  exact hQ dx hd1
end Mi
namespace Mi
open PySem PySem.Spec PyProof.Rows L2
def RX (K : PySem.W.Frag) (H : Hp) (x : Exc) (c : Value) (dx : Option Addr) : Prop := c = .ref (gAd K x.cls) ∧ (match dx with
  | none => x.fs = []
  | some d => ∃ ws, H d = some (.xd ws) ∧ RF K H x.fs ws)
def KXs (K : PySem.W.Frag) (F H : Hp) (Xd : KX) (E : XK) : Prop := ∀ x S' c dx H', Xd x S' → Ext H H' → Rel K S' F H' → RX K H' x c dx → E c dx H'
theorem KXs.ext {K : PySem.W.Frag} {F H H1 : Hp} {Xd : KX} {E : XK} (h : KXs K F H Xd E) (e : Ext H H1) : KXs K F H1 Xd E := fun x S' c dx H' q e' r rx => h x S' c dx H' q (e.trans e') r rx
theorem KXs.no {K : PySem.W.Frag} {F H : Hp} {E : XK} : KXs K F H (fun _ _ => False) E := fun _ _ _ _ _ q => q.elim
abbrev WE1 := En → Sto → KD → KX → Prop
def LE (K : PySem.W.Frag) (W : WX) (w : WE1) : TE := fun τ H Q => ∃ σ S F Qd Xd, Rel K S F H ∧ RS K H σ τ ∧ w σ S Qd Xd ∧ KV K F H Qd Q ∧ KXs K F H Xd (WE W τ)
def LT (K : PySem.W.Frag) (W : WX) (w : En → Sto → (Bool → Sto → Prop) → KX → Prop) : TT := fun τ H Q => ∃ σ S F Qd Xd, Rel K S F H ∧ RS K H σ τ ∧ w σ S Qd Xd ∧ (∀ b S' H', Qd b S' → Ext H H' → Rel K S' F H' → Q b H') ∧ KXs K F H Xd (WE W τ)
def LA (K : PySem.W.Frag) (W : WX) (w : En → Sto → (List D → Sto → Prop) → KX → Prop) : TA := fun τ H Q => ∃ σ S F Qd Xd, Rel K S F H ∧ RS K H σ τ ∧ w σ S Qd Xd ∧ (∀ ds S' vs H', Qd ds S' → Ext H H' → Rel K S' F H' → RDs K H' ds vs → Q vs H') ∧ KXs K F H Xd (WE W τ)
def LOp (K : PySem.W.Frag) (W : WX) (w : En → Sto → (Option Int → Sto → Prop) → KX → Prop) : TO := fun τ H Q => ∃ σ S F Qd Xd, Rel K S F H ∧ RS K H σ τ ∧ w σ S Qd Xd ∧ (∀ o S' H', Qd o S' → Ext H H' → Rel K S' F H' → Q o H') ∧ KXs K F H Xd (WE W τ)
def RDw (K : PySem.W.Frag) (H : Hp) (wk : Bool) (d : D) (v : V) : Prop := match wk with
  | false => RD K H d v
  | true => ∃ l a vs, d = .tup l ∧ v = .ref a ∧ SqT K H a vs ∧ RDs K H l vs
def Off (sl : List Nat) (τ τ' : L2.St) : Prop := τ'.length = τ.length ∧ ∀ i, i ∉ sl → τ'[i]? = τ[i]?
theorem Off.refl {sl : List Nat} {τ : L2.St} : Off sl τ τ := ⟨rfl, fun _ _ => rfl⟩
theorem Off.trans {a b : List Nat} {τ τ1 τ2 : L2.St} (h : Off a τ τ1) (g : Off b τ1 τ2) : Off (a ++ b) τ τ2 := ⟨g.1.trans h.1, fun i hi => by
  rw [List.mem_append, not_or] at hi
  rw [g.2 i hi.2, h.2 i hi.1]⟩
theorem Off.set {i : Nat} {τ : L2.St} {v : Option V} : Off [i] τ (τ.set i v) := ⟨by simp, fun j hj => by
  rw [List.getElem?_set_ne]
  intro e; subst e; simp at hj⟩
def LG (K : PySem.W.Frag) (wk : Bool) (sl : List Nat) (w : D → En → (En → Prop) → Prop) : TG := fun v τ H Q => ∃ d σ Qd, RDw K H wk d v ∧ RS K H σ τ ∧ w d σ Qd ∧ ∀ σ' τ', Qd σ' → RS K H σ' τ' → Off sl τ τ' → Q τ' H
def LGs (K : PySem.W.Frag) (sl : List Nat) (w : List D → En → (En → Prop) → Prop) : TGs := fun vs τ H Q => ∃ ds σ Qd, RDs K H ds vs ∧ RS K H σ τ ∧ w ds σ Qd ∧ ∀ σ' τ', Qd σ' → RS K H σ' τ' → Off sl τ τ' → Q τ' H
structure WalkOk (K : PySem.W.Frag) (wk : Bool) (H0 : Hp) (J : It) (l : List D) (chk : Sto → Prop) : Prop where
  go : ∀ (F : Hp) (i : Nat) (d : D) (S : Sto) (H : Hp), l[i]? = some d → Rel K S F H → chk S → Ext H0 H → J.go i H ∧ ∀ x H', J.yld i H x H' → Ext H H' ∧ Rel K S F H' ∧ RDw K H' wk d x
  stop : ∀ (F : Hp) (S : Sto) (H : Hp), Rel K S F H → chk S → Ext H0 H → J.stop l.length H
def LI (K : PySem.W.Frag) (wk : Bool) (W : WX) (w : En → Sto → KI → KX → Prop) : TI := fun τ H R => ∃ σ S F Qd Xd, Rel K S F H ∧ RS K H σ τ ∧ w σ S Qd Xd ∧ (∀ l chk S' J H', Qd l chk S' → Ext H H' → Rel K S' F H' → WalkOk K wk H' J l chk → R J H') ∧ KXs K F H Xd (WE W τ)
structure Lk (K : PySem.W.Frag) (W : WX) (F H : Hp) (N : De) (D : Ends) : Prop where
  nx : ∀ σ S τ H', N.nx σ S → Ext H H' → Rel K S F H' → RS K H' σ τ → D.nx τ H'
  rt : ∀ d S v H', N.rt d S → Ext H H' → Rel K S F H' → RD K H' d v → D.rt v H'
  bk : ∀ σ S τ H', N.bk σ S → Ext H H' → Rel K S F H' → RS K H' σ τ → D.bk τ H'
  ct : ∀ σ S τ H', N.ct σ S → Ext H H' → Rel K S F H' → RS K H' σ τ → D.ct τ H'
  xr : ∀ x σ S τ c dx H', N.xr x σ S → Ext H H' → Rel K S F H' → RS K H' σ τ → RX K H' x c dx → W c dx τ H'
theorem Lk.ext {K : PySem.W.Frag} {W : WX} {F H H1 : Hp} {N : De} {D : Ends} (h : Lk K W F H N D) (e : Ext H H1) : Lk K W F H1 N D :=
  ⟨fun σ S τ H' q e' => h.nx σ S τ H' q (e.trans e'), fun d S v H' q e' => h.rt d S v H' q (e.trans e'), fun σ S τ H' q e' => h.bk σ S τ H' q (e.trans e'), fun σ S τ H' q e' => h.ct σ S τ H' q (e.trans e'),
   fun x σ S τ c dx H' q e' => h.xr x σ S τ c dx H' q (e.trans e')⟩
def LS (K : PySem.W.Frag) (W : WX) (w : De → En → Sto → Prop) : TS := fun D τ H => ∃ σ S F N, Rel K S F H ∧ RS K H σ τ ∧ w N σ S ∧ Lk K W F H N D
def LF (K : PySem.W.Frag) (g : FS) : Sp := fun vs H Q E => ∃ ds S F Qd Xd, Rel K S F H ∧ RDs K H ds vs ∧ g ds S Qd Xd ∧ KV K F H Qd Q ∧ KXs K F H Xd E
def cvOf (mg : Str → Option Value) (c : Str) : Value := match mg c with
  | some v => v
  | none => (bootBuiltins c).getD .none
structure SubC (K : PySem.W.Frag) (C : Addr) : Prop where
  ec : ExcC K C
  xf : XfC K C
  hno : PySem.W.findIn K (.ref C) "word" = some none
structure SubF (K : PySem.W.Frag) (mg : Str → Option Value) (x c : Str) (b : Bool) : Prop where
  nm : mg c = some (cvOf mg c) ∨ (mg c = none ∧ bootBuiltins c = some (cvOf mg c))
  rel : ∃ v, RelV v (cvOf mg c) ∧ ∀ u, RelV v u → u = cvOf mg c
  exm : PySem.W.exmOne K (.ref (gAd K x)) (cvOf mg c) = some b
  kit : PySem.W.kitOne K (.ref (gAd K x)) (cvOf mg c) = some b
  sc : SubC K (gAd K x)
structure ExcF (P : Program) (K : PySem.W.Frag) (mg : Str → Option Value) (x : Str) : Prop where
  mgx : mg x = some (.ref (gAd K x))
  ini : ∃ fI F, NfFacts P K mg (gAd K x) fI F ∧ PySem.W.findIn K (.ref (gAd K x)) "__init__" = some (some (.ref fI)) ∧ PySem.W.typeIn K (.ref fI) = some (.type "function")
structure Link (P : Program) (w : World) (K : PySem.W.Frag) (mg : Str → Option Value) (base : Heap) (T : Tb) (Γ : Str → FS) (G : Str → Option D) (k : Nat) : Prop where
  free : ∀ x : Str, T.free.contains x = true → mg x = none
  gcd : T.gcd = true → mg "gcd" = some (.builtin "math.gcd")
  glob : ∀ (x : Str) (d : D), T.glob.contains x = true → G x = some d → ∃ v u, mg x = some u ∧ RelV v u ∧ ∀ H, RD K H d v
  fns : ∀ x : Str, T.fns.contains x = true → ∃ f fd ps, mg x = some (.ref f) ∧ PySem.W.keepIn K (.ref f) = true ∧ Binds K fd ps [] ∧ FnOk P w K mg base (L2.CX P w) k f fd ps (LF K (Γ x))
  exc : ∀ x : Str, T.exc.contains x = true → ExcF P K mg x
  sub : ∀ (x c : Str) (b : Bool), (x, c, b) ∈ T.sub → SubF K mg x c b
structure Gd (T : Tb) (N : List Str) (Γ : Str → FS) (G : Str → Option D) (X : Cx) (W : WX) (sc : Scope) (own : Str → Bool) (k : Nat) : Prop where
  N_eq : X.N = N
  sc_eq : X.env.scope = sc
  nd : N.Nodup
  kd : sc.kind = .function
  room : Room k X.A
  k2 : 2 ≤ k
  calm : X.calm = true
  tk : Takes X W
  po : PassesOwn (model X.prog X.w) X.A X.env X.xe
  own : ∀ x, own x = true → X.fn x = true
  lk : Link X.prog X.w X.K X.mg X.base T Γ G k
structure Stk (X : Cx) : Prop where
  stk : X.stack = X.env :: X.outer
  frm : X.env.frame = some X.env.locals
end Mi
namespace Mi
open PySem PySem.Spec PyProof.Rows L2
variable {X : Cx} {T : Tb} {N : List Str} {Γ : Str → FS} {G : Str → Option D} {W : WX} {sc : Scope} {own : Str → Bool} {k : Nat}
theorem locIx_ok {fnc : Str → Bool} {x : Str} {i : Nat} (h : locIx N sc fnc x = some i) : N[i]? = some x ∧ (sc.names.lookup x = some .local ∨ (sc.names.lookup x = some .cell ∧ fnc x = true)) := by
  unfold locIx at h
  split at h
  case h_1 e => exact ⟨ixOf_get h, .inl e⟩
  case h_2 e =>
    split at h
    case isTrue f => exact ⟨ixOf_get h, .inr ⟨e, f⟩⟩
    case isFalse => cases h
  case h_3 => cases h
theorem cG_plain {n : Nat} {fnc : Str → Bool} {e : PySem.Expr} {t : Tg} (h : cG N n sc fnc e = some t) {env : Env} {es : List PySem.Expr} : assignEach (e :: es) env = (false, assign e env) :: assignEach es env := by
  cases n with
  | zero => simp [cG] at h
  | succ n => cases e <;> first | rfl | simp [cG] at h
theorem cGs_each {env : Env} : ∀ {n : Nat} {fnc : Str → Bool} {es : List PySem.Expr} {ts : Tgs}, cGs N n sc fnc es = some ts → (assignEach es env).length = es.length ∧ (assignEach es env).findIdx? (·.1) = none
  | 0, _, _, _, h => by simp [cGs] at h
  | _ + 1, _, [], _, h => ⟨rfl, rfl⟩
  | n + 1, fnc, e :: es, _, h => by
    simp only [cGs, bind, Option.bind_eq_some_iff, pure, Option.some.injEq] at h
    obtain ⟨t, h1, ts, h2, h3⟩ := h
    have ih := cGs_each (env := env) h2
    rw [cG_plain h1]
    exact ⟨by rw [List.length_cons, ih.1, List.length_cons], by rw [List.findIdx?_cons]; simp [ih.2]⟩
mutual
theorem sG (g : Gd T N Γ G X W sc own k) : ∀ (n : Nat) (e : PySem.Expr) (t : Tg) (wk : Bool), cG N n sc own e = some t → (wk = true → ∃ ts, t = .tup ts) → PG X e (LG X.K wk (tgSlots t) (wG t))
  | 0, _, _, _, h, _ => by simp [cG] at h
  | n + 1, e, t, wk, h, hw => by
    cases e with
    | Name x p =>
      simp only [cG, Option.map_eq_some_iff] at h
      obtain ⟨i, hi, rfl⟩ := h
      cases wk with
      | true => obtain ⟨ts, e⟩ := hw rfl; cases e
      | false =>
        obtain ⟨h1, h2⟩ := locIx_ok hi
        have hx : Loc X.env.scope x := by rw [g.sc_eq]; rcases h2 with h2 | h2; exact .inl h2; exact .inr h2.1
        have hf : X.fn x = true ∨ X.env.scope.names.lookup x = some .local := by
          rw [g.sc_eq]; rcases h2 with h2 | h2; exact .inr h2; exact .inl (g.own x h2.2)
        have q := pg_name (X := X) (pos := p) (i := i) (x := x) (by rw [g.N_eq]; exact g.nd) (by rw [g.N_eq]; exact h1) hx hf
        refine ⟨fun pins s τ H v u Q I r hq => q.run pins s τ H v u Q I r ?_⟩
        obtain ⟨d, σ, Qd, rd, rs, hw', fin⟩ := hq
        exact fin _ _ hw' (rs.set i rd) .set
    | Tuple es kk p =>
      simp only [cG, Option.map_eq_some_iff] at h
      obtain ⟨ts, hts, rfl⟩ := h
      have q := pg_tup (k := kk) (pos := p) g.calm (sGs g n es ts hts) (cGs_each hts).1 (cGs_each hts).2
      refine ⟨fun pins s τ H v u Q I r hq => q.run pins s τ H v u Q I r ?_⟩
      obtain ⟨d, σ, Qd, rd, rs, hw', fin⟩ := hq
      obtain ⟨l, a, vs, ed, ev, hs, hl⟩ : ∃ l a vs, d = .tup l ∧ v = .ref a ∧ SqT X.K H a vs ∧ RDs X.K H l vs := by
        cases wk with
        | true => exact rd
        | false =>
          have rd : RD X.K H d v := rd
          cases d with
          | tup l => obtain ⟨a, vs, e1, e2, e3⟩ := rd.tupi; exact ⟨l, a, vs, rfl, e1, e2, e3⟩
          | _ => exact (show False from hw').elim
      subst ed ev
      have hw' : wGs ts l σ Qd := hw'
      refine ⟨a, vs, rfl, hs, ?_, l, σ, Qd, hl, rs, hw', fin⟩
      rw [hl.length]
      exact wGs_len hts hw'
    | _ => simp [cG] at h
theorem sGs (g : Gd T N Γ G X W sc own k) : ∀ (n : Nat) (es : List PySem.Expr) (ts : Tgs), cGs N n sc own es = some ts → PGs X es (LGs X.K (tgsSlots ts) (wGs ts))
  | 0, _, _, h => by simp [cGs] at h
  | n + 1, es, ts, h => by
    cases es with
    | nil =>
      simp only [cGs, Option.some.injEq] at h
      subst h
      refine ⟨fun pins s τ H vs us Q I r hq => pgs_nil.run pins s τ H vs us Q I r ?_⟩
      obtain ⟨ds, σ, Qd, rd, rs, hw', fin⟩ := hq
      cases ds with
      | nil => rw [RDs] at rd; exact ⟨rd, fin _ _ hw' rs .refl⟩
      | cons d ds => exact (show False from hw').elim
    | cons e es =>
      simp only [cGs, bind, Option.bind_eq_some_iff, pure, Option.some.injEq] at h
      obtain ⟨t, h1, ts', h2, rfl⟩ := h
      have q := pgs_cons (sG g n e t false h1 (fun z => nomatch z)) (sGs g n es ts' h2) (by rw [cG_plain h1]; rfl)
      refine ⟨fun pins s τ H vs us Q I r hq => q.run pins s τ H vs us Q I r ?_⟩
      obtain ⟨ds, σ, Qd, rd, rs, hw', fin⟩ := hq
      cases ds with
      | nil => exact (show False from hw').elim
      | cons d ds =>
        rw [RDs] at rd
        obtain ⟨v, r', e1, r1, r2⟩ := rd
        have hw' : wG t d σ fun σ' => wGs ts' ds σ' Qd := hw'
        exact ⟨v, r', e1, d, σ, _, r1, rs, hw', fun σ' τ' q' rs' o => ⟨ds, σ', Qd, r2, rs', q', fun σ2 τ2 q2 r2 o2 => fin σ2 τ2 q2 r2 (o.trans o2)⟩⟩
theorem wGs_len : ∀ {n : Nat} {es : List PySem.Expr} {ts : Tgs} {l : List D} {σ : En} {Q : En → Prop}, cGs N n sc own es = some ts → wGs ts l σ Q → l.length = es.length
  | 0, _, _, _, _, _, h, _ => by simp [cGs] at h
  | n + 1, [], _, l, σ, Q, h, w => by
    simp only [cGs, Option.some.injEq] at h
    subst h
    cases l with
    | nil => rfl
    | cons d l => exact (show False from w).elim
  | n + 1, e :: es, _, l, σ, Q, h, w => by
    simp only [cGs, bind, Option.bind_eq_some_iff, pure, Option.some.injEq] at h
    obtain ⟨t, h1, ts', h2, rfl⟩ := h
    cases l with
    | nil => exact (show False from w).elim
    | cons d l =>
      have w : wG t d σ fun σ' => wGs ts' l σ' Q := w
      obtain ⟨σ', w'⟩ := wG_ex w
      rw [List.length_cons, List.length_cons, wGs_len h2 w']
theorem wG_ex : ∀ {t : Tg} {d : D} {σ : En} {Q : En → Prop}, wG t d σ Q → ∃ σ', Q σ'
  | .nm i, _, _, _, w => ⟨_, w⟩
  | .tup ts, d, σ, Q, w => by
    cases d with
    | tup l => exact wGs_ex (show wGs ts l σ Q from w)
    | _ => exact (show False from w).elim
theorem wGs_ex : ∀ {ts : Tgs} {l : List D} {σ : En} {Q : En → Prop}, wGs ts l σ Q → ∃ σ', Q σ'
  | .nil, l, σ, Q, w => by
    cases l with
    | nil => exact ⟨_, w⟩
    | cons d l => exact (show False from w).elim
  | .cons t ts, l, σ, Q, w => by
    cases l with
    | nil => exact (show False from w).elim
    | cons d l =>
      have w : wG t d σ fun σ' => wGs ts l σ' Q := w
      obtain ⟨σ', w'⟩ := wG_ex w
      exact wGs_ex w'
end
end Mi
namespace Mi
open PySem PySem.Spec PyProof.Rows L2
variable {X : Cx} {T : Tb} {N : List Str} {Γ : Str → FS} {G : Str → Option D} {W : WX} {sc : Scope} {own : Str → Bool} {k : Nat} {K : PySem.W.Frag} {F H0 : Hp}
theorem rdw {H : Hp} {d : D} {v : V} (h : RD K H d v) : RDw K H false d v := h
theorem walkL {a : Addr} {l : List D} : WalkOk K false H0 (Itl K a) l (fun S => S a = some (.lst l)) where
  go := fun F i d S H e rel chk ext => by
    obtain ⟨vs, h1, h2⟩ := rel.lst chk
    obtain ⟨v, e1, e2⟩ := h2.get e
    refine ⟨⟨vs, v, .of h1, e1⟩, fun x H' y => ?_⟩
    obtain ⟨rfl, y⟩ := y
    have := y vs (.of h1)
    rw [e1] at this
    cases this
    exact ⟨.refl, rel, e2⟩
  stop := fun F S H rel chk ext => by
    obtain ⟨vs, h1, h2⟩ := rel.lst chk
    exact ⟨vs, .of h1, by rw [h2.length]; exact Nat.le_refl _⟩
theorem walkR {a : Addr} {l : List D} : WalkOk K false H0 (Itl K a) l (fun S => S a = some (.rls l)) where
  go := fun F i d S H e rel chk ext => by
    obtain ⟨o, vs, h1, h2⟩ := rel.rls chk
    obtain ⟨v, e1, e2⟩ := h2.get e
    have hs : SqL K H a vs := .inl (.inr ⟨o, h1⟩)
    refine ⟨⟨vs, v, hs, e1⟩, fun x H' y => ?_⟩
    obtain ⟨rfl, y⟩ := y
    have := y vs hs
    rw [e1] at this
    cases this
    exact ⟨.refl, rel, e2⟩
  stop := fun F S H rel chk ext => by
    obtain ⟨o, vs, h1, h2⟩ := rel.rls chk
    exact ⟨vs, .inl (.inr ⟨o, h1⟩), by rw [h2.length]; exact Nat.le_refl _⟩
theorem walkT {a : Addr} {l : List D} {vs : List V} (hs : SqT K H0 a vs) (hl : RDs K H0 l vs) : WalkOk K false H0 (Itt K a) l (fun _ => True) where
  go := fun F i d S H e rel chk ext => by
    obtain ⟨v, e1, e2⟩ := hl.get e
    refine ⟨⟨vs, v, ext.sqT hs, e1⟩, fun x H' y => ?_⟩
    obtain ⟨rfl, y⟩ := y
    have := y vs (ext.sqT hs)
    rw [e1] at this
    cases this
    exact ⟨.refl, rel, e2.ext ext⟩
  stop := fun F S H rel chk ext => ⟨vs, ext.sqT hs, by rw [hl.length]; exact Nat.le_refl _⟩
theorem walkS {z : Str} (hz : PyData.strOk z = true) : WalkOk K false H0 (Its z) (z.cps.toList.map fun c => D.str ⟨#[c]⟩) (fun _ => True) where
  go := fun F i d S H e rel chk ext => by
    rw [List.getElem?_map, Option.map_eq_some_iff] at e
    obtain ⟨c, e1, e2⟩ := e
    subst e2
    have hi : i < z.cps.size := by simpa using (List.getElem?_eq_some_iff.mp e1).1
    refine ⟨hi, fun x H' y => ?_⟩
    obtain ⟨rfl, c', y1, rfl⟩ := y
    have : c' = c := by
      rw [Array.getElem?_toList] at e1
      rw [e1] at y1
      exact (Option.some.inj y1).symm
    subst this
    exact ⟨.refl, rel, rdw (.str <| strOk_sub hz fun d hd => by
      have : d = c' := by simpa using hd
      subst this
      exact List.mem_of_getElem? e1)⟩
  stop := fun F S H rel chk ext => by
    show z.cps.size ≤ _
    simp
theorem walkN {lo : Int} {n : Nat} : WalkOk K false H0 (Itr lo n) (rngD lo n) (fun _ => True) where
  go := fun F i d S H e rel chk ext => by
    unfold rngD at e
    rw [List.getElem?_map, Option.map_eq_some_iff] at e
    obtain ⟨j, e1, e2⟩ := e
    subst e2
    have hi : i < n := by simpa using (List.getElem?_eq_some_iff.mp e1).1
    rw [List.getElem?_range hi] at e1
    cases e1
    refine ⟨hi, fun x H' y => ?_⟩
    obtain ⟨rfl, rfl⟩ := y
    exact ⟨.refl, rel, rdw .int⟩
  stop := fun F S H rel chk ext => by
    show n ≤ _
    unfold rngD
    simp
def iOf (K : PySem.W.Frag) (te : TE) : TI := fun σ H R => te σ H fun x H1 => (∃ a, x = .ref a ∧ (∃ xs, SqL K H1 a xs) ∧ R (Itl K a) H1) ∨ (∃ a, x = .ref a ∧ (∃ xs, SqT K H1 a xs) ∧ R (Itt K a) H1) ∨ ∃ z, x = .str z ∧ R (Its z) H1
theorem pi_of {tg l : PySem.Expr} {tl : TE} (hl : PE X l tl) : PI X tg l (iOf X.K tl) := by
  refine ⟨fun pins s σ H R I h => ?_⟩
  refine thn (hl.run pins s σ H _ I h) fun v s1 ⟨x, H1, I1, r1, q1⟩ => ?_
  rcases q1 with ⟨a, e, ⟨xs, hq⟩, q⟩ | ⟨a, e, ⟨xs, hq⟩, q⟩ | ⟨z, e, q⟩
  · subst e
    cases r1
    obtain ⟨its, rv, p, hz⟩ := I1.list hq
    refine wpAny_pyIter_list p.isList ?_
    refine ⟨s1.heap.objs.size, [s1.heap.objs.size], _, _, H1, rfl, I1.kept (t' := s1.toks) fun b o e => Heap.get?_push_of_some _ e, turn_list a _, ⟨_, Heap.get?_push_size _ rfl, rfl, rfl⟩, fun b hb => ?_, q⟩
    have e : b = s1.heap.objs.size := by simpa using hb
    subst e
    exact I1.fpOk (Nat.le_refl _) (I1.hok.fresh (Nat.le_refl _))
  · subst e
    cases r1
    obtain ⟨its, rv, p, hz⟩ := I1.tuple hq
    refine wpAny_pyIter_tuple (show s1.heap.IsTuple a its.toArray from p) ?_
    refine ⟨s1.heap.objs.size, [s1.heap.objs.size], _, _, H1, rfl, I1.kept (t' := s1.toks) fun b o e => Heap.get?_push_of_some _ e, turn_tuple a _, ⟨_, Heap.get?_push_size _ rfl, rfl, rfl⟩, fun b hb => ?_, q⟩
    have e : b = s1.heap.objs.size := by simpa using hb
    subst e
    exact I1.fpOk (Nat.le_refl _) (I1.hok.fresh (Nat.le_refl _))
  · subst e
    obtain ⟨t, rfl⟩ := r1
    cases ha : z.cps.all (· < 128)
    · exact wpAny_pyIter_wide ha (pi_one (tk := s1.toks) I1 _ (turn_str _ z t "str_iterator" (.inr rfl)) ⟨_, Heap.get?_push_size _ rfl, rfl, rfl⟩ q)
    · exact wpAny_pyIter_ascii ha (pi_one (tk := s1.toks) I1 _ (turn_str _ z t "str_ascii_iterator" (.inl rfl)) ⟨_, Heap.get?_push_size _ rfl, rfl, rfl⟩ q)
theorem PI.imp {tg e : PySem.Expr} {t t' : TI} (h : PI X tg e t) (i : ∀ σ H Q, t' σ H Q → t σ H Q) : PI X tg e t' := ⟨fun pins s σ H Q I q => h.run pins s σ H Q I (i σ H Q q)⟩
theorem itR_of {d : D} {S : Sto} {Q : KI} {x : V} {H : Hp} {R : It → Hp → Prop} (rel : Rel K S F H) (rd : RD K H d x) (h : itR d S Q) (kr : ∀ l chk S' J H', Q l chk S' → Ext H H' → Rel K S' F H' → WalkOk K false H' J l chk → R J H') :
    (∃ a, x = .ref a ∧ (∃ xs, SqL K H a xs) ∧ R (Itl K a) H) ∨ (∃ a, x = .ref a ∧ (∃ xs, SqT K H a xs) ∧ R (Itt K a) H) ∨ ∃ z, x = .str z ∧ R (Its z) H := by
  cases d with
  | tup l =>
    obtain ⟨a, vs, e, hs, hl⟩ := rd.tupi
    exact .inr (.inl ⟨a, e, ⟨vs, hs⟩, kr _ _ _ _ _ h .refl rel (walkT hs hl)⟩)
  | str z =>
    obtain ⟨e, ok⟩ := rd.stri
    exact .inr (.inr ⟨z, e, kr _ _ _ _ _ h .refl rel (walkS ok)⟩)
  | ref a =>
    have e := rd.refi
    simp only [itR] at h
    split at h
    case h_1 l hl =>
      obtain ⟨vs, h1, h2⟩ := rel.lst hl
      exact .inl ⟨a, e, ⟨vs, .of h1⟩, kr _ _ _ _ _ h .refl rel walkL⟩
    case h_2 l hl =>
      obtain ⟨o, vs, h1, h2⟩ := rel.rls hl
      exact .inl ⟨a, e, ⟨vs, .inl (.inr ⟨o, h1⟩)⟩, kr _ _ _ _ _ h .refl rel walkR⟩
    case h_3 => exact h.elim
  | _ => exact (show False from h).elim
end Mi
namespace Mi
open PySem PySem.Spec PyProof.Rows L2
variable {X : Cx} {T : Tb} {N : List Str} {Γ : Str → FS} {G : Str → Option D} {W : WX} {sc : Scope} {own : Str → Bool} {k : Nat}
def plainX : PySem.Expr → Bool
  | .Starred .. => false | .Slice .. => false | .Set .. => false | .NamedExpr .. => false
  | _ => true
theorem cB_plain : ∀ {n : Nat} {op : PySem.BoolOp} {es : List PySem.Expr} {c : E}, cB T N n sc op es = some c → True := fun _ => trivial
theorem cE_plain {n : Nat} {e : PySem.Expr} {c : E} (h : cE T N n sc e = some c) : plainX e = true := by
  cases n with
  | zero => simp [cE] at h
  | succ n => cases e <;> first | rfl | simp [cE] at h
theorem plain_star {e : PySem.Expr} (h : plainX e = true) (es : List PySem.Expr) (env : Env) : starEach (e :: es) env = (false, eval e env) :: starEach es env := by
  cases e <;> first | rfl | simp [plainX] at h
theorem plain_ix {e : PySem.Expr} (h : plainX e = true) : PlainIx e := by
  intro o i
  cases e <;> first | rfl | simp [plainX] at h
theorem plain_fold {e : PySem.Expr} (h : plainX e = true) (env : Env) (x : Value) : foldedSetIterable e env x = pure x := by
  cases e <;> first | rfl | simp [plainX] at h
theorem plain_mark {e : PySem.Expr} (h : plainX e = true) (op : CmpOp) : behindInMarks op e = false := by
  cases e <;> first | rfl | simp [plainX] at h
theorem cEs_star {env : Env} {pos : Pos} : ∀ {n : Nat} {es : List PySem.Expr} {cs : Es}, cEs T N n sc es = some cs → ((backTo pos (starEach es env)).any (·.1)) = false
  | 0, _, _, h => by simp [cEs] at h
  | _ + 1, [], _, _ => rfl
  | n + 1, e :: es, _, h => by
    simp only [cEs, bind, Option.bind_eq_some_iff, pure, Option.some.injEq] at h
    obtain ⟨t, h1, ts, h2, h3⟩ := h
    have ih := cEs_star (env := env) (pos := pos) h2
    rw [plain_star (cE_plain h1)]
    unfold backTo at ih ⊢
    rw [List.map_cons, List.any_cons, ih]
    rfl
theorem okN_1 {x : Str} (h : okN x = true) : (x == ("__debug__" : Str)) = false ∧ (x == ("__classdict__" : Str)) = false ∧ x ≠ ("__name__" : Str) := by
  unfold okN at h
  simp only [Bool.and_eq_true, Bool.not_eq_true'] at h
  refine ⟨h.1.1, h.1.2, fun e => ?_⟩
  have := h.2
  rw [e] at this
  simp at this
theorem visIx_ok {x : Str} {i : Nat} (h : visIx N sc x = some i) : N[i]? = some x ∧ Vis sc x ∧ okN x = true := by
  unfold visIx at h
  split at h
  case h_1 e => split at h; case isTrue f => exact ⟨ixOf_get h, .inl e, f⟩
                case isFalse => cases h
  case h_2 e => split at h; case isTrue f => exact ⟨ixOf_get h, .inr (.inl e), f⟩
                case isFalse => cases h
  case h_3 e => split at h; case isTrue f => exact ⟨ixOf_get h, .inr (.inr e), f⟩
                case isFalse => cases h
  case h_4 => cases h
theorem glB_ok {x : Str} (h : glB sc x = true) : sc.names.lookup x = some .globalImplicit ∧ okN x = true := by
  unfold glB at h
  rw [Bool.and_eq_true, decide_eq_true_eq] at h
  exact h
theorem Gd.gl (g : Gd T N Γ G X W sc own k) {x : Str} (h : glB sc x = true) : Gl X x := by
  have := (glB_ok h).1
  unfold Gl
  rw [← g.sc_eq] at this
  exact this
theorem LE.mk {K : PySem.W.Frag} {w : WE1} {τ : L2.St} {H : Hp} {Q : VK} {σ : En} {S : Sto} {F : Hp} {Qd : KD} {Xd : KX} (rel : Rel K S F H) (rs : RS K H σ τ) (h : w σ S Qd Xd) (kv : KV K F H Qd Q) (kx : KXs K F H Xd (WE W τ)) : LE K W w τ H Q :=
  ⟨σ, S, F, Qd, Xd, rel, rs, h, kv, kx⟩
theorem le_op {K : PySem.W.Frag} {w1 w2 : WE1} {r : D → D → Sto → KD → Prop} {τ : L2.St} {H : Hp} {Q : VK} (h : LE K W (fun σ S Q X => w1 σ S (fun x S1 => w2 σ S1 (fun y S2 => r x y S2 Q) X) X) τ H Q) : tOp (LO K r) (LE K W w1) (LE K W w2) τ H Q := by
  obtain ⟨σ, S, F, Qd, Xd, rel, rs, hw, kv, kx⟩ := h
  refine ⟨σ, S, F, _, Xd, rel, rs, hw, fun d S1 x H1 q1 e1 rel1 rd1 => ?_, kx⟩
  refine ⟨σ, S1, F, _, Xd, rel1, rs.ext e1, q1, fun d2 S2 y H2 q2 e2 rel2 rd2 => ?_, kx.ext e1⟩
  exact ⟨d, d2, S2, F, Qd, rel2, RD.ext e2 _ _ rd1, rd2, q2, kv.ext (e1.trans e2)⟩
theorem le_cmp {K : PySem.W.Frag} {w1 w2 : WE1} {r : D → D → Sto → (Bool → Prop) → Prop} {τ : L2.St} {H : Hp} {Q : VK} (h : LE K W (fun σ S Q X => w1 σ S (fun x S1 => w2 σ S1 (fun y S2 => r x y S2 fun b => Q (.bl b) S2) X) X) τ H Q) : tOp (LB K r) (LE K W w1) (LE K W w2) τ H Q := by
  obtain ⟨σ, S, F, Qd, Xd, rel, rs, hw, kv, kx⟩ := h
  refine ⟨σ, S, F, _, Xd, rel, rs, hw, fun d S1 x H1 q1 e1 rel1 rd1 => ?_, kx⟩
  refine ⟨σ, S1, F, _, Xd, rel1, rs.ext e1, q1, fun d2 S2 y H2 q2 e2 rel2 rd2 => ?_, kx.ext e1⟩
  exact ⟨d, d2, S2, F, _, rel2, RD.ext e2 _ _ rd1, rd2, q2, fun b qb => kv _ _ _ _ qb (e1.trans e2) rel2 .bl⟩
theorem lt_cmp {K : PySem.W.Frag} {w1 w2 : WE1} {r : D → D → Sto → (Bool → Prop) → Prop} {τ : L2.St} {H : Hp} {Q : Bool → Hp → Prop} (h : LT K W (fun σ S Q X => w1 σ S (fun x S1 => w2 σ S1 (fun y S2 => r x y S2 fun b => Q b S2) X) X) τ H Q) : tTest (tOp (LB K r) (LE K W w1) (LE K W w2)) τ H Q := by
  obtain ⟨σ, S, F, Qd, Xd, rel, rs, hw, kv, kx⟩ := h
  refine ⟨σ, S, F, _, Xd, rel, rs, hw, fun d S1 x H1 q1 e1 rel1 rd1 => ?_, kx⟩
  refine ⟨σ, S1, F, _, Xd, rel1, rs.ext e1, q1, fun d2 S2 y H2 q2 e2 rel2 rd2 => ?_, kx.ext e1⟩
  exact ⟨d, d2, S2, F, _, rel2, RD.ext e2 _ _ rd1, rd2, q2, fun b qb => ⟨b, rfl, kv _ _ _ qb (e1.trans e2) rel2⟩⟩
theorem la_args {K : PySem.W.Frag} {w : En → Sto → (List D → Sto → Prop) → KX → Prop} {r : List D → Sto → KD → Prop} {τ : L2.St} {H : Hp} {Q : VK} (h : LE K W (fun σ S Q X => w σ S (fun ds S1 => r ds S1 Q) X) τ H Q) : tCB (LC K r) (LA K W w) τ H Q := by
  obtain ⟨σ, S, F, Qd, Xd, rel, rs, hw, kv, kx⟩ := h
  exact ⟨σ, S, F, _, Xd, rel, rs, hw, fun ds S1 vs H1 q1 e1 rel1 rd1 => ⟨ds, S1, F, Qd, rel1, rd1, q1, kv.ext e1⟩, kx⟩
theorem la_call {K : PySem.W.Frag} {w : En → Sto → (List D → Sto → Prop) → KX → Prop} {gf : FS} {τ : L2.St} {H : Hp} {Q : VK} (h : LE K W (fun σ S Q X => w σ S (fun ds S1 => gf ds S1 Q X) X) τ H Q) : tCallS (LF K gf) (WE W) (LA K W w) τ H Q := by
  obtain ⟨σ, S, F, Qd, Xd, rel, rs, hw, kv, kx⟩ := h
  exact ⟨σ, S, F, _, Xd, rel, rs, hw, fun ds S1 vs H1 q1 e1 rel1 rd1 => ⟨ds, S1, F, Qd, Xd, rel1, rd1, q1, kv.ext e1, kx.ext e1⟩, kx⟩
theorem la_cons {K : PySem.W.Frag} {w1 : WE1} {w : En → Sto → (List D → Sto → Prop) → KX → Prop} {τ : L2.St} {H : Hp} {Q : List V → Hp → Prop} (h : LA K W (fun σ S Q X => w1 σ S (fun d S1 => w σ S1 (fun ds S2 => Q (d :: ds) S2) X) X) τ H Q) : tCons (LE K W w1) (LA K W w) τ H Q := by
  obtain ⟨σ, S, F, Qd, Xd, rel, rs, hw, kv, kx⟩ := h
  refine ⟨σ, S, F, _, Xd, rel, rs, hw, fun d S1 x H1 q1 e1 rel1 rd1 => ?_, kx⟩
  exact ⟨σ, S1, F, _, Xd, rel1, rs.ext e1, q1, fun ds S2 vs H2 q2 e2 rel2 rd2 => kv _ _ _ _ q2 (e1.trans e2) rel2 (.cons (RD.ext e2 _ _ rd1) rd2), kx.ext e1⟩
theorem la_nil {K : PySem.W.Frag} {τ : L2.St} {H : Hp} {Q : List V → Hp → Prop} (h : LA K W (fun _ S Q _ => Q [] S) τ H Q) : tNil τ H Q := by
  obtain ⟨σ, S, F, Qd, Xd, rel, rs, hw, kv, kx⟩ := h
  exact kv _ _ _ _ hw .refl rel .nil
theorem lt_tru {K : PySem.W.Frag} {w : WE1} {τ : L2.St} {H : Hp} {Q : Bool → Hp → Prop} (h : LT K W (fun σ S Q X => w σ S (fun d S' => truR d S' fun b => Q b S') X) τ H Q) : LE K W w τ H fun x H' => ∃ k, TruV K x H' k ∧ Q k H' := by
  obtain ⟨σ, S, F, Qd, Xd, rel, rs, hw, kv, kx⟩ := h
  refine ⟨σ, S, F, _, Xd, rel, rs, hw, fun d S1 x H1 q1 e1 rel1 rd1 => ?_, kx⟩
  exact tru_conv ⟨d, S1, F, _, rel1, rd1, q1, fun b qb => kv _ _ _ qb e1 rel1⟩
theorem LT.imp {K : PySem.W.Frag} {w w' : En → Sto → (Bool → Sto → Prop) → KX → Prop} {τ : L2.St} {H : Hp} {Q : Bool → Hp → Prop} (h : LT K W w τ H Q) (i : ∀ σ S Q X, w σ S Q X → w' σ S Q X) : LT K W w' τ H Q := by
  obtain ⟨σ, S, F, Qd, Xd, rel, rs, hw, kv, kx⟩ := h
  exact ⟨σ, S, F, Qd, Xd, rel, rs, i _ _ _ _ hw, kv, kx⟩
theorem LE.imp {K : PySem.W.Frag} {w w' : WE1} {τ : L2.St} {H : Hp} {Q : VK} (h : LE K W w τ H Q) (i : ∀ σ S Q X, w σ S Q X → w' σ S Q X) : LE K W w' τ H Q := by
  obtain ⟨σ, S, F, Qd, Xd, rel, rs, hw, kv, kx⟩ := h
  exact ⟨σ, S, F, Qd, Xd, rel, rs, i _ _ _ _ hw, kv, kx⟩
theorem pe_callS0 {f : Addr} {fd : FuncData} {ps : List Str} {sp : Sp} {E : L2.St → XK} {x : Str} {p pos : Pos} {CX : CXT} (F : FnOk X.prog X.w X.K X.mg X.base CX k f fd ps sp) (hr : Room k X.A) (hg : Gl X x) (hm : X.mg x = some (.ref f)) (hk : PySem.W.keepIn X.K (.ref f) = true) (hb : Binds X.K fd ps []) (hx : ∀ σ, PassesAt CX X σ (E σ))
    (hdb : (x == ("__debug__" : Str)) = false) : PE X (.Call (.Name x p) [] [] pos) (tCallS sp E tNil) := by
  refine ⟨fun pins s σ H Q I h => ?_⟩
  refine wpAny_Call_Name_kw (ld_glob I hg hm ?_ hdb)
  exact PySem.W.callWith_K0 I.kIn hk (run_fnS (us := []) F hr hb (hx σ) I .nil h)
def tyS : Ty → String
  | .int => "int" | .bool => "bool" | .str => "str" | .tuple => "tuple" | .list => "list"
theorem isT_ok {K : PySem.W.Frag} {S : Sto} {F H : Hp} {d : D} {v : V} {t : Ty} {b : Bool} (rel : Rel K S F H) (rd : RD K H d v) (h : isT t d S = some b) : ∃ ty, TyX K H v ty ∧ PySem.W.kitOne K ty (.type (tyS t)) = some b := by
  cases d with
  | non =>
    have e := rd.noni; subst e
    refine ⟨_, .base .non, kit_ty ?_⟩
    cases t <;> simp only [isT, Option.some.injEq] at h <;> subst h <;> decide +kernel
  | bl c =>
    have e := rd.bli; subst e
    refine ⟨_, .base (.bl c), kit_ty ?_⟩
    cases t <;> simp only [isT, Option.some.injEq] at h <;> subst h <;> decide +kernel
  | int i =>
    have e := rd.inti; subst e
    refine ⟨_, .base (.int i), kit_ty ?_⟩
    cases t <;> simp only [isT, Option.some.injEq] at h <;> subst h <;> decide +kernel
  | str z =>
    obtain ⟨e, _⟩ := rd.stri; subst e
    refine ⟨_, .base (.str z), kit_ty ?_⟩
    cases t <;> simp only [isT, Option.some.injEq] at h <;> subst h <;> decide +kernel
  | tup l =>
    obtain ⟨a, vs, e, hs, hl⟩ := rd.tupk; subst e
    have ty : TyX K H (.ref a) (.type "tuple") := by
      rcases hs with ⟨o, h1, h2⟩ | ⟨o, its, n, h1, h2, _⟩
      · exact .fTuple h1
      · exact .kTuple h1 h2
    refine ⟨_, ty, kit_ty ?_⟩
    cases t <;> simp only [isT, Option.some.injEq] at h <;> subst h <;> decide +kernel
  | rl l => cases t <;> simp [isT] at h
  | ref a =>
    have e := rd.refi; subst e
    simp only [isT] at h
    split at h
    case h_1 l hl =>
      obtain ⟨vs, h1, h2⟩ := rel.lst hl
      simp only [Option.some.injEq] at h
      refine ⟨_, .base (.lst h1), kit_ty ?_⟩
      cases t <;> subst h <;> decide +kernel
    case h_2 l hl =>
      obtain ⟨vs, h1, h2⟩ := rel.dct hl
      simp only [Option.some.injEq] at h
      refine ⟨_, .base (.dK h1), kit_ty ?_⟩
      cases t <;> subst h <;> decide +kernel
    case h_3 => cases h
def isTyB : Bl → Bool
  | .int => true | .str => true | .tuple => true | .list => true | .dict => true
  | .len => false | .abs => false | .max => false | .min => false | .sum => false | .all => false | .any => false | .sorted => false | .gcd => false
theorem ite_some {β : Type} {c : Prop} [Decidable c] {a b : β} {r : Option β} (h : (if c then some a else r) = some b) : (c ∧ a = b) ∨ r = some b := by
  by_cases hc : c
  · rw [if_pos hc] at h; exact .inl ⟨hc, Option.some.inj h⟩
  · rw [if_neg hc] at h; exact .inr h
theorem bltOf_boot {x : Str} {b : Bl} (h : bltOf x = some b) : bootBuiltins x = some (blV b) := by
  unfold bltOf at h
  rcases ite_some h with ⟨rfl, rfl⟩ | h; exact boot_len
  rcases ite_some h with ⟨rfl, rfl⟩ | h; exact (by decide +kernel : bootBuiltins "abs" = some (.builtin "abs"))
  rcases ite_some h with ⟨rfl, rfl⟩ | h; exact (by decide +kernel : bootBuiltins "max" = some (.builtin "max"))
  rcases ite_some h with ⟨rfl, rfl⟩ | h; exact (by decide +kernel : bootBuiltins "min" = some (.builtin "min"))
  rcases ite_some h with ⟨rfl, rfl⟩ | h; exact (by decide +kernel : bootBuiltins "sum" = some (.builtin "sum"))
  rcases ite_some h with ⟨rfl, rfl⟩ | h; exact (by decide +kernel : bootBuiltins "all" = some (.builtin "all"))
  rcases ite_some h with ⟨rfl, rfl⟩ | h; exact (by decide +kernel : bootBuiltins "any" = some (.builtin "any"))
  rcases ite_some h with ⟨rfl, rfl⟩ | h; exact (by decide +kernel : bootBuiltins "int" = some (.type "int"))
  rcases ite_some h with ⟨rfl, rfl⟩ | h; exact (by decide +kernel : bootBuiltins "tuple" = some (.type "tuple"))
  rcases ite_some h with ⟨rfl, rfl⟩ | h; exact (by decide +kernel : bootBuiltins "list" = some (.type "list"))
  rcases ite_some h with ⟨rfl, rfl⟩ | h; exact (by decide +kernel : bootBuiltins "dict" = some (.type "dict"))
  rcases ite_some h with ⟨rfl, rfl⟩ | h; exact (by decide +kernel : bootBuiltins "sorted" = some (.builtin "sorted"))
  cases h
theorem blV_kind : ∀ b : Bl, (∃ id, blV b = .builtin id) ∨ ∃ id, blV b = .type id
  | .len => .inl ⟨_, rfl⟩ | .abs => .inl ⟨_, rfl⟩ | .max => .inl ⟨_, rfl⟩ | .min => .inl ⟨_, rfl⟩ | .sum => .inl ⟨_, rfl⟩ | .all => .inl ⟨_, rfl⟩ | .any => .inl ⟨_, rfl⟩ | .sorted => .inl ⟨_, rfl⟩ | .gcd => .inl ⟨_, rfl⟩
  | .int => .inr ⟨_, rfl⟩ | .str => .inr ⟨_, rfl⟩ | .tuple => .inr ⟨_, rfl⟩ | .list => .inr ⟨_, rfl⟩ | .dict => .inr ⟨_, rfl⟩
theorem pe_blt {x : Str} {b : Bl} {r : List V → Hp → VK → Prop} {e : PySem.Expr} {es : List PySem.Expr} {t : TA} {p pos : Pos} (h : bltOf x = some b) (hc : CallR X (blV b) r) (hg : Gl X x) (hm : X.mg x = none) (ha : PA X (e :: es) t) (ok : okN x = true)
    (he : starEach (e :: es) X.env = (false, eval e X.env) :: starEach es X.env) (hpl : (backTo pos (starEach es X.env)).any (·.1) = false) : PE X (.Call (.Name x p) (e :: es) [] pos) (tCB r t) := by
  have hv := bltOf_boot h
  obtain ⟨n1, n2, n3⟩ := okN_1 ok
  rcases blV_kind b with ⟨id, z⟩ | ⟨id, z⟩
  · rw [z] at hc hv
    exact pe_callB hc hg hm hv ha n3 n1 he hpl
  · rw [z] at hc hv
    exact pe_callTy hc hg hm hv ha n3 n1 he hpl
end Mi
namespace Mi
open PySem PySem.Spec PyProof.Rows L2
variable {K : PySem.W.Frag} {W : WX}
theorem Rel.lessF {S : Sto} {F F' H : Hp} (r : Rel K S F' H) (h : ∀ a o, F a = some o → F' a = some o) : Rel K S F H := ⟨r.cell, fun a o e => r.frm a o (h a o e), fun a o e => r.sep a o (h a o e)⟩
theorem upd_sub {F : Hp} {p : Addr} {o : HO} (h : F p = none) : ∀ a u, F a = some u → L2.upd F p o a = some u := fun a u e => by rw [upd_ne (ne_of_none e h)]; exact e
theorem Rel.frame {S : Sto} {F H : Hp} {p : Addr} {xs ys : List V} (r : Rel K S (L2.upd F p (.lst xs)) H) : Ext H (L2.upd H p (.lst ys)) ∧ Rel K S (L2.upd F p (.lst ys)) (L2.upd H p (.lst ys)) := by
  have hp : H p = some (.lst xs) := r.frm p _ upd_same
  have sp : S p = none := r.sep p _ upd_same
  have x : Ext H (L2.upd H p (.lst ys)) := .write hp (fun _ z => nomatch z) fun _ _ z => nomatch z
  refine ⟨x, fun a c q => ?_, fun a o q => ?_, fun a o q => ?_⟩
  · have ne : a ≠ p := fun z => by subst z; rw [sp] at q; cases q
    exact (r.cell a c q).ext x (upd_ne ne)
  · by_cases ha : a = p
    · subst ha; rw [upd_same] at q ⊢; exact q
    · rw [upd_ne ha] at q ⊢
      exact r.frm a o (by rw [upd_ne ha]; exact q)
  · by_cases ha : a = p
    · subst ha; exact sp
    · rw [upd_ne ha] at q
      exact r.sep a o (by rw [upd_ne ha]; exact q)
theorem Rel.hide {S : Sto} {F H : Hp} {p : Addr} {o : HO} (r : Rel K S F H) (e : H p = none) : Rel K S (L2.upd F p o) (L2.upd H p o) := by
  have q := r.tup (o := o) e
  refine ⟨q.cell, fun a u h => ?_, fun a u h => ?_⟩
  · by_cases ha : a = p
    · subst ha; rw [upd_same] at h ⊢; exact h
    · rw [upd_ne ha] at h; exact q.frm a u h
  · by_cases ha : a = p
    · subst ha; exact r.free e
    · rw [upd_ne ha] at h; exact r.sep a u h
theorem Rel.show {S : Sto} {F H : Hp} {p : Addr} {vs : List V} {l : List D} (r : Rel K S (L2.upd F p (.lst vs)) H) (f : F p = none) (h : RDs K H l vs) : Rel K (S.upd p (.lst l)) F H := by
  refine ⟨fun a c q => ?_, fun a o q => r.frm a o (upd_sub f a o q), fun a o q => ?_⟩
  · by_cases ha : a = p
    · subst ha; rw [Sto.upd_same] at q; cases q; exact ⟨vs, r.frm _ _ upd_same, h⟩
    · rw [Sto.upd_ne ha] at q; exact r.cell a c q
  · have ha : a ≠ p := fun z => by subst z; rw [f] at q; cases q
    rw [Sto.upd_ne ha]
    exact r.sep a o (upd_sub f a o q)
def LL (K : PySem.W.Frag) (W : WX) (w : En → Sto → (List D → Sto → Prop) → KX → Prop) : TE := fun τ H Q => ∃ σ S F Ql Xd, Rel K S F H ∧ RS K H σ τ ∧ w σ S Ql Xd ∧
  (∀ ds S' a vs H', Ql ds S' → Ext H H' → F a = none → Rel K S' (L2.upd F a (.lst vs)) H' → RDs K H' ds vs → Q (.ref a) H') ∧ KXs K F H Xd (WE W τ)
theorem wipe_len (σ : L2.St) : ∀ vs : List Nat, (wipe σ vs).length = σ.length := wipe_length σ
theorem wipe_get (σ : L2.St) (i : Nat) : ∀ vs : List Nat, (wipe σ vs)[i]? = if i ∈ vs ∧ i < σ.length then some none else σ[i]?
  | [] => by simp [wipe]
  | v :: vs => by
    unfold wipe
    by_cases hv : v = i
    · subst hv
      by_cases hl : v < σ.length
      · rw [List.getElem?_set_self (by rw [wipe_len]; exact hl), if_pos ⟨List.mem_cons_self .., hl⟩]
      · rw [if_neg (fun z => hl z.2), List.getElem?_eq_none (by rw [List.length_set, wipe_len]; omega), List.getElem?_eq_none (by omega)]
    · rw [List.getElem?_set_ne hv, wipe_get σ i vs]
      simp only [List.mem_cons]
      have : i ≠ v := fun e => hv e.symm
      simp [this]
theorem wipe_off {τ τ' : L2.St} {sl vs : List Nat} (h : Off sl τ τ') (hs : ∀ i ∈ sl, i ∈ vs) : wipe τ' vs = wipe τ vs := by
  refine List.ext_getElem? fun i => ?_
  rw [wipe_get, wipe_get, h.1]
  by_cases hi : i ∈ vs ∧ i < τ.length
  · rw [if_pos hi, if_pos hi]
  · rw [if_neg hi, if_neg hi]
    by_cases h2 : i ∈ vs
    · have : ¬ i < τ.length := fun z => hi ⟨h2, z⟩
      have e1 := h.1
      rw [List.getElem?_eq_none (by omega), List.getElem?_eq_none (by omega)]
    · exact h.2 i fun z => h2 (hs i z)
theorem wipe_wipe (τ : L2.St) (vs : List Nat) : wipe (wipe τ vs) vs = wipe τ vs := by
  refine List.ext_getElem? fun i => ?_
  rw [wipe_get, wipe_get, wipe_len]
  by_cases hi : i ∈ vs ∧ i < τ.length
  · rw [if_pos hi, if_pos hi]
  · rw [if_neg hi, if_neg hi]
theorem RS.wipe {H : Hp} {σ : En} {τ : L2.St} (r : RS K H σ τ) : ∀ vs : List Nat, RS K H (wipeD σ vs) (L2.wipe τ vs)
  | [] => r
  | v :: vs => (RS.wipe r vs).unset v
abbrev W0 : WX := fun _ _ _ _ => False
theorem lc_conv {b : Bool} {wi : En → Sto → KI → KX → Prop} {tg : Tg} {wc : En → Sto → (Bool → Sto → Prop) → KX → Prop} {we : WE1} {vs : List Nat} {τ : L2.St} {H : Hp} {Q : VK} (hs : ∀ i ∈ tgSlots tg, i ∈ vs)
    (h : LL K W (fun σ S Q X => wi σ S (fun l chk S1 => l.length ≤ sizeLine ∧ cmpL tg (fun σ' S' Q' => wc σ' S' Q' fun _ _ => False) (fun σ' S' Q' => we σ' S' Q' fun _ _ => False) chk l (wipeD σ vs) S1 Q) X) τ H Q) :
    tLc (LI K b W wi) (LG K b (tgSlots tg) (wG tg)) (LT K W0 wc) (LE K W0 we) vs τ H Q := by
  obtain ⟨σ, S, F, Ql, Xd, rel, rs, hw, fin, kx⟩ := h
  refine ⟨σ, S, F, _, Xd, rel, rs, hw, fun l chk S1 J H1 ⟨hz, q⟩ e1 rel1 wk D hD => ?_, kx⟩
  have fD : F D = none := rel1.freeF hD
  refine ⟨fun i m H2 => i ≤ l.length ∧ m = l.length - i ∧ ∃ S2 ws acc, Ext H1 H2 ∧ Rel K S2 (L2.upd F D (.lst ws)) H2 ∧ RDs K H2 acc ws ∧ acc.length ≤ i ∧
    cmpL tg (fun σ' S' Q' => wc σ' S' Q' fun _ _ => False) (fun σ' S' Q' => we σ' S' Q' fun _ _ => False) chk (l.drop i) (wipeD σ vs) S2 (fun r S' => Ql (acc ++ r) S'), ?_, ?_⟩
  · exact ⟨l.length - 0, Nat.zero_le _, rfl, S1, [], [], .new hD, rel1.hide hD, .nil, Nat.le_refl _, q⟩
  rintro i m H2 ⟨hi, rfl, S2, ws, acc, x2, rel2, rd2, hacc, q2⟩
  by_cases hl : i < l.length
  · refine .inr ?_
    have hd : l[i]? = some l[i] := by simp [hl]
    rw [List.drop_eq_getElem_cons hl] at q2
    obtain ⟨hchk, q2⟩ : chk S2 ∧ wG tg l[i] (wipeD σ vs) fun σ' => wc σ' S2 (fun b S3 => if b = true then we σ' S3 (fun v S4 => cmpL tg (fun σ' S' Q' => wc σ' S' Q' fun _ _ => False) (fun σ' S' Q' => we σ' S' Q' fun _ _ => False) chk (l.drop (i + 1)) (wipeD σ vs) S4 (fun rr S' => Ql (acc ++ (v :: rr)) S')) (fun _ _ => False)
      else cmpL tg (fun σ' S' Q' => wc σ' S' Q' fun _ _ => False) (fun σ' S' Q' => we σ' S' Q' fun _ _ => False) chk (l.drop (i + 1)) (wipeD σ vs) S3 (fun rr S' => Ql (acc ++ rr) S')) (fun _ _ => False) := q2
    obtain ⟨go, yl⟩ := wk.go _ i _ S2 H2 hd rel2 hchk x2
    refine ⟨go, fun H' => ∃ m', m' < l.length - i ∧ (i + 1 ≤ l.length ∧ m' = l.length - (i + 1) ∧ ∃ S2 ws acc, Ext H1 H' ∧ Rel K S2 (L2.upd F D (.lst ws)) H' ∧ RDs K H' acc ws ∧ acc.length ≤ i + 1 ∧
      cmpL tg (fun σ' S' Q' => wc σ' S' Q' fun _ _ => False) (fun σ' S' Q' => we σ' S' Q' fun _ _ => False) chk (l.drop (i + 1)) (wipeD σ vs) S2 (fun r S' => Ql (acc ++ r) S')), fun H' z => z, fun x H3 y => ?_⟩
    obtain ⟨x3, rel3, rx⟩ := yl x H3 y
    refine ⟨l[i], wipeD σ vs, _, rx, (rs.ext ((e1.trans x2).trans x3)).wipe vs, q2, fun σ3 τ3 q3 rs3 off => ⟨(wipe_off off hs).trans (wipe_wipe τ vs), ?_⟩⟩
    refine ⟨σ3, S2, _, _, _, rel3, rs3, q3, fun b S4 H4 q4 e4 rel4 => ?_, .no⟩
    cases b with
    | false =>
      simp only [Bool.false_eq_true, if_false] at q4 ⊢
      exact ⟨l.length - (i + 1), by omega, hl, rfl, S4, ws, acc, (x2.trans x3).trans e4, rel4, rd2.ext (x3.trans e4), by omega, q4⟩
    | true =>
      simp only [if_true] at q4 ⊢
      refine ⟨σ3, S4, _, _, _, rel4, rs3.ext e4, q4, fun d S5 y5 H5 q5 e5 rel5 rd5 => ?_, .no⟩
      have hD5 : H5 D = some (.lst ws) := rel5.frm D _ upd_same
      have rl : ws.length = acc.length := rd2.length
      obtain ⟨x6, rel6⟩ := rel5.frame (ys := ws ++ [y5])
      refine ⟨ws, hD5, by omega, l.length - (i + 1), by omega, hl, rfl, S5, ws ++ [y5], acc ++ [d], (((x2.trans x3).trans e4).trans e5).trans x6, rel6, ?_, by simp; omega, ?_⟩
      · exact (rd2.ext (((x3.trans e4).trans e5).trans x6)).append (.cons (RD.ext x6 _ _ rd5) .nil)
      · simpa using q5
  · have e : i = l.length := by omega
    subst e
    rw [List.drop_length] at q2
    obtain ⟨hchk, q2⟩ : chk S2 ∧ Ql (acc ++ []) S2 := q2
    rw [List.append_nil] at q2
    exact .inl ⟨wk.stop _ S2 H2 rel2 hchk x2, fin acc S2 D ws H2 q2 (e1.trans x2) fD rel2 rd2⟩
end Mi
namespace Mi
open PySem PySem.Spec PyProof.Rows L2
variable (T : Tb) (N : List Str) (Γ : Str → FS) (G : Str → Option D) (k : Nat)
def SE (n : Nat) : Prop := ∀ (X : Cx) (W : WX) (sc : Scope) (own : Str → Bool), Gd T N Γ G X W sc own k → ∀ (e : PySem.Expr) (c : E), cE T N n sc e = some c → PE X e (LE X.K W (wE Γ G c))
def ST (n : Nat) : Prop := ∀ (X : Cx) (W : WX) (sc : Scope) (own : Str → Bool), Gd T N Γ G X W sc own k → ∀ (e : PySem.Expr) (c : E), cE T N n sc e = some c → PT X e (LT X.K W (wT Γ G c))
def SB (n : Nat) : Prop := ∀ (X : Cx) (W : WX) (sc : Scope) (own : Str → Bool), Gd T N Γ G X W sc own k → ∀ (op : PySem.BoolOp) (es : List PySem.Expr) (c : E) (pos : Pos), cB T N n sc op es = some c → PE X (.BoolOp op es pos) (LE X.K W (wE Γ G c)) ∧ PW X (.BoolOp op es pos) (LT X.K W (wT Γ G c))
def SA (n : Nat) : Prop := ∀ (X : Cx) (W : WX) (sc : Scope) (own : Str → Bool), Gd T N Γ G X W sc own k → ∀ (es : List PySem.Expr) (cs : Es), cEs T N n sc es = some cs → PA X es (LA X.K W (wEs Γ G cs))
def SO (n : Nat) : Prop := ∀ (X : Cx) (W : WX) (sc : Scope) (own : Str → Bool), Gd T N Γ G X W sc own k → ∀ (e : Option PySem.Expr) (c : Eo), cO T N n sc e = some c → PO X e (LOp X.K W (wO Γ G c))
def wkI : I → Bool
  | .of _ => false | .rng1 _ => false | .rng2 _ _ => false | .rng3 _ _ _ => false | .rev _ => false | .enum _ => true | .zip _ _ => true | .items _ => true
def SI (n : Nat) : Prop := ∀ (X : Cx) (W : WX) (sc : Scope) (own : Str → Bool), Gd T N Γ G X W sc own k → ∀ (tg e : PySem.Expr) (c : I), cI T N n sc e = some c → PI X tg e (LI X.K false W (wI Γ G c))
def wL (e : E) (tg : Tg) (it : I) (c : Eo) (vs : List Nat) : En → Sto → (List D → Sto → Prop) → KX → Prop := fun σ S Q X => wI Γ G it σ S (fun l chk S1 => l.length ≤ sizeLine ∧ cmpL tg (fun σ' S' Q' => wC Γ G c σ' S' Q' fun _ _ => False) (fun σ' S' Q' => wE Γ G e σ' S' Q' fun _ _ => False) chk l (wipeD σ vs) S1 Q) X
def SC (n : Nat) : Prop := ∀ (X : Cx) (W : WX) (sc : Scope) (own : Str → Bool), Gd T N Γ G X W sc own k → ∀ (b : Option Bl) (e tg it : PySem.Expr) (ifs : List PySem.Expr) (scope : Scope) (c : E), cC T N n sc b e tg it ifs scope = some c →
  ∃ e' tg' it' c' vs, c = .comp b e' tg' it' c' vs ∧ (∀ pos, PE X (.ListComp e [⟨tg, it, ifs, 0⟩] scope pos) (LL X.K W (wL Γ G e' tg' it' c' vs))) ∧
    ∀ pos spos i y py, X.N[i]? = some y → X.env.scope.names.lookup y = some .local → swapsWith (.ListComp e [⟨tg, it, ifs, 0⟩] scope pos) (some (.Name y py)) spos.line X.env = pure true →
      PS X (.Assign [.Name y py] (.ListComp e [⟨tg, it, ifs, 0⟩] scope pos) spos) (tAsg (LL X.K W (wL Γ G e' tg' it' c' vs)) (gName i))
variable {T N Γ G k}
theorem stepA {n : Nat} (hE : SE T N Γ G k n) (hA : SA T N Γ G k n) : SA T N Γ G k (n + 1) := by
  intro X W sc own g es cs h
  cases es with
  | nil =>
    simp only [cEs, Option.some.injEq] at h
    subst h
    exact PA.imp pa_nil fun σ H Q q => la_nil q
  | cons e es =>
    simp only [cEs, bind, Option.bind_eq_some_iff, pure, Option.some.injEq] at h
    obtain ⟨e', h1, es', h2, rfl⟩ := h
    exact PA.imp (pa_cons (hE X W sc own g e e' h1) (hA X W sc own g es es' h2) (plain_star (cE_plain h1) es X.env)) fun σ H Q q => la_cons q
theorem stepO {n : Nat} (hE : SE T N Γ G k n) : SO T N Γ G k (n + 1) := by
  intro X W sc own g e c h
  cases e with
  | none =>
    simp only [cO, Option.some.injEq] at h
    subst h
    refine ⟨fun pins s σ H Q I q => po_none.run pins s σ H Q I ?_⟩
    obtain ⟨σ', S, F, Qd, Xd, rel, rs, hw, kv, kx⟩ := q
    exact kv _ _ _ hw .refl rel
  | some e =>
    simp only [cO, Option.map_eq_some_iff] at h
    obtain ⟨c', h1, rfl⟩ := h
    refine ⟨fun pins s σ H Q I q => (po_some (hE X W sc own g e c' h1)).run pins s σ H Q I ?_⟩
    obtain ⟨σ', S, F, Qd, Xd, rel, rs, hw, kv, kx⟩ := q
    refine ⟨σ', S, F, _, Xd, rel, rs, hw, fun d S1 x H1 q1 e1 rel1 rd1 => ?_, kx⟩
    cases d <;> first | exact (show False from q1).elim | skip
    exact ⟨_, rd1.inti, kv _ _ _ q1 e1 rel1⟩
theorem stepI {n : Nat} (hE : SE T N Γ G k n) : SI T N Γ G k (n + 1) := by
  intro X W sc own g tg e c h
  simp only [cI] at h
  split at h
  case h_1 a hr =>
    simp only [Option.map_eq_some_iff] at h
    obtain ⟨c', h1, rfl⟩ := h
    obtain ⟨p, pos, rfl, hg, hf⟩ : ∃ p pos, e = .Call (.Name "range" p) [a] [] pos ∧ glB sc "range" = true ∧ T.free.contains "range" = true := by
      unfold isRng at hr
      split at hr
      case h_1 f p es pos =>
        split at hr
        case isTrue hh =>
          cases hr
          rw [Bool.and_eq_true, Bool.and_eq_true, decide_eq_true_eq] at hh
          obtain ⟨⟨h1, h2⟩, rfl⟩ := hh
          exact ⟨p, pos, rfl, h1, h2⟩
        case isFalse => cases hr
      case h_2 => cases hr
    have pl := plain_star (cE_plain h1) [] X.env
    refine PI.imp (pi_range1 (tg := tg) (p := p) (pos := pos) (g.gl hg) (g.lk.free _ hf) (pa_cons (hE X W sc own g a c' h1) pa_nil pl) (by rw [pl]; rfl)) fun τ H R q => ?_
    obtain ⟨σ', S, F, Qd, Xd, rel, rs, hw, kv, kx⟩ := q
    refine ⟨σ', S, F, _, Xd, rel, rs, hw, fun d S1 x H1 q1 e1 rel1 rd1 => ?_, kx⟩
    cases d <;> first | exact (show False from q1).elim | skip
    rename_i j
    obtain ⟨⟨b1, b2⟩, q1⟩ : inB j ∧ Qd (rngD 0 j.toNat) (fun _ => True) S1 := q1
    exact ⟨j, by rw [rd1.inti], b1, b2, kv _ _ _ _ _ q1 e1 rel1 walkN⟩
  case h_2 a b hr =>
    simp only [bind, Option.bind_eq_some_iff, pure, Option.some.injEq] at h
    obtain ⟨a', h1, b', h2, rfl⟩ := h
    obtain ⟨p, pos, rfl, hg, hf⟩ : ∃ p pos, e = .Call (.Name "range" p) [a, b] [] pos ∧ glB sc "range" = true ∧ T.free.contains "range" = true := by
      unfold isRng at hr
      split at hr
      case h_1 f p es pos =>
        split at hr
        case isTrue hh =>
          cases hr
          rw [Bool.and_eq_true, Bool.and_eq_true, decide_eq_true_eq] at hh
          obtain ⟨⟨h1, h2⟩, rfl⟩ := hh
          exact ⟨p, pos, rfl, h1, h2⟩
        case isFalse => cases hr
      case h_2 => cases hr
    have pb := plain_star (cE_plain h2) [] X.env
    have pl := plain_star (cE_plain h1) [b] X.env
    refine PI.imp (pi_range2 (tg := tg) (p := p) (pos := pos) (g.gl hg) (g.lk.free _ hf) (pa_cons (hE X W sc own g a a' h1) (pa_cons (hE X W sc own g b b' h2) pa_nil pb) pl) (by rw [pl, pb]; rfl) (by rw [pb]; rfl)) fun τ H R q => ?_
    obtain ⟨σ', S, F, Qd, Xd, rel, rs, hw, kv, kx⟩ := q
    refine ⟨σ', S, F, _, Xd, rel, rs, hw, fun d S1 x H1 q1 e1 rel1 rd1 => ?_, kx⟩
    refine ⟨σ', S1, F, _, Xd, rel1, rs.ext e1, q1, fun d2 S2 y H2 q2 e2 rel2 rd2 => ?_, kx.ext e1⟩
    cases d <;> cases d2 <;> first | exact (show False from q2).elim | skip
    rename_i i j
    obtain ⟨⟨b1, b2⟩, ⟨b3, b4⟩, q2⟩ : inB i ∧ inB j ∧ Qd (rngD i (j - i).toNat) (fun _ => True) S2 := q2
    exact ⟨i, j, by rw [rd1.inti, rd2.inti], ⟨b1, b2, b3, b4⟩, kv _ _ _ _ _ q2 (e1.trans e2) rel2 walkN⟩
  case h_3 => cases h
  case h_4 =>
    simp only [Option.map_eq_some_iff] at h
    obtain ⟨c', h1, rfl⟩ := h
    refine PI.imp (pi_of (tg := tg) (hE X W sc own g e c' h1)) fun τ H R q => ?_
    obtain ⟨σ', S, F, Qd, Xd, rel, rs, hw, kv, kx⟩ := q
    refine ⟨σ', S, F, _, Xd, rel, rs, hw, fun d S1 x H1 q1 e1 rel1 rd1 => ?_, kx⟩
    exact itR_of rel1 rd1 q1 fun l chk S' J H' q' e' rel' wk => kv l chk S' J H' q' (e1.trans e') rel' wk
theorem stepB {n : Nat} (hE : SE T N Γ G k n) (hT : ST T N Γ G k n) (hB : SB T N Γ G k n) : SB T N Γ G k (n + 1) := by
  intro X W sc own g op es c pos h0
  match es, h0 with
  | [], h => simp [cB] at h
  | [a], h =>
    simp only [cB] at h
    refine ⟨pe_one (hE X W sc own g a c h), ?_⟩
    cases op
    · exact pw_and1 (hT X W sc own g a c h)
    · exact pw_or1 (hT X W sc own g a c h)
  | a :: b :: r, h =>
    simp only [cB, bind, Option.bind_eq_some_iff, pure, Option.some.injEq] at h
    obtain ⟨a', h1, b', h2, rfl⟩ := h
    obtain ⟨h3, h4⟩ := hB X W sc own g op (b :: r) b' pos h2
    cases op
    · constructor
      · refine PE.imp (pe_and (hE X W sc own g a a' h1) h3) fun τ H Q q => ?_
        obtain ⟨σ', S, F, Qd, Xd, rel, rs, hw, kv, kx⟩ := q
        refine ⟨σ', S, F, _, Xd, rel, rs, hw, fun d S1 x H1 q1 e1 rel1 rd1 => ?_, kx⟩
        cases d <;> first | exact (show False from q1).elim | skip
        rename_i c
        have q1 : if c = true then wE Γ G b' σ' S1 Qd Xd else Qd (.bl false) S1 := q1
        refine ⟨c, rd1.bli, ?_⟩
        cases c with
        | true => exact ⟨σ', S1, F, Qd, Xd, rel1, rs.ext e1, q1, kv.ext e1, kx.ext e1⟩
        | false => exact kv _ _ _ _ q1 e1 rel1 .bl
      · refine ⟨fun wh pins s τ H Q I q => (pw_and (hT X W sc own g a a' h1) h4).run wh pins s τ H Q I ?_⟩
        obtain ⟨σ', S, F, Qd, Xd, rel, rs, hw, kv, kx⟩ := q
        refine ⟨σ', S, F, _, Xd, rel, rs, hw, fun c S1 H1 q1 e1 rel1 => ?_, kx⟩
        cases c with
        | true => exact ⟨σ', S1, F, Qd, Xd, rel1, rs.ext e1, q1, fun b S' H' q e => kv b S' H' q (e1.trans e), kx.ext e1⟩
        | false => exact kv _ _ _ q1 e1 rel1
    · constructor
      · refine PE.imp (pe_or (hE X W sc own g a a' h1) h3) fun τ H Q q => ?_
        obtain ⟨σ', S, F, Qd, Xd, rel, rs, hw, kv, kx⟩ := q
        refine ⟨σ', S, F, _, Xd, rel, rs, hw, fun d S1 x H1 q1 e1 rel1 rd1 => ?_, kx⟩
        cases d <;> first | exact (show False from q1).elim | skip
        rename_i c
        have q1 : if c = true then Qd (.bl true) S1 else wE Γ G b' σ' S1 Qd Xd := q1
        refine ⟨c, rd1.bli, ?_⟩
        cases c with
        | false => exact ⟨σ', S1, F, Qd, Xd, rel1, rs.ext e1, q1, kv.ext e1, kx.ext e1⟩
        | true => exact kv _ _ _ _ q1 e1 rel1 .bl
      · refine ⟨fun wh pins s τ H Q I q => (pw_or (hT X W sc own g a a' h1) h4).run wh pins s τ H Q I ?_⟩
        obtain ⟨σ', S, F, Qd, Xd, rel, rs, hw, kv, kx⟩ := q
        refine ⟨σ', S, F, _, Xd, rel, rs, hw, fun c S1 H1 q1 e1 rel1 => ?_, kx⟩
        cases c with
        | false => exact ⟨σ', S1, F, Qd, Xd, rel1, rs.ext e1, q1, fun b S' H' q e => kv b S' H' q (e1.trans e), kx.ext e1⟩
        | true => exact kv _ _ _ q1 e1 rel1
theorem stepC {n : Nat} (hE : SE T N Γ G k n) (hT : ST T N Γ G k n) (hI : SI T N Γ G k n) : SC T N Γ G k (n + 1) := by
  intro X W sc own g b e tg it ifs scope c h
  simp only [cC, bind, Option.bind_eq_some_iff, pure, Option.some.injEq] at h
  obtain ⟨_, h1, it', h2, tg', h3, _, h4, e', h5, c', h6, rfl⟩ := h
  rw [gd_some] at h1 h4
  have ok := blkOk_by h1
  have ok' : BlkOk X.N X.env.scope scope (ownOf N scope) := by rw [g.N_eq, g.sc_eq]; exact ok
  have gin : ∀ (s : Shared) (H : Hp) (C : Addr) (cl : List (Str × Addr)) (fp : List Addr), Gd T N Γ G (X.blk s H scope (compEnvC scope cl C X.env) fp) W0 (relS scope sc) (fun x => scope.names.lookup x == some .cell) k := fun s H C cl fp =>
    ⟨g.N_eq, by rw [← g.sc_eq]; rfl, g.nd, ok.kind, g.room, g.k2, g.calm, takes0, .never, fun _ hx => hx, g.lk⟩
  have hi : PI X tg it (LI X.K false W (wI Γ G it')) := hI X W sc own g tg it it' h2
  have hN : X.N.Nodup := by rw [g.N_eq]; exact g.nd
  have hg : ∀ (s : Shared) (H : Hp) (C : Addr) (cl : List (Str × Addr)) (fp : List Addr), PG (X.blk s H scope (compEnvC scope cl C X.env) fp) tg (LG X.K false (tgSlots tg') (wG tg')) := fun s H C cl fp => sG (gin s H C cl fp) n tg tg' false h3 (fun z => nomatch z)
  have he : ∀ (s : Shared) (H : Hp) (C : Addr) (cl : List (Str × Addr)) (fp : List Addr), PE (X.blk s H scope (compEnvC scope cl C X.env) fp) e (LE X.K W0 (wE Γ G e')) := fun s H C cl fp => hE _ _ _ _ (gin s H C cl fp) e e' h5
  have ht : ∀ (s : Shared) (H : Hp) (C : Addr) (cl : List (Str × Addr)) (fp : List Addr), PTs (X.blk s H scope (compEnvC scope cl C X.env) fp) ifs (LT X.K W0 (wC Γ G c')) := by
    intro s H C cl fp
    match ifs, h6 with
    | [], h6 =>
      cases h6
      refine ⟨fun pins s σ H Q I q => pts_nil.run pins s σ H Q I ?_⟩
      obtain ⟨σ', S, F, Qd, Xd, rel, rs, hw, kv, kx⟩ := q
      exact kv _ _ _ hw .refl rel
    | [t], h6 =>
      simp only [Option.map_eq_some_iff] at h6
      obtain ⟨t', h7, h8⟩ := h6
      rw [← h8]
      exact pts_one (hT _ _ _ _ (gin s H C cl fp) t t' h7)
    | _ :: _ :: _, h6 => cases h6
  have hs : ∀ x, foldedSetIterable it X.env x = pure x := by
    intro x
    refine plain_fold ?_ _ _
    cases n with
    | zero => simp [cI] at h2
    | succ n =>
      simp only [cI] at h2
      cases it <;> first | rfl | (simp [isRng] at h2; obtain ⟨c, h2, _⟩ := h2; exact cE_plain h2)
  have hsl : ∀ i ∈ tgSlots tg', i ∈ (ownOf N scope).map (·.2) := by
    intro i hi
    have := List.all_eq_true.mp h4 i hi
    simpa using this
  refine ⟨e', tg', it', c', _, rfl, fun pos => ?_, fun pos spos i y py hy hyl hsw => ?_⟩
  · exact PE.imp (pe_lc (pos := pos) (own := ownOf N scope) g.calm hN hi ok' hg ht he hs) fun τ H Q q => lc_conv hsl q
  · exact PS.imp (ps_setLc (pos := pos) (own := ownOf N scope) g.calm hN hy hyl hsw hi ok' hg ht he hs) fun D τ H q => lc_conv hsl q
end Mi
namespace Mi
open PySem PySem.Spec PyProof.Rows L2
variable {T : Tb} {N : List Str} {Γ : Str → FS} {G : Str → Option D} {k : Nat}
theorem Rel.lit {K : PySem.W.Frag} {S : Sto} {F H : Hp} {p : Addr} {o o' : HO} {c : Cell} (r : Rel K S (L2.upd F p o) H) (f : F p = none) (nt : ∀ xs, o ≠ .tup xs) (nf : ∀ ob x, o ≠ .frz ob x) (h : RC K (L2.upd H p o') p c) : Ext H (L2.upd H p o') ∧ Rel K (S.upd p c) F (L2.upd H p o') := by
  have hp : H p = some o := r.frm p _ upd_same
  have sp : S p = none := r.sep p _ upd_same
  have x : Ext H (L2.upd H p o') := .write hp nt nf
  refine ⟨x, fun a d q => ?_, fun a u q => ?_, fun a u q => ?_⟩
  · by_cases ha : a = p
    · subst ha; rw [Sto.upd_same] at q; cases q; exact h
    · rw [Sto.upd_ne ha] at q; exact (r.cell a d q).ext x (upd_ne ha)
  · have ha : a ≠ p := fun z => by subst z; rw [f] at q; cases q
    rw [upd_ne ha]; exact r.frm a u (upd_sub f a u q)
  · have ha : a ≠ p := fun z => by subst z; rw [f] at q; cases q
    rw [Sto.upd_ne ha]; exact r.sep a u (upd_sub f a u q)
theorem cEs_len {sc : Scope} : ∀ {n : Nat} {es : List PySem.Expr} {cs : Es}, cEs T N n sc es = some cs → True := fun _ => trivial
theorem cEs_few {sc : Scope} {env : Env} {pos : Pos} {n : Nat} {e : PySem.Expr} {es : List PySem.Expr} {cs : Es} (h : cEs T N n sc (e :: es) = some cs) (hl : (e :: es).length < 20) :
    ((backTo pos (starEach (e :: es) env)).all (fun x => !x.1) && (backToKw pos (keywordEach [] env)).all (fun x => x.1.isSome) && decide ((e :: es).length + ([] : List Keyword).length + (if ([] : List Keyword).isEmpty then 0 else 1) < 30)) = true := by
  have h1 := cEs_star (env := env) (pos := pos) h
  have h2 : (backTo pos (starEach (e :: es) env)).all (fun x => !x.1) = true := by
    rw [List.all_eq_true]
    intro x hx
    have := List.any_eq_false.mp h1 x hx
    simpa using this
  rw [h2]
  simp only [Bool.true_and, Bool.and_eq_true, decide_eq_true_eq]
  refine ⟨rfl, ?_⟩
  show (e :: es).length + 0 + 0 < 30
  omega
def mtyS : Mt → String
  | .get => "dict" | .append => "list" | .extend => "list" | .pop => "list" | .insert => "list" | .find => "str" | .index => "str" | .startswith => "str" | .join => "str" | .zfill => "str"
theorem ty_of {K : PySem.W.Frag} {S : Sto} {F H : Hp} {m : Mt} {d : D} {x : V} (rel : Rel K S F H) (rd : RD K H d x) (h : mtyR m d S = true) : tyV K (mtyS m) x H := by
  cases m <;> cases d <;> simp only [mtyR, Bool.false_eq_true] at h
  case get.ref a =>
    have e := rd.refi; subst e
    split at h
    case h_1 kvs hk =>
      obtain ⟨ws, h1, h2⟩ := rel.dct hk
      exact .inr (.inr (.inl ⟨rfl, .inl ⟨ws, h1⟩⟩))
    case h_2 => cases h
  all_goals
    (have e := rd.refi; subst e
     split at h
     case h_1 l hl =>
       obtain ⟨ws, h1, h2⟩ := rel.lst hl
       exact .inl ⟨rfl, ws, .of h1⟩
     case h_2 => cases h)
theorem le_mth {K : PySem.W.Frag} {W : WX} {m : Mt} {w1 : WE1} {w2 : En → Sto → (List D → Sto → Prop) → KX → Prop} {τ : L2.St} {H : Hp} {Q : VK} (h : LE K W (fun σ S Q X => w1 σ S (fun x S1 => mtyR m x S1 = true ∧ w2 σ S1 (fun ds S2 => mthR m x ds S2 Q) X) X) τ H Q) :
    tBM K (mtyS m) (LM K m) (LE K W w1) (LA K W w2) τ H Q := by
  obtain ⟨σ, S, F, Qd, Xd, rel, rs, hw, kv, kx⟩ := h
  refine ⟨σ, S, F, _, Xd, rel, rs, hw, fun d S1 x H1 ⟨ht, q1⟩ e1 rel1 rd1 => ⟨ty_of rel1 rd1 ht, ?_⟩, kx⟩
  exact ⟨σ, S1, F, _, Xd, rel1, rs.ext e1, q1, fun ds S2 vs H2 q2 e2 rel2 rd2 => ⟨d, ds, S2, F, Qd, rel2, RD.ext e2 _ _ rd1, rd2, q2, kv.ext (e1.trans e2)⟩, kx.ext e1⟩
theorem le_mth0 {K : PySem.W.Frag} {W : WX} {m : Mt} {w1 : WE1} {τ : L2.St} {H : Hp} {Q : VK} (h : LE K W (fun σ S Q X => w1 σ S (fun x S1 => mtyR m x S1 = true ∧ mthR m x [] S1 Q) X) τ H Q) :
    tBM0 K (mtyS m) (LM K m) (LE K W w1) τ H Q := by
  obtain ⟨σ, S, F, Qd, Xd, rel, rs, hw, kv, kx⟩ := h
  refine ⟨σ, S, F, _, Xd, rel, rs, hw, fun d S1 x H1 ⟨ht, q1⟩ e1 rel1 rd1 => ⟨ty_of rel1 rd1 ht, ?_⟩, kx⟩
  exact ⟨d, [], S1, F, Qd, rel1, rd1, .nil, q1, kv.ext e1⟩
theorem base_ok {o : PySem.Expr} {name : Str} {env : Env} {wh : Sem Value} (h : (match o with | .Call .. => false | _ => true) = true) : attributeBase o name env wh = wh := by
  cases o <;> first | rfl | cases h
theorem mthOf_cases {x : Str} {m : Mt} (h : mthOf x = some m) : (x = ("append" : Str) ∧ m = .append) ∨ (x = ("extend" : Str) ∧ m = .extend) ∨ (x = ("get" : Str) ∧ m = .get) ∨ (x = ("pop" : Str) ∧ m = .pop) ∨ (x = ("insert" : Str) ∧ m = .insert) := by
  unfold mthOf at h
  rcases ite_some h with ⟨h1, h2⟩ | h; exact .inl ⟨h1, h2.symm⟩
  rcases ite_some h with ⟨h1, h2⟩ | h; exact .inr (.inl ⟨h1, h2.symm⟩)
  rcases ite_some h with ⟨h1, h2⟩ | h; exact .inr (.inr (.inl ⟨h1, h2.symm⟩))
  rcases ite_some h with ⟨h1, h2⟩ | h; exact .inr (.inr (.inr (.inl ⟨h1, h2.symm⟩)))
  rcases ite_some h with ⟨h1, h2⟩ | h; exact .inr (.inr (.inr (.inr ⟨h1, h2.symm⟩)))
  cases h
theorem pe_mth {X : Cx} {W : WX} {sc : Scope} {own : Str → Bool} (g : Gd T N Γ G X W sc own k) {name : Str} {m : Mt} {o e : PySem.Expr} {es : List PySem.Expr} {apos cpos : Pos} {to : TE} {t : TA} (hm : mthOf name = some m) (ho : PE X o to) (ha : PA X (e :: es) t)
    (hbase : attributeBase o name X.env (eval o X.env) = eval o X.env)
    (hfew : ((backTo cpos (starEach (e :: es) X.env)).all (fun x => !x.1) && (backToKw cpos (keywordEach [] X.env)).all (fun x => x.1.isSome)
      && decide ((e :: es).length + ([] : List Keyword).length + (if ([] : List Keyword).isEmpty then 0 else 1) < 30)) = true)
    (hline : (apos.endLine == cpos.line) = true) (hs : starEach (e :: es) X.env = (false, eval e X.env) :: starEach es X.env) (hpl : (backTo cpos (starEach es X.env)).any (·.1) = false) :
    PE X (.Call (.Attribute o name apos) (e :: es) [] cpos) (tBM X.K (mtyS m) (LM X.K m) to t) := by
  rcases mthOf_cases hm with ⟨rfl, rfl⟩ | ⟨rfl, rfl⟩ | ⟨rfl, rfl⟩ | ⟨rfl, rfl⟩ | ⟨rfl, rfl⟩
  · exact pe_bm PySem.F.plainAttrs_list PySem.F.slot_list_append PySem.F.type_list_append append_sound ho ha hbase hfew hline hs hpl
  · exact pe_bm PySem.F.plainAttrs_list PySem.F.slot_list_extend PySem.F.type_list_extend extend_sound ho ha hbase hfew hline hs hpl
  · exact pe_bm PySem.F.plainAttrs_dict PySem.F.slot_dict_get PySem.F.type_dict_get (get_sound g.room) ho ha hbase hfew hline hs hpl
  · exact pe_bm PySem.F.plainAttrs_list PySem.F.slot_list_pop PySem.F.type_list_pop pop_sound ho ha hbase hfew hline hs hpl
  · exact pe_bm PySem.F.plainAttrs_list PySem.F.slot_list_insert PySem.F.type_list_insert insert_sound ho ha hbase hfew hline hs hpl
theorem pe_mth0 {X : Cx} {W : WX} {sc : Scope} {own : Str → Bool} (g : Gd T N Γ G X W sc own k) {name : Str} {m : Mt} {o : PySem.Expr} {apos cpos : Pos} {to : TE} (hm : mthOf name = some m) (ho : PE X o to)
    (hbase : attributeBase o name X.env (eval o X.env) = eval o X.env) (hline : (apos.endLine == cpos.line) = true) :
    PE X (.Call (.Attribute o name apos) [] [] cpos) (tBM0 X.K (mtyS m) (LM X.K m) to) := by
  rcases mthOf_cases hm with ⟨rfl, rfl⟩ | ⟨rfl, rfl⟩ | ⟨rfl, rfl⟩ | ⟨rfl, rfl⟩ | ⟨rfl, rfl⟩
  · exact pe_bm0 PySem.F.plainAttrs_list PySem.F.slot_list_append PySem.F.type_list_append append_sound ho hbase hline
  · exact pe_bm0 PySem.F.plainAttrs_list PySem.F.slot_list_extend PySem.F.type_list_extend extend_sound ho hbase hline
  · exact pe_bm0 PySem.F.plainAttrs_dict PySem.F.slot_dict_get PySem.F.type_dict_get (get_sound g.room) ho hbase hline
  · exact pe_bm0 PySem.F.plainAttrs_list PySem.F.slot_list_pop PySem.F.type_list_pop pop_sound ho hbase hline
  · exact pe_bm0 PySem.F.plainAttrs_list PySem.F.slot_list_insert PySem.F.type_list_insert insert_sound ho hbase hline
theorem le_disp1 {K : PySem.W.Frag} {W : WX} {w1 w2 : WE1} {τ : L2.St} {H : Hp} {Q : VK}
    (h : LE K W (fun σ S Q X => w1 σ S (fun x S1 => w2 σ S1 (fun y S2 => (keyD x).isSome = true ∧ ∀ p, S2 p = none → Q (.ref p) (S2.upd p (.dct [(x, y)]))) X) X) τ H Q) : tDisp [(LE K W w1, LE K W w2)] τ H Q := by
  obtain ⟨σ, S, F, Qd, Xd, rel, rs, hw, kv, kx⟩ := h
  intro p hp
  have fp := rel.freeF hp
  have x0 : Ext H (L2.upd H p (.dK [])) := .new hp
  have kx' : ∀ {F' H1}, (∀ a o, F a = some o → F' a = some o) → Ext H H1 → KXs K F' H1 Xd (WE W τ) := fun hF e x S' c dx H' q e' r rx => kx x S' c dx H' q (e.trans e') (r.lessF hF) rx
  refine ⟨σ, S, L2.upd F p (.dK []), _, Xd, rel.hide hp, rs.ext x0, hw, fun d S1 x H1 q1 e1 rel1 rd1 => ?_, kx' (upd_sub fp) x0⟩
  refine ⟨σ, S1, L2.upd F p (.dK []), _, Xd, rel1, rs.ext (x0.trans e1), q1, fun d2 S2 y H2 q2 e2 rel2 rd2 => ?_, kx' (upd_sub fp) (x0.trans e1)⟩
  obtain ⟨hk, q2⟩ := q2
  obtain ⟨k', hk⟩ := Option.isSome_iff_exists.mp hk
  have rd1' := RD.ext e2 _ _ rd1
  refine ⟨rel2.frm p _ upd_same, [(k', y)], by rw [keyD_kV hk rd1']; rfl, Nat.le_of_ble_eq_true rfl, ?_⟩
  have hm : mergeK [] [(k', y)] = [(k', y)] := rfl
  rw [hm]
  have ex : Ext H2 (L2.upd H2 p (.dK [(k', y)])) := .write (rel2.frm p _ upd_same) (fun _ z => nomatch z) (fun _ _ z => nomatch z)
  obtain ⟨x3, rel3⟩ := rel2.lit (o' := .dK [(k', y)]) (c := .dct [(d, d2)]) fp (fun _ z => nomatch z) (fun _ _ z => nomatch z) ⟨_, upd_same, by rw [RK]; exact ⟨k', y, [], rfl, hk, RD.ext ex _ _ rd2, by rw [RK]⟩⟩
  exact kv _ _ _ _ (q2 p (rel2.sep p _ upd_same)) (((x0.trans e1).trans e2).trans x3) rel3 .ref
end Mi
namespace Mi
open PySem PySem.Spec PyProof.Rows L2
variable {T : Tb} {N : List Str} {Γ : Str → FS} {G : Str → Option D} {k : Nat}
theorem le_comp {K : PySem.W.Frag} {W : WX} {w : En → Sto → (List D → Sto → Prop) → KX → Prop} {τ : L2.St} {H : Hp} {Q : VK} (h : LE K W (fun σ S Q X => w σ S (fun ds S2 => ∀ p, S2 p = none → Q (.ref p) (S2.upd p (.lst ds))) X) τ H Q) : LL K W w τ H Q := by
  obtain ⟨σ, S, F, Qd, Xd, rel, rs, hw, kv, kx⟩ := h
  exact ⟨σ, S, F, _, Xd, rel, rs, hw, fun ds S' a vs H' q e fa rel' rd => kv _ _ _ _ (q a (rel'.sep a _ upd_same)) e (rel'.show fa rd) .ref, kx⟩
theorem le_bll {K : PySem.W.Frag} {W : WX} {b : Bl} {w : En → Sto → (List D → Sto → Prop) → KX → Prop} {τ : L2.St} {H : Hp} {Q : VK} (h : LE K W (fun σ S Q X => w σ S (fun ds S2 => bllR b ds S2 Q) X) τ H Q) :
    tCB (fun vs H Q => ∃ a l ws S F Qd, vs = [.ref a] ∧ Rel K S F H ∧ H a = some (.lst ws) ∧ RDs K H l ws ∧ bllR b l S Qd ∧ KV K F H Qd Q) (tCons (LL K W w) tNil) τ H Q := by
  obtain ⟨σ, S, F, Qd, Xd, rel, rs, hw, kv, kx⟩ := h
  exact ⟨σ, S, F, _, Xd, rel, rs, hw, fun ds S' a vs H' q e fa rel' rd => ⟨a, ds, vs, S', F, Qd, rfl, rel'.lessF (upd_sub fa), rel'.frm a _ upd_same, rd, q, kv.ext e⟩, kx⟩
theorem le_slc {K : PySem.W.Frag} {W : WX} {w1 : WE1} {w2 w3 : En → Sto → (Option Int → Sto → Prop) → KX → Prop} {τ : L2.St} {H : Hp} {Q : VK} (h : LE K W (fun σ S Q X => w1 σ S (fun x S1 => w2 σ S1 (fun l S2 => w3 σ S2 (fun h S3 => slcR x l h S3 Q) X) X) X) τ H Q) :
    tSl (LSl K) (LE K W w1) (LOp K W w2) (LOp K W w3) τ H Q := by
  obtain ⟨σ, S, F, Qd, Xd, rel, rs, hw, kv, kx⟩ := h
  refine ⟨σ, S, F, _, Xd, rel, rs, hw, fun d S1 x H1 q1 e1 rel1 rd1 => ?_, kx⟩
  refine ⟨σ, S1, F, _, Xd, rel1, rs.ext e1, q1, fun o S2 H2 q2 e2 rel2 => ?_, kx.ext e1⟩
  refine ⟨σ, S2, F, _, Xd, rel2, rs.ext (e1.trans e2), q2, fun o3 S3 H3 q3 e3 rel3 => ?_, kx.ext (e1.trans e2)⟩
  exact ⟨d, S3, F, Qd, rel3, RD.ext (e2.trans e3) _ _ rd1, q3, kv.ext ((e1.trans e2).trans e3)⟩
theorem le_ite {K : PySem.W.Frag} {W : WX} {wt : En → Sto → (Bool → Sto → Prop) → KX → Prop} {w1 w2 : WE1} {τ : L2.St} {H : Hp} {Q : VK} (h : LE K W (fun σ S Q X => wt σ S (fun c S1 => if c = true then w1 σ S1 Q X else w2 σ S1 Q X) X) τ H Q) :
    tIf (LT K W wt) (LE K W w1) (LE K W w2) τ H Q := by
  obtain ⟨σ, S, F, Qd, Xd, rel, rs, hw, kv, kx⟩ := h
  refine ⟨σ, S, F, _, Xd, rel, rs, hw, fun c S1 H1 q1 e1 rel1 => ?_, kx⟩
  cases c with
  | true => exact ⟨σ, S1, F, Qd, Xd, rel1, rs.ext e1, q1, kv.ext e1, kx.ext e1⟩
  | false => exact ⟨σ, S1, F, Qd, Xd, rel1, rs.ext e1, q1, kv.ext e1, kx.ext e1⟩
theorem le_isi {K : PySem.W.Frag} {W : WX} {t : Ty} {w1 : WE1} {τ : L2.St} {H : Hp} {Q : VK} (h : LE K W (fun σ S Q X => w1 σ S (fun x S1 => (match [t].mapM (fun t => isT t x S1) with | some bs => Q (.bl (bs.any id)) S1 | none => False)) X) τ H Q) :
    tCB (rIsi K) (tCons (LE K W w1) (tCons (tC (.ty (tyS t))) tNil)) τ H Q := by
  obtain ⟨σ, S, F, Qd, Xd, rel, rs, hw, kv, kx⟩ := h
  refine ⟨σ, S, F, _, Xd, rel, rs, hw, fun d S1 x H1 q1 e1 rel1 rd1 => ?_, kx⟩
  cases hb : isT t d S1 with
  | none => simp [hb] at q1
  | some b =>
    simp [hb] at q1
    obtain ⟨ty, h1, h2⟩ := isT_ok rel1 rd1 hb
    exact ⟨x, .ty (tyS t), ty, .type (tyS t), b, rfl, .ty _, h1, h2, kv _ _ _ _ q1 e1 rel1 .bl⟩
theorem tyOf_ok {sc : Scope} {e : PySem.Expr} {t : Ty} (h : tyOf T sc e = some t) : ∃ x p, e = .Name x p ∧ glB sc x = true ∧ T.free.contains x = true ∧ bootBuiltins x = some (.type (tyS t)) := by
  unfold tyOf at h
  split at h
  case h_1 x p =>
    split at h
    case isTrue hh =>
      rw [Bool.and_eq_true] at hh
      refine ⟨x, p, rfl, hh.1, hh.2, ?_⟩
      rcases ite_some h with ⟨rfl, rfl⟩ | h; exact (by decide +kernel : bootBuiltins "int" = some (.type "int"))
      rcases ite_some h with ⟨rfl, rfl⟩ | h; exact (by decide +kernel : bootBuiltins "bool" = some (.type "bool"))
      rcases ite_some h with ⟨rfl, rfl⟩ | h; exact (by decide +kernel : bootBuiltins "str" = some (.type "str"))
      rcases ite_some h with ⟨rfl, rfl⟩ | h; exact (by decide +kernel : bootBuiltins "tuple" = some (.type "tuple"))
      rcases ite_some h with ⟨rfl, rfl⟩ | h; exact (by decide +kernel : bootBuiltins "list" = some (.type "list"))
      cases h
    case isFalse => cases h
  case h_2 => cases h
theorem LE.monoQ {K : PySem.W.Frag} {W : WX} {w : WE1} {τ : L2.St} {H : Hp} {Q Q' : VK} (h : LE K W w τ H Q) (i : ∀ x H', Q x H' → Q' x H') : LE K W w τ H Q' := by
  obtain ⟨σ, S, F, Qd, Xd, rel, rs, hw, kv, kx⟩ := h
  exact ⟨σ, S, F, Qd, Xd, rel, rs, hw, fun d S' v H' q e r rd => i _ _ (kv d S' v H' q e r rd), kx⟩
theorem boot_isi : bootBuiltins "isinstance" = some (.builtin "isinstance") := by decide +kernel
theorem pe_false {X : Cx} {W : WX} {e : PySem.Expr} {w : WE1} (h : ∀ σ S Q X, ¬ w σ S Q X) : PE X e (LE X.K W w) := ⟨fun _ _ _ _ _ _ ⟨σ, S, _, Qd, Xd, _, _, hw, _⟩ => absurd hw (h σ S Qd Xd)⟩
theorem pt_false {X : Cx} {W : WX} {e : PySem.Expr} {w : En → Sto → (Bool → Sto → Prop) → KX → Prop} (h : ∀ σ S Q X, ¬ w σ S Q X) : PT X e (LT X.K W w) := ⟨fun _ _ _ _ _ _ ⟨σ, S, _, Qd, Xd, _, _, hw, _⟩ => absurd hw (h σ S Qd Xd)⟩
theorem stepE {n : Nat} (hE' : SE T N Γ G k (n - 1)) (hE : SE T N Γ G k n) (hT : ST T N Γ G k n) (hB : SB T N Γ G k n) (hA : SA T N Γ G k n) (hO : SO T N Γ G k n) (hC : SC T N Γ G k n) : SE T N Γ G k (n + 1) := by
  intro X W sc own g e c h
  unfold cE at h
  split at h
  case h_1 => contradiction
  case h_2 n' c0 kk pos hn =>
    cases hn
    simp only [Option.map_eq_some_iff] at h
    obtain ⟨d, h1, rfl⟩ := h
    unfold litOf at h1
    split at h1
    case h_1 i => cases h1; exact PE.imp pe_int fun τ H Q ⟨σ, S, F, Qd, Xd, rel, rs, hw, kv, kx⟩ => kv _ _ _ _ hw .refl rel .int
    case h_2 i => cases h1; exact PE.imp pe_bl fun τ H Q ⟨σ, S, F, Qd, Xd, rel, rs, hw, kv, kx⟩ => kv _ _ _ _ hw .refl rel .bl
    case h_3 => cases h1; exact PE.imp pe_non fun τ H Q ⟨σ, S, F, Qd, Xd, rel, rs, hw, kv, kx⟩ => kv _ _ _ _ hw .refl rel .non
    case h_4 s =>
      split at h1
      case isTrue hs => cases h1; exact PE.imp pe_str fun τ H Q ⟨σ, S, F, Qd, Xd, rel, rs, hw, kv, kx⟩ => kv _ _ _ _ hw .refl rel (.str hs)
      case isFalse => cases h1
    case h_5 => cases h1
  case h_3 x pos hn =>
    cases hn
    split at h
    case h_1 i hi =>
      cases h
      obtain ⟨h1, h2, h3⟩ := visIx_ok hi
      refine PE.imp (pe_var (i := i) (by rw [g.N_eq]; exact h1) (by rw [g.sc_eq]; exact h2) (okN_1 h3).1 (okN_1 h3).2.1) fun τ H Q ⟨σ, S, F, Qd, Xd, rel, rs, hw, kv, kx⟩ => ?_
      have hw : match σ[i]? with | some (some d) => Qd d S | _ => False := hw
      split at hw
      case h_1 d hd =>
        obtain ⟨v, e1, rd⟩ := rs.get i d hd
        exact ⟨v, e1, kv _ _ _ _ hw .refl rel rd⟩
      case h_2 => exact hw.elim
    case h_2 =>
      split at h
      case isTrue hh =>
        cases h
        rw [Bool.and_eq_true] at hh
        cases hG : G x with
        | none =>
          refine pe_false fun σ S Q X hw => ?_
          have hw : match G x with | some d => Q d S | none => False := hw
          rw [hG] at hw
          exact hw
        | some d =>
          obtain ⟨v, u, h1, h2, h3⟩ := g.lk.glob x d hh.2 hG
          refine PE.imp (pe_glob (g.gl hh.1) h1 h2 (okN_1 (glB_ok hh.1).2).1) fun τ H Q ⟨σ, S, F, Qd, Xd, rel, rs, hw, kv, kx⟩ => ?_
          have hw : match G x with | some d => Qd d S | none => False := hw
          rw [hG] at hw
          exact kv _ _ _ _ hw .refl rel (h3 H)
      case isFalse => cases h
  case h_4 a o b pos hn =>
    cases hn
    simp only [bind, Option.bind_eq_some_iff, pure, Option.some.injEq] at h
    obtain ⟨o', h1, a', h2, b', h3, rfl⟩ := h
    rw [opOf_opO h1]
    exact PE.imp (pe_op (op_sound o') (hE X W _ own g a a' h2) (hE X W _ own g b b' h3)) fun τ H Q q => le_op q
  case h_5 a pos hn =>
    cases hn
    simp only [Option.map_eq_some_iff] at h
    obtain ⟨a', h1, rfl⟩ := h
    refine PE.imp (pe_un un_neg (hE X W _ own g a a' h1)) fun τ H Q ⟨σ, S, F, Qd, Xd, rel, rs, hw, kv, kx⟩ => ?_
    refine ⟨σ, S, F, _, Xd, rel, rs, hw, fun d S1 x H1 q1 e1 rel1 rd1 => ?_, kx⟩
    cases d <;> first | exact (show False from q1).elim | skip
    exact ⟨_, rd1.inti, kv _ _ _ _ q1 e1 rel1 .int⟩
  case h_6 a pos hn =>
    cases hn
    simp only [Option.map_eq_some_iff] at h
    obtain ⟨a', h1, rfl⟩ := h
    refine ⟨fun pins s τ H Q I q => ?_⟩
    obtain ⟨σ, S, F, Qd, Xd, rel, rs, hw, kv, kx⟩ := q
    refine UnaryOp_ (thn ((hE X W _ own g a a' h1).run pins s τ H (fun x H' => ∃ k, TruV X.K x H' k ∧ Q (.bl (!k)) H') I ?_) fun v s1 ⟨x, H1, I1, r1, kk, tr, q1⟩ => ?_)
    · refine ⟨σ, S, F, _, Xd, rel, rs, hw, fun d S1 x H1 q1 e1 rel1 rd1 => ?_, kx⟩
      exact tru_conv (Q := fun b H' => Q (.bl (!b)) H') ⟨d, S1, F, _, rel1, rd1, q1, fun b qb => kv _ _ _ _ qb e1 rel1 .bl⟩
    · exact not_of (tru_ok pins s1 τ H1 x v (fun b H' => Q (.bl (!b)) H') I1 r1 ⟨kk, tr, q1⟩ |> fun z => thn z fun b s2 ⟨H2, I2, q2⟩ => ⟨.bl (!b), H2, I2, rfl, q2⟩)
  case h_7 op es pos hn =>
    cases hn
    exact (hB X W _ own g op es c pos h).1
  case h_8 a o b pos hn =>
    cases hn
    simp only [bind, Option.bind_eq_some_iff, pure, Option.some.injEq] at h
    obtain ⟨_, h0, a', h1, b', h2, rfl⟩ := h
    rw [gd_some, Bool.not_eq_true'] at h0
    exact PE.imp (pe_cmpR (cm_sound g.room o) (hE X W _ own g a a' h1) (hE X W _ own g b b' h2) h0) fun τ H Q q => le_cmp q
  case h_9 t a b pos hn =>
    cases hn
    simp only [bind, Option.bind_eq_some_iff, pure, Option.some.injEq] at h
    obtain ⟨t', h1, a', h2, b', h3, rfl⟩ := h
    exact PE.imp (pe_ifExp (hT X W _ own g t t' h1) (hE X W _ own g a a' h2) (hE X W _ own g b b' h3)) fun τ H Q q => le_ite q
  case h_10 es x1 pos hn =>
    cases hn
    simp only [Option.map_eq_some_iff] at h
    obtain ⟨es', h1, rfl⟩ := h
    refine PE.imp (pe_tupF (hA X W _ own g es es' h1)) fun τ H Q ⟨σ, S, F, Qd, Xd, rel, rs, hw, kv, kx⟩ => ?_
    refine ⟨σ, S, F, _, Xd, rel, rs, hw, fun ds S1 vs H1 ⟨hz, q1⟩ e1 rel1 rd1 => ?_, kx⟩
    exact ⟨by rw [rd1.length]; exact hz, fun p o hp ho => kv _ _ _ _ q1 (e1.trans (.new hp)) (rel1.tup hp) (.tupNew hp ho rd1)⟩
  case h_11 es pos hn =>
    cases hn
    simp only [Option.map_eq_some_iff] at h
    obtain ⟨es', h1, rfl⟩ := h
    refine PE.imp (pe_lst (hA X W _ own g es es' h1)) fun τ H Q ⟨σ, S, F, Qd, Xd, rel, rs, hw, kv, kx⟩ => ?_
    refine ⟨σ, S, F, _, Xd, rel, rs, hw, fun ds S1 vs H1 ⟨hz, q1⟩ e1 rel1 rd1 => ?_, kx⟩
    exact ⟨by rw [rd1.length]; exact hz, fun p hp => kv _ _ _ _ (q1 p (rel1.free hp)) (e1.trans (.new hp)) (rel1.newLst hp rd1) .ref⟩
  case h_12 pos hn =>
    cases hn
    cases h
    refine PE.imp pe_dnewK fun τ H Q ⟨σ, S, F, Qd, Xd, rel, rs, hw, kv, kx⟩ => fun p hp => ?_
    have hw : ∀ p, S p = none → Qd (.ref p) (S.upd p (.dct [])) := hw
    exact kv _ _ _ _ (hw p (rel.free hp)) (.new hp) (rel.new hp ⟨[], upd_same, by rw [RK]⟩) .ref
  case h_13 ks vs pos _ hn =>
    cases hn
    cases n with
    | zero => simp [cD] at h
    | succ n =>
    unfold cD at h
    split at h
    case h_1 => contradiction
    case h_2 a b hn _ =>
      cases hn
      simp only [bind, Option.bind_eq_some_iff, pure, Option.some.injEq] at h
      obtain ⟨a', h1, b', h2, rfl⟩ := h
      refine PE.imp (pe_disp (pps_cons (hE' X W _ own g a a' h1) (hE' X W _ own g b b' h2) pps_nil) rfl rfl (by simp) (Nat.le_of_ble_eq_true rfl)) fun τ H Q q => le_disp1 (LE.imp q fun σ S Q X hw => ?_)
      have hw : wE Γ G a' σ S (fun x S1 => wE Γ G b' σ S1 (fun y S2 => 1 = 1 ∧ 1 ≤ 15 ∧ ([x].all fun k => (keyD k).isSome) = true ∧ ∀ p, S2 p = none → Q (.ref p) (S2.upd p (.dct (dmerge [] [(x, y)])))) X) X := hw
      simpa [dmerge, dput] using hw
    case h_3 => cases h
  case h_14 a lo hi p2 pos hn =>
    cases hn
    simp only [bind, Option.bind_eq_some_iff, pure, Option.some.injEq] at h
    obtain ⟨a', h1, lo', h2, hi', h3, rfl⟩ := h
    exact PE.imp (pe_slice sl_sound (hE X W _ own g a a' h1) (hO X W _ own g lo lo' h2) (hO X W _ own g hi hi' h3)) fun τ H Q q => le_slc q
  case h_15 a i pos _ hn =>
    cases hn
    simp only [bind, Option.bind_eq_some_iff, pure, Option.some.injEq] at h
    obtain ⟨a', h1, i', h2, rfl⟩ := h
    exact PE.imp (pe_ix (ix_sound g.room) (hE X W _ own g a a' h1) (hE X W _ own g i i' h2) (plain_ix (cE_plain h2))) fun τ H Q q => le_op q
  case h_16 f p es pos hn =>
    cases hn
    split at h
    case isFalse => cases h
    case isTrue hg =>
    have hgl := g.gl hg
    have hok := (glB_ok hg).2
    split at h
    case isTrue hf =>
      simp only [Option.map_eq_some_iff] at h
      obtain ⟨es', h1, rfl⟩ := h
      obtain ⟨fa, fd, ps, m1, m2, m3, m4⟩ := g.lk.fns f hf
      have ha := hA X W _ own g es es' h1
      cases es with
      | nil =>
        cases n with
        | zero => simp [cEs] at h1
        | succ n =>
          simp only [cEs, Option.some.injEq] at h1
          subst h1
          refine PE.imp (pe_callS0 (E := WE W) m4 g.room hgl m1 m2 m3 (fun σ => passAt g.tk σ) (okN_1 hok).1) fun τ H Q ⟨σ, S, F, Qd, Xd, rel, rs, hw, kv, kx⟩ => ?_
          exact ⟨[], S, F, Qd, Xd, rel, .nil, hw, kv, kx⟩
      | cons e es =>
        have h1' := h1
        cases n with
        | zero => simp [cEs] at h1
        | succ n =>
          simp only [cEs, bind, Option.bind_eq_some_iff, pure, Option.some.injEq] at h1
          obtain ⟨e', h2, es'', h3, h4⟩ := h1
          exact PE.imp (pe_callS (E := WE W) m4 g.room hgl m1 m2 m3 (fun σ => passAt g.tk σ) ha (okN_1 hok).1 (plain_star (cE_plain h2) es X.env) (cEs_star h3)) fun τ H Q q => la_call q
    case isFalse =>
    split at h
    case isTrue hfree =>
      have hmg := g.lk.free f hfree
      split at h
      case isTrue hisi =>
        subst hisi
        split at h
        case h_1 a t =>
          simp only [bind, Option.bind_eq_some_iff, pure, Option.some.injEq] at h
          obtain ⟨a', h1, t', h2, rfl⟩ := h
          obtain ⟨x, px, rfl, b1, b2, b3⟩ := tyOf_ok h2
          have ok2 := okN_1 (glB_ok b1).2
          have pb := pe_bltn (pos := px) (v := .ty (tyS t')) (g.gl b1) (g.lk.free x b2) b3 rfl ok2.2.2 ok2.1
          have s2 : starEach [PySem.Expr.Name x px] X.env = (false, eval (.Name x px) X.env) :: starEach [] X.env := rfl
          refine PE.imp (pe_callB call_isi hgl hmg boot_isi (pa_cons (hE X W _ own g a a' h1) (pa_cons pb pa_nil s2) (plain_star (cE_plain h1) _ X.env)) (okN_1 hok).2.2 (okN_1 hok).1 (plain_star (cE_plain h1) _ X.env) rfl) fun τ H Q q => le_isi q
        case h_2 => cases h
      case isFalse =>
      split at h
      case h_1 => cases h
      case h_2 b hb =>
      split at h
      case h_1 e tg it ifs scope p2 =>
        obtain ⟨e', tg', it', c', vs, rfl, hp, _⟩ := hC X W _ own g _ _ _ _ _ _ _ h
        have s2 : starEach [PySem.Expr.ListComp e [⟨tg, it, ifs, 0⟩] scope p2] X.env = (false, eval (.ListComp e [⟨tg, it, ifs, 0⟩] scope p2) X.env) :: starEach [] X.env := rfl
        exact PE.imp (pe_blt hb (bll_sound g.calm b) hgl hmg (pa_cons (hp p2) pa_nil s2) hok s2 rfl) fun τ H Q q => le_bll (w := wL Γ G e' tg' it' c' vs) q
      case h_2 e es _ =>
        simp only [Option.map_eq_some_iff] at h
        obtain ⟨es', h1, rfl⟩ := h
        have ha := hA X W _ own g _ _ h1
        cases n with
        | zero => simp [cEs] at h1
        | succ n =>
          simp only [cEs, bind, Option.bind_eq_some_iff, pure, Option.some.injEq] at h1
          obtain ⟨e', h2, es'', h3, h4⟩ := h1
          exact PE.imp (pe_blt hb (blt_sound g.calm b) hgl hmg ha hok (plain_star (cE_plain h2) es X.env) (cEs_star h3)) fun τ H Q q => la_args q
      case h_3 => cases h
    case isFalse =>
    split at h
    case isTrue hgcd =>
      rw [Bool.and_eq_true, decide_eq_true_eq] at hgcd
      obtain ⟨rfl, hgcd⟩ := hgcd
      split at h
      case h_1 a b =>
        simp only [bind, Option.bind_eq_some_iff, pure, Option.some.injEq] at h
        obtain ⟨a', h1, b', h2, rfl⟩ := h
        have pb := plain_star (cE_plain h2) [] X.env
        have pl := plain_star (cE_plain h1) [b] X.env
        refine PE.imp (pe_callBfun (blt_sound g.calm .gcd) hgl (g.lk.gcd hgcd) (PA.imp (pa_cons (hE X W _ own g a a' h1) (pa_cons (hE X W _ own g b b' h2) pa_nil pb) pl) (t' := LA X.K W (wEs Γ G (.cons a' (.cons b' .nil)))) fun τ H Q q => ?_) (okN_1 hok).1 pl (by rw [pb]; rfl)) fun τ H Q q => la_args q
        exact LE.monoQ (la_cons (w := wEs Γ G (.cons b' .nil)) q) fun x H1 q1 => LE.monoQ (la_cons (w := wEs Γ G .nil) q1) fun y H2 q2 => la_nil q2
      case h_2 => cases h
    case isFalse => cases h
  case h_17 o m apos es pos hn =>
    cases hn
    simp only [bind, Option.bind_eq_some_iff, pure, Option.some.injEq] at h
    obtain ⟨_, h0, m', h1, _, h2, _, h3, o', h4, es', h5, rfl⟩ := h
    rw [gd_some] at h0 h2 h3
    rw [decide_eq_true_eq] at h3
    have ha := hA X W _ own g es es' h5
    have ho := hE X W _ own g o o' h4
    cases es with
    | nil =>
      cases n with
      | zero => simp [cEs] at h5
      | succ n =>
        simp only [cEs, Option.some.injEq] at h5
        subst h5
        exact PE.imp (pe_mth0 g h1 ho (base_ok h2) h0) fun τ H Q q => le_mth0 q
    | cons e es =>
      have h5' := h5
      cases n with
      | zero => simp [cEs] at h5
      | succ n =>
        simp only [cEs, bind, Option.bind_eq_some_iff, pure, Option.some.injEq] at h5
        obtain ⟨e', h6, es'', h7, h8⟩ := h5
        exact PE.imp (pe_mth g h1 ho ha (base_ok h2) (cEs_few h5' h3) h0 (plain_star (cE_plain h6) es X.env) (cEs_star h7)) fun τ H Q q => le_mth q
  case h_18 e tg it ifs scope p hn =>
    cases hn
    obtain ⟨e', tg', it', c', vs, rfl, hp, _⟩ := hC X W _ own g _ _ _ _ _ _ _ h
    exact PE.imp (hp p) fun τ H Q q => le_comp (w := wL Γ G e' tg' it' c' vs) q
  case h_19 => cases h
end Mi
namespace Mi
open PySem PySem.Spec PyProof.Rows L2
variable {T : Tb} {N : List Str} {Γ : Str → FS} {G : Str → Option D} {k : Nat}
def isTru : E → Bool
  | .lit _ => true | .var _ => true | .glob _ => true | .ix _ _ => true | .call _ _ => true | .blt _ _ => true | .mth _ _ _ => true | .isi _ _ => true | .comp (some _) _ _ _ _ _ => true
  | _ => false
theorem wT_tru : ∀ {c : E} {σ : En} {S : Sto} {Q : Bool → Sto → Prop} {X : KX}, isTru c = true → wT Γ G c σ S Q X → wE Γ G c σ S (fun d S' => truR d S' fun b => Q b S') X := by
  intro c σ S Q X h w
  cases c <;> first | (cases h; done) | skip
  case lit d => exact w
  case var i => exact w
  case glob x => exact w
  case ix a i => exact w
  case call f es => exact w
  case blt b es => exact w
  case mth m o es => exact w
  case comp b e tg it cc vs =>
    cases b with
    | none => cases h
    | some b => exact w
  case isi a ts =>
    have w : wE Γ G a σ S (fun x S1 => (match ts.mapM (fun t => isT t x S1) with | some bs => Q (bs.any id) S1 | none => False)) X := w
    exact w
theorem pt_tru {X : Cx} {W : WX} {e : PySem.Expr} {c : E} (he : PE X e (LE X.K W (wE Γ G c))) (ht : ∀ whole, isTrue e X.env whole = (do let v ← whole; standAt e.pos; holding [v] (truthy v))) (hc : isTru c = true ∨ ∀ σ S Q X, ¬ wT Γ G c σ S Q X) : PT X e (LT X.K W (wT Γ G c)) := by
  rcases hc with hc | hc
  · exact PT.imp (pt_truth he ht) fun τ H Q q => lt_tru (LT.imp q fun σ S Q X w => wT_tru hc w)
  · exact pt_false hc
theorem stepT {n : Nat} (hE1 : SE T N Γ G k (n + 1)) (hE : SE T N Γ G k n) (hT : ST T N Γ G k n) (hB : SB T N Γ G k n) : ST T N Γ G k (n + 1) := by
  intro X W sc own g e c h
  have he := hE1 X W sc own g e c h
  unfold cE at h
  split at h
  case h_1 => contradiction
  case h_2 n' c0 kk pos hn =>
    simp only [Option.map_eq_some_iff] at h
    obtain ⟨d, h1, rfl⟩ := h
    exact pt_tru he (fun _ => rfl) (.inl rfl)
  case h_3 x pos hn =>
    refine pt_tru he (fun _ => rfl) (.inl ?_)
    split at h
    case h_1 => cases h; rfl
    case h_2 => split at h; (cases h; rfl); cases h
  case h_4 a o b pos hn =>
    simp only [bind, Option.bind_eq_some_iff, pure, Option.some.injEq] at h
    obtain ⟨o', h1, a', h2, b', h3, rfl⟩ := h
    exact pt_false fun σ S Q X w => w
  case h_5 a pos hn =>
    simp only [Option.map_eq_some_iff] at h
    obtain ⟨a', h1, rfl⟩ := h
    exact pt_false fun σ S Q X w => w
  case h_6 a pos hn =>
    cases hn
    simp only [Option.map_eq_some_iff] at h
    obtain ⟨a', h1, rfl⟩ := h
    exact PT.imp (pt_not (hT X W _ own g a a' h1)) fun τ H Q ⟨σ, S, F, Qd, Xd, rel, rs, hw, kv, kx⟩ => ⟨σ, S, F, fun b S1 => Qd (!b) S1, Xd, rel, rs, hw, fun b S' H' q e r => kv _ _ _ q e r, kx⟩
  case h_7 op es pos hn =>
    cases hn
    exact (hB X W _ own g op es c pos h).2.pt
  case h_8 a o b pos hn =>
    cases hn
    simp only [bind, Option.bind_eq_some_iff, pure, Option.some.injEq] at h
    obtain ⟨_, h0, a', h1, b', h2, rfl⟩ := h
    rw [gd_some, Bool.not_eq_true'] at h0
    exact PT.imp (pt_cmpR (cm_sound g.room o) (hE X W _ own g a a' h1) (hE X W _ own g b b' h2) h0) fun τ H Q q => lt_cmp q
  case h_9 t a b pos hn =>
    simp only [bind, Option.bind_eq_some_iff, pure, Option.some.injEq] at h
    obtain ⟨t', h1, a', h2, b', h3, rfl⟩ := h
    exact pt_false fun σ S Q X w => w
  case h_10 es x1 pos hn =>
    simp only [Option.map_eq_some_iff] at h
    obtain ⟨es', h1, rfl⟩ := h
    exact pt_false fun σ S Q X w => w
  case h_11 es pos hn =>
    simp only [Option.map_eq_some_iff] at h
    obtain ⟨es', h1, rfl⟩ := h
    exact pt_false fun σ S Q X w => w
  case h_12 pos hn =>
    cases h
    exact pt_false fun σ S Q X w => w
  case h_13 ks vs pos _ hn =>
    cases hn
    cases n with
    | zero => simp [cD] at h
    | succ n =>
    unfold cD at h
    split at h
    case h_1 => contradiction
    case h_2 a b hn _ =>
      simp only [bind, Option.bind_eq_some_iff, pure, Option.some.injEq] at h
      obtain ⟨a', h1, b', h2, rfl⟩ := h
      exact pt_false fun σ S Q X w => w
    case h_3 => cases h
  case h_14 a lo hi p2 pos hn =>
    simp only [bind, Option.bind_eq_some_iff, pure, Option.some.injEq] at h
    obtain ⟨a', h1, lo', h2, hi', h3, rfl⟩ := h
    exact pt_false fun σ S Q X w => w
  case h_15 a i pos _ hn =>
    simp only [bind, Option.bind_eq_some_iff, pure, Option.some.injEq] at h
    obtain ⟨a', h1, i', h2, rfl⟩ := h
    exact pt_tru he (fun _ => rfl) (.inl rfl)
  case h_16 f p es pos hn =>
    cases hn
    refine pt_tru he (fun _ => rfl) ?_
    split at h
    case isFalse => cases h
    case isTrue hg =>
    split at h
    case isTrue hf =>
      simp only [Option.map_eq_some_iff] at h
      obtain ⟨es', h1, rfl⟩ := h
      exact .inl rfl
    case isFalse =>
    split at h
    case isTrue hfree =>
      split at h
      case isTrue hisi =>
        split at h
        case h_1 a t =>
          simp only [bind, Option.bind_eq_some_iff, pure, Option.some.injEq] at h
          obtain ⟨a', h1, t', h2, rfl⟩ := h
          exact .inl rfl
        case h_2 => cases h
      case isFalse =>
      split at h
      case h_1 => cases h
      case h_2 b hb =>
      split at h
      case h_1 e tg it ifs scope p2 =>
        cases n with
        | zero => simp [cC] at h
        | succ n =>
          simp only [cC, bind, Option.bind_eq_some_iff, pure, Option.some.injEq] at h
          obtain ⟨_, h1, it', h2, tg', h3, _, h4, e', h5, c', h6, rfl⟩ := h
          exact .inl rfl
      case h_2 e es _ =>
        simp only [Option.map_eq_some_iff] at h
        obtain ⟨es', h1, rfl⟩ := h
        exact .inl rfl
      case h_3 => cases h
    case isFalse =>
    split at h
    case isTrue hgcd =>
      split at h
      case h_1 a b =>
        simp only [bind, Option.bind_eq_some_iff, pure, Option.some.injEq] at h
        obtain ⟨a', h1, b', h2, rfl⟩ := h
        exact .inl rfl
      case h_2 => cases h
    case isFalse => cases h
  case h_17 o m apos es pos hn =>
    refine pt_tru he (fun _ => rfl) ?_
    simp only [bind, Option.bind_eq_some_iff, pure, Option.some.injEq] at h
    obtain ⟨_, h0, m', h1, _, h2, _, h3, o', h4, es', h5, rfl⟩ := h
    exact .inl rfl
  case h_18 e tg it ifs scope p hn =>
    cases hn
    cases n with
    | zero => simp [cC] at h
    | succ n =>
      simp only [cC, bind, Option.bind_eq_some_iff, pure, Option.some.injEq] at h
      obtain ⟨_, h1, it', h2, tg', h3, _, h4, e', h5, c', h6, rfl⟩ := h
      exact pt_false fun σ S Q X w => w
  case h_19 => cases h
structure All (T : Tb) (N : List Str) (Γ : Str → FS) (G : Str → Option D) (k n : Nat) : Prop where
  e : SE T N Γ G k n
  t : ST T N Γ G k n
  b : SB T N Γ G k n
  a : SA T N Γ G k n
  o : SO T N Γ G k n
  i : SI T N Γ G k n
  c : SC T N Γ G k n
theorem all0 : All T N Γ G k 0 where
  e := fun X W sc own g e c h => by simp [cE] at h
  t := fun X W sc own g e c h => by simp [cE] at h
  b := fun X W sc own g op es c pos h => by simp [cB] at h
  a := fun X W sc own g es cs h => by simp [cEs] at h
  o := fun X W sc own g e c h => by simp [cO] at h
  i := fun X W sc own g tg e c h => by simp [cI] at h
  c := fun X W sc own g b e tg it ifs scope c h => by simp [cC] at h
theorem all2 : ∀ n, All T N Γ G k n ∧ All T N Γ G k (n - 1)
  | 0 => ⟨all0, all0⟩
  | n + 1 => by
    obtain ⟨h, h'⟩ := all2 n
    have he := stepE h'.e h.e h.t h.b h.a h.o h.c
    exact ⟨⟨he, stepT he h.e h.t h.b, stepB h.e h.t h.b, stepA h.e h.a, stepO h.e, stepI h.e, stepC h.e h.t h.i⟩, h⟩
theorem all (n : Nat) : All T N Γ G k n := (all2 n).1
end Mi
namespace Mi
open PySem PySem.Spec PyProof.Rows L2
variable {T : Tb} {N : List Str} {Γ : Str → FS} {G : Str → Option D} {k : Nat}
theorem Lk.kxs {K : PySem.W.Frag} {W : WX} {F H : Hp} {N : De} {D : Ends} {σ : En} {τ : L2.St} (lk : Lk K W F H N D) (rs : RS K H σ τ) : KXs K F H (fun x S1 => N.xr x σ S1) (WE W τ) :=
  fun x S' c dx H' q e r rx => lk.xr x σ S' τ c dx H' q e r (rs.ext e) rx
theorem Lk.next {K : PySem.W.Frag} {W : WX} {F H : Hp} {N : De} {D : Ends} {nx : En → Sto → Prop} {nx' : L2.St → Hp → Prop} (lk : Lk K W F H N D) (h : ∀ σ S τ H', nx σ S → Ext H H' → Rel K S F H' → RS K H' σ τ → nx' τ H') :
    Lk K W F H { N with nx := nx } { D with nx := nx' } := ⟨h, lk.rt, lk.bk, lk.ct, lk.xr⟩
theorem Lk.loop {K : PySem.W.Frag} {W : WX} {F H : Hp} {N : De} {D : Ends} {nx : En → Sto → Prop} {nx' : L2.St → Hp → Prop} (lk : Lk K W F H N D) (h : ∀ σ S τ H', nx σ S → Ext H H' → Rel K S F H' → RS K H' σ τ → nx' τ H') :
    Lk K W F H { N with nx := nx, ct := nx, bk := N.nx } { D with nx := nx', ct := nx', bk := D.nx } := ⟨h, lk.rt, lk.nx, h, lk.xr⟩
theorem while_conv {K : PySem.W.Frag} {W : WX} {t : En → Sto → (Bool → Sto → Prop) → KX → Prop} {b : De → En → Sto → Prop} {D : Ends} {τ : L2.St} {H : Hp}
    (h : LS K W (fun N σ S => ∃ n, whlL (fun σ' S' Q => t σ' S' Q fun x S1 => N.xr x σ' S1) b n N σ S) D τ H) : tWhile (LT K W t) (LS K W b) D τ H := by
  obtain ⟨σ, S, F, N, rel, rs, ⟨n, hw⟩, lk⟩ := h
  refine ⟨fun m τ' H' => ∃ σ' S', Ext H H' ∧ Rel K S' F H' ∧ RS K H' σ' τ' ∧ whlL (fun σ' S' Q => t σ' S' Q fun x S1 => N.xr x σ' S1) b m N σ' S', ⟨n, σ, S, .refl, rel, rs, hw⟩, ?_⟩
  rintro m τ1 H1 ⟨σ1, S1, e1, rel1, rs1, w1⟩
  cases m with
  | zero => exact (show False from w1).elim
  | succ m =>
    have w1 : t σ1 S1 (fun c S' => if c = true then b { N with nx := whlL (fun σ' S' Q => t σ' S' Q fun x S1 => N.xr x σ' S1) b m N, ct := whlL (fun σ' S' Q => t σ' S' Q fun x S1 => N.xr x σ' S1) b m N, bk := N.nx } σ1 S' else N.nx σ1 S') (fun x S2 => N.xr x σ1 S2) := w1
    refine ⟨σ1, S1, F, _, _, rel1, rs1, w1, fun c S2 H2 q2 e2 rel2 => ?_, (lk.ext e1).kxs rs1⟩
    cases c with
    | false => exact lk.nx _ _ _ _ q2 (e1.trans e2) rel2 (rs1.ext e2)
    | true =>
      refine ⟨fun τ' H' => ∃ m', m' < m + 1 ∧ ∃ σ' S', Ext H H' ∧ Rel K S' F H' ∧ RS K H' σ' τ' ∧ whlL (fun σ' S' Q => t σ' S' Q fun x S1 => N.xr x σ' S1) b m' N σ' S', fun τ' H' z => z, ?_⟩
      exact ⟨σ1, S2, F, _, rel2, rs1.ext e2, q2, (lk.ext (e1.trans e2)).loop fun σ' S' τ' H' q' e' r' rs' => ⟨m, Nat.lt_succ_self m, σ', S', (e1.trans e2).trans e', r', rs', q'⟩⟩
theorem for_conv {K : PySem.W.Frag} {W : WX} {wk : Bool} {wi : En → Sto → KI → KX → Prop} {tg : Tg} {b : De → En → Sto → Prop} {D : Ends} {τ : L2.St} {H : Hp}
    (h : LS K W (fun N σ S => wi σ S (fun l chk S1 => forL tg b chk l N σ S1) fun x S1 => N.xr x σ S1) D τ H) : tFor (LI K wk W wi) (LG K wk (tgSlots tg) (wG tg)) (LS K W b) D τ H := by
  obtain ⟨σ, S, F, N, rel, rs, hw, lk⟩ := h
  refine ⟨σ, S, F, _, _, rel, rs, hw, fun l chk S1 J H1 q e1 rel1 wk' => ?_, lk.kxs rs⟩
  refine ⟨fun i m τ' H' => i ≤ l.length ∧ m = l.length - i ∧ ∃ σ' S', Ext H1 H' ∧ Rel K S' F H' ∧ RS K H' σ' τ' ∧ forL tg b chk (l.drop i) N σ' S', ⟨l.length - 0, Nat.zero_le _, rfl, σ, S1, .refl, rel1, rs.ext e1, q⟩, ?_⟩
  rintro i m τ2 H2 ⟨hi, rfl, σ2, S2, e2, rel2, rs2, w2⟩
  by_cases hl : i < l.length
  · refine .inr ?_
    have hd : l[i]? = some l[i] := by simp [hl]
    rw [List.drop_eq_getElem_cons hl] at w2
    obtain ⟨hchk, w2⟩ : chk S2 ∧ wG tg l[i] σ2 fun σ' => b { N with nx := forL tg b chk (l.drop (i + 1)) N, ct := forL tg b chk (l.drop (i + 1)) N, bk := N.nx } σ' S2 := w2
    obtain ⟨go, yl⟩ := wk'.go F i _ S2 H2 hd rel2 hchk e2
    refine ⟨go, fun τ' H' => ∃ m', m' < l.length - i ∧ (i + 1 ≤ l.length ∧ m' = l.length - (i + 1) ∧ ∃ σ' S', Ext H1 H' ∧ Rel K S' F H' ∧ RS K H' σ' τ' ∧ forL tg b chk (l.drop (i + 1)) N σ' S'), fun τ' H' z => z, fun x H3 y => ?_⟩
    obtain ⟨x3, rel3, rx⟩ := yl x H3 y
    refine ⟨l[i], σ2, _, rx, rs2.ext x3, w2, fun σ4 τ4 q4 rs4 off => ?_⟩
    exact ⟨σ4, S2, F, _, rel3, rs4, q4, (lk.ext ((e1.trans e2).trans x3)).loop fun σ' S' τ' H' q' e' r' rs' => ⟨l.length - (i + 1), by omega, hl, rfl, σ', S', (e2.trans x3).trans e', r', rs', q'⟩⟩
  · have e : i = l.length := by omega
    subst e
    rw [List.drop_length] at w2
    obtain ⟨hchk, w2⟩ : chk S2 ∧ N.nx σ2 S2 := w2
    exact .inl ⟨wk'.stop F S2 H2 rel2 hchk e2, lk.nx _ _ _ _ w2 (e1.trans e2) rel2 rs2⟩
def SS (T : Tb) (N : List Str) (Γ : Str → FS) (G : Str → Option D) (k n : Nat) : Prop := ∀ (X : Cx) (W : WX) (sc : Scope), Gd T N Γ G X W sc (fun _ => true) k → Stk X → ∀ (s : PySem.Stmt) (c : S), cS T N n sc s = some c → PS X s (LS X.K W (wS Γ G c))
def SSs (T : Tb) (N : List Str) (Γ : Str → FS) (G : Str → Option D) (k n : Nat) : Prop := ∀ (X : Cx) (W : WX) (sc : Scope), Gd T N Γ G X W sc (fun _ => true) k → Stk X → ∀ (s : List PySem.Stmt) (c : Ss), cSs T N n sc s = some c → PSs X s (LS X.K W (wSs Γ G c))
theorem stepSs {n : Nat} (hS : SS T N Γ G k n) (hSs : SSs T N Γ G k n) : SSs T N Γ G k (n + 1) := by
  intro X W sc g st ss c h
  cases ss with
  | nil =>
    simp only [cSs, Option.some.injEq] at h
    subst h
    exact PSs.imp pss_nil fun D τ H ⟨σ, S, F, N, rel, rs, hw, lk⟩ => lk.nx _ _ _ _ hw .refl rel rs
  | cons s ss =>
    simp only [cSs, bind, Option.bind_eq_some_iff, pure, Option.some.injEq] at h
    obtain ⟨s', h1, ss', h2, rfl⟩ := h
    refine PSs.imp (pss_cons (hS X W sc g st s s' h1) (hSs X W sc g st ss ss' h2)) fun D τ H ⟨σ, S, F, N, rel, rs, hw, lk⟩ => ?_
    exact ⟨σ, S, F, _, rel, rs, hw, lk.next fun σ' S' τ' H' q e r rs' => ⟨σ', S', F, N, r, rs', q, lk.ext e⟩⟩
def noLC : PySem.Expr → Bool
  | .ListComp .. => false
  | _ => true
def noCp : PySem.Expr → Bool
  | .ListComp .. => false | .SetComp .. => false | .DictComp .. => false
  | _ => true
theorem sw_false {e : PySem.Expr} {t : Option PySem.Expr} {l : Nat} {env : Env} (h : plainX e = true) (hl : noCp e = true) : swapsWith e t l env = pure false := by
  cases e <;> first | rfl | cases hl
theorem cE_nocomp {sc : Scope} {n : Nat} {e : PySem.Expr} {c : E} (h : cE T N n sc e = some c) (hl : noLC e = true) : noCp e = true := by
  cases n with
  | zero => simp [cE] at h
  | succ n => cases e <;> first | rfl | (cases hl; done) | simp [cE] at h
theorem sw_none {ts : List PySem.Expr} {kk : Nat} {p : Pos} {e : PySem.Expr} {env : Env} (h : (match e with | .Tuple .. => false | .ListComp .. => false | _ => true) = true) : swappedStores [.Tuple ts kk p] e env = pure none := by
  cases e <;> first | rfl | cases h
end Mi
namespace Mi
open PySem PySem.Spec PyProof.Rows L2
variable {T : Tb} {N : List Str} {Γ : Str → FS} {G : Str → Option D} {k : Nat}
theorem cH_plain {sc : Scope} {nm : Str} {n : Nat} {e : PySem.Expr} {h : HE} (q : cH T sc nm n e = some h) : plainX e = true := by
  cases n with
  | zero => simp [cH] at q
  | succ n => cases e <;> first | rfl | simp [cH] at q
def rIsX (K : PySem.W.Frag) (a : Addr) (cls : Value) (d : Option Addr) : List V → Hp → VK → Prop := fun xs H Q => ∃ (D : Addr) (c : V) (cv : Value) (b : Bool), cls = .ref D ∧ ExcC K D ∧ xs = [.ref a, c] ∧ (∀ u, RelV c u → u = cv) ∧ PySem.W.kitOne K (.ref D) cv = some b ∧
  (match d with | none => True | some dd => ∃ fs, H dd = some (.xd fs)) ∧ Q (.bl b) H
theorem call_isX {X : Cx} {a : Addr} {cls : Value} {d : Option Addr} {oe : Obj} {pn : List (Addr × Obj)} (hz : Zc cls d oe) (hf : ∃ vs, oe.data = .fields vs) : CallR (X.suite a ((a, oe) :: pn)) (.builtin "isinstance") (rIsX X.K a cls d) := by
  intro pins s σ H xs us Q I r h
  obtain ⟨D, c, cv, b, ec, C, rfl, hcv, e, hd, q⟩ := h
  subst ec
  cases r with
  | cons rx rr =>
    cases rr with
    | cons rt rr =>
      cases rr
      cases rx
      have ec := hcv _ rt
      subst ec
      obtain ⟨hget, _⟩ := I.pin (a, oe) (List.mem_append.mpr (.inl List.mem_cons_self))
      obtain ⟨vs, hv⟩ := hf
      have J : ∃ od, PySem.W.InstAt s.heap a oe D od := by
        obtain ⟨oc, od, oda, osl⟩ := oe
        obtain ⟨h1, h2⟩ := hz
        dsimp only at h1 h2 hv
        subst h1 h2 hv
        cases od with
        | none => exact ⟨none, hget, rfl, rfl, trivial⟩
        | some dd =>
          obtain ⟨fs, ed⟩ := hd
          have hx : ObjOk X.prog X.w H s.heap dd (.xd fs) := I.hok dd _ ed
          obtain ⟨mA, hns, hr⟩ := hx
          obtain ⟨od, ho, hl⟩ := lookIn_ns hns
          exact ⟨some od, hget, rfl, rfl, ho⟩
      obtain ⟨od, J⟩ := J
      exact PySem.W.kia_one (PySem.W.kitx_exc (by obtain ⟨cd, hc, _⟩ := PySem.W.any_some C.hd; rw [hc]; rfl) C.hg C.hk C.hs C.ha C.hn C.ht C.hm) I.kIn J e (fun z => nomatch z) fun tk => ⟨.bl b, H, I.kept (t' := tk) fun _ _ z => z, rfl, q⟩
def Up (H H' : Hp) : Prop := ∀ a o, H a = some o → H' a = some o
theorem Up.refl {H : Hp} : Up H H := fun _ _ h => h
theorem Up.trans {H H1 H2 : Hp} (a : Up H H1) (b : Up H1 H2) : Up H H2 := fun c o h => b c o (a c o h)
theorem Up.new {H : Hp} {p : Addr} {o : HO} (h : H p = none) : Up H (L2.upd H p o) := fun a u e => by rw [upd_ne (fun z => by rw [z, h] at e; cases e)]; exact e
theorem Up.ext {H H' : Hp} (u : Up H H') : Ext H H' := ⟨fun c xs h => u _ _ h, fun c o v h => u _ _ h⟩
theorem RX.up {K : PySem.W.Frag} {H H' : Hp} {x : Exc} {c : Value} {dx : Option Addr} (h : RX K H x c dx) (u : Up H H') : RX K H' x c dx := by
  obtain ⟨h1, h2⟩ := h
  refine ⟨h1, ?_⟩
  cases dx with
  | none => exact h2
  | some d =>
    obtain ⟨ws, e, r⟩ := h2
    exact ⟨ws, u _ _ e, RF.ext u.ext r⟩
theorem RF.look {K : PySem.W.Frag} {H : Hp} {n : Str} {d : D} : ∀ {l : List (Str × D)} {ws : List (Str × V)}, RF K H l ws → l.lookup n = some d → ∃ v, ws.lookup n = some v ∧ RD K H d v
  | [], ws, _, e => by cases e
  | (m, d') :: l, ws, h, e => by
    rw [RF] at h
    obtain ⟨v, r, rfl, h1, h2⟩ := h
    rw [List.lookup_cons] at e ⊢
    cases c : n == m with
    | true =>
      rw [c] at e
      cases e
      exact ⟨v, rfl, h1⟩
    | false =>
      rw [c] at e
      exact RF.look h2 e
def LH (K : PySem.W.Frag) (i : Nat) (a : Addr) (cls : Value) (d : Option Addr) (h : HE) : TE := fun τ H Q => ∃ x S F dd, RX K H x cls d ∧ SubC K (gAd K x.cls) ∧ τ[i]? = some (some (.ref a)) ∧ Rel K S F H ∧ hE h x = some dd ∧ ∀ v H', Up H H' → Rel K S F H' → RD K H' dd v → Q v H'
theorem pe_name {X : Cx} {x : Str} {v : V} {u : Value} {pos : Pos} (hg : Gl X x) (hm : X.mg x = some u ∨ (X.mg x = none ∧ bootBuiltins x = some u)) (r : RelV v u) (ok : okN x = true) : PE X (.Name x pos) (tC v) := by
  rcases hm with hm | ⟨hm, hb⟩
  · exact pe_glob hg hm r (okN_1 ok).1
  · exact pe_bltn hg hm hb r (okN_1 ok).2.2 (okN_1 ok).1
theorem sub_mem {c x : Str} {b : Bool} (h : (subOf T c).lookup x = some b) : (x, c, b) ∈ T.sub := by
  unfold subOf at h
  have : ∀ l : List (Str × Str × Bool), (l.filterMap fun y => if y.2.1 = c then some (y.1, y.2.2) else none).lookup x = some b → (x, c, b) ∈ l := by
    intro l
    induction l with
    | nil => intro h; cases h
    | cons y l ih =>
      intro h
      rw [List.filterMap_cons] at h
      by_cases hy : y.2.1 = c
      · rw [if_pos hy] at h
        simp only [List.lookup_cons] at h
        split at h
        · rename_i e
          have e' : x = y.1 := eq_of_beq e
          have e2 := Option.some.inj h
          obtain ⟨y1, y2, y3⟩ := y
          simp only at hy e' e2
          subst hy e' e2
          exact List.mem_cons_self
        · exact List.mem_cons_of_mem _ (ih h)
      · rw [if_neg hy] at h
        exact List.mem_cons_of_mem _ (ih h)
  exact this _ h
theorem cH_sound {X : Cx} {W : WX} {sc : Scope} {own : Str → Bool} (g : Gd T N Γ G X W sc own k) {a : Addr} {cls : Value} {d : Option Addr} {oe : Obj} {pn : List (Addr × Obj)} (hz : Zc cls d oe) (hf : ∃ vs, oe.data = .fields vs) {nm : Str} {i : Nat} (hi : N[i]? = some nm) (hl : sc.names.lookup nm = some .local) (ok : okN nm = true) :
    ∀ (n : Nat) (e : PySem.Expr) (h : HE), cH T sc nm n e = some h → PE (X.suite a ((a, oe) :: pn)) e (LH X.K i a cls d h) := by
  have pv : ∀ pos, PE (X.suite a ((a, oe) :: pn)) (.Name nm pos) (tVar i) := fun pos => pe_var (by rw [show (X.suite a ((a, oe) :: pn)).N = X.N from rfl, g.N_eq]; exact hi) (.inl (by rw [show (X.suite a ((a, oe) :: pn)).env = X.env from rfl, g.sc_eq]; exact hl)) (okN_1 ok).1 (okN_1 ok).2.1
  have andP : ∀ {e1 e2 : PySem.Expr} {r : List PySem.Expr} {pos : Pos} {h1 h2 : HE}, PE (X.suite a ((a, oe) :: pn)) e1 (LH X.K i a cls d h1) → PE (X.suite a ((a, oe) :: pn)) (.BoolOp .And (e2 :: r) pos) (LH X.K i a cls d h2) → PE (X.suite a ((a, oe) :: pn)) (.BoolOp .And (e1 :: e2 :: r) pos) (LH X.K i a cls d (.and h1 h2)) := by
    intro e1 e2 r pos h1 h2 p1 p2
    refine PE.imp (pe_and p1 p2) fun τ H Q ⟨x, S, F, dd, rx, sx, ti, rel, hE1, kv⟩ => ?_
    simp only [hE] at hE1
    split at hE1
    case h_1 c hc =>
      refine ⟨x, S, F, _, rx, sx, ti, rel, hc, fun v H1 e1 rel1 rd1 => ⟨c, by rw [rd1.bli], ?_⟩⟩
      cases c with
      | true =>
        rw [if_pos rfl] at hE1 ⊢
        exact ⟨x, S, F, dd, RX.up rx e1, sx, ti, rel1, hE1, fun v H2 e2 => kv v H2 (e1.trans e2)⟩
      | false =>
        rw [if_neg Bool.false_ne_true] at hE1 ⊢
        cases hE1
        exact kv _ _ e1 rel1 .bl
    case h_2 => cases hE1
  intro n
  induction n with
  | zero => intro e h q; simp [cH] at q
  | succ n ih =>
    intro e h q
    unfold cH at q
    split at q
    case h_1 => contradiction
    case h_2 e1 e2 pos hn =>
      cases hn
      simp only [bind, Option.bind_eq_some_iff, pure, Option.some.injEq] at q
      obtain ⟨a', h1, b', h2, rfl⟩ := q
      exact andP (ih _ _ h1) (pe_one (ih _ _ h2))
    case h_3 e1 e2 e3 pos hn =>
      cases hn
      simp only [bind, Option.bind_eq_some_iff, pure, Option.some.injEq] at q
      obtain ⟨a', h1, b', h2, rfl⟩ := q
      exact andP (ih _ _ h1) (ih _ _ h2)
    case h_4 e1 e2 e3 e4 pos hn =>
      cases hn
      simp only [bind, Option.bind_eq_some_iff, pure, Option.some.injEq] at q
      obtain ⟨a', h1, b', h2, rfl⟩ := q
      exact andP (ih _ _ h1) (ih _ _ h2)
    case h_5 e1 pos hn =>
      cases hn
      simp only [Option.map_eq_some_iff] at q
      obtain ⟨a', h1, rfl⟩ := q
      refine PE.imp (pe_not (ih _ _ h1)) fun τ H Q ⟨x, S, F, dd, rx, sx, ti, rel, hE1, kv⟩ => ?_
      simp only [hE] at hE1
      split at hE1
      case h_1 c hc =>
        cases hE1
        exact ⟨x, S, F, _, rx, sx, ti, rel, hc, fun v H1 e1 rel1 rd1 => ⟨c, by rw [rd1.bli], kv _ _ e1 rel1 .bl⟩⟩
      case h_2 => cases hE1
    case h_6 f p1 e1 p2 c p3 pos hn =>
      cases hn
      split at q
      case isFalse => cases q
      case isTrue hh =>
        cases q
        simp only [Bool.and_eq_true, decide_eq_true_eq] at hh
        obtain ⟨⟨⟨⟨⟨h1, h2⟩, h3⟩, h4⟩, h5⟩, h6⟩ := hh
        subst h3 h4
        rw [List.any_eq_true] at h6
        obtain ⟨y, hy, hyc⟩ := h6
        obtain ⟨y1, y2, y3⟩ := y
        simp only [decide_eq_true_eq] at hyc
        subst hyc
        have sf := g.lk.sub _ _ _ hy
        obtain ⟨v, r1, r2⟩ := sf.rel
        have gl : ∀ {x : Str}, glB sc x = true → Gl (X.suite a ((a, oe) :: pn)) x := fun h => g.gl h
        refine PE.imp (pe_callB (call_isX hz hf) (gl h1) (g.lk.free _ h2) boot_isi (pa_cons (pv p2) (pa_cons (pe_name (gl h5) sf.nm r1 (glB_ok h5).2) pa_nil))) fun τ H Q ⟨x, S, F, dd, rx, sx, ti, rel, hE1, kv⟩ => ?_
        simp only [hE, Option.map_eq_some_iff] at hE1
        obtain ⟨b, hb, rfl⟩ := hE1
        have sf2 := g.lk.sub _ _ _ (sub_mem hb)
        refine ⟨.ref a, ti, ?_⟩
        refine ⟨gAd X.K x.cls, v, _, b, rx.1, sx.ec, rfl, r2, sf2.kit, ?_, kv _ _ .refl rel .bl⟩
        cases d with
        | none => trivial
        | some d' =>
          obtain ⟨ws, e, _⟩ := rx.2
          exact ⟨ws, e⟩
    case h_7 e1 p1 w p2 z p3 p4 pos hn =>
      cases hn
      split at q
      case isFalse => cases q
      case isTrue hh =>
        cases q
        simp only [Bool.and_eq_true, decide_eq_true_eq] at hh
        obtain ⟨⟨h1, h2⟩, h3⟩ := hh
        subst h1 h2
        by_cases hC : ∃ C, cls = .ref C ∧ SubC X.K C
        · obtain ⟨C, rfl, sC⟩ := hC
          refine PE.imp (pe_cmpR op_eq (pe_xf sC.xf sC.hno hz hf (pv _)) pe_str rfl) fun τ H Q ⟨x, S, F, dd, rx, sx, ti, rel, hE1, kv⟩ => ?_
          simp only [hE] at hE1
          split at hE1
          case h_1 y hy =>
            cases hE1
            obtain ⟨rx1, rx2⟩ := rx
            cases d with
            | none =>
              have rx2 : x.fs = [] := rx2
              rw [rx2] at hy
              cases hy
            | some d' =>
              obtain ⟨ws, e, rf⟩ := rx2
              obtain ⟨v, h1, h2⟩ := RF.look rf hy
              refine ⟨.ref a, ti, rfl, rfl, d', ws, v, rfl, e, h1, ?_⟩
              rw [h2.stri.1]
              refine ⟨rfl, ?_⟩
              have ed : decide (V.str y = V.str z) = decide (y = z) := decide_eq_decide.mpr ⟨fun q => by cases q; rfl, fun q => by rw [q]⟩
              rw [ed]
              exact kv _ _ .refl rel .bl
          case h_2 => cases hE1
        · refine ⟨fun pins s σ H Q I ⟨x, S, F, dd, rx, sx, _⟩ => absurd ⟨_, rx.1, sx⟩ hC⟩
    case h_8 z p1 p2 e1 x1 pos hn =>
      cases hn
      split at q
      case isFalse => cases q
      case isTrue hz' =>
        simp only [Option.map_eq_some_iff] at q
        obtain ⟨a', h1, rfl⟩ := q
        refine PE.imp (pe_tupF (pa_cons pe_str (pa_cons (ih _ _ h1) pa_nil (plain_star (cH_plain h1) [] _)))) fun τ H Q ⟨x, S, F, dd, rx, sx, ti, rel, hE1, kv⟩ => ?_
        simp only [hE] at hE1
        split at hE1
        case h_1 c hc =>
          cases hE1
          refine ⟨x, S, F, _, rx, sx, ti, rel, hc, fun v H1 e1 rel1 rd1 => ⟨?_, fun p o hp ho => ?_⟩⟩
          · rw [sizeLine_eq]; exact (show (2 : Nat) ≤ 16777216 by decide)
          · exact kv _ _ (e1.trans (.new hp)) (rel1.tup hp) (.tupNew hp ho (.cons (by rw [RD]; exact ⟨rfl, hz'⟩) (.cons rd1 .nil)))
        case h_2 => cases hE1
    case h_9 => cases q
end Mi
namespace Mi
open PySem PySem.Spec PyProof.Rows L2
variable {T : Tb} {N : List Str} {Γ : Str → FS} {G : Str → Option D} {k : Nat}
theorem ls_set {K : PySem.W.Frag} {W : WX} {i : Nat} {w1 : WE1} {D : Ends} {τ : L2.St} {H : Hp} (h : LS K W (fun N σ S => w1 σ S (fun d S1 => N.nx (σ.set i (some d)) S1) fun x S1 => N.xr x σ S1) D τ H) : LE K W w1 τ H fun x H1 => D.nx (τ.set i (some x)) H1 := by
  obtain ⟨σ, S, F, N, rel, rs, hw, lk⟩ := h
  exact ⟨σ, S, F, _, _, rel, rs, hw, fun d S1 x H1 q e r rd => lk.nx _ _ _ _ q e r ((rs.ext e).set i rd), lk.kxs rs⟩
theorem ll_set {K : PySem.W.Frag} {W : WX} {i : Nat} {w : En → Sto → (List D → Sto → Prop) → KX → Prop} {D : Ends} {τ : L2.St} {H : Hp} (h : LS K W (fun N σ S => w σ S (fun ds S2 => ∀ p, S2 p = none → N.nx (σ.set i (some (.ref p))) (S2.upd p (.lst ds))) fun x S1 => N.xr x σ S1) D τ H) :
    LL K W w τ H fun x H1 => D.nx (τ.set i (some x)) H1 := by
  obtain ⟨σ, S, F, N, rel, rs, hw, lk⟩ := h
  exact ⟨σ, S, F, _, _, rel, rs, hw, fun ds S' a vs H' q e fa rel' rd => lk.nx _ _ _ _ (q a (rel'.sep a _ upd_same)) e (rel'.show fa rd) ((rs.ext e).set i .ref), lk.kxs rs⟩
theorem stepS {n : Nat} (hA' : All T N Γ G k (n - 1)) (hA : All T N Γ G k n) (hSs : SSs T N Γ G k n) : SS T N Γ G k (n + 1) := by
  intro X W sc g st s c h
  unfold cS at h
  split at h
  case h_1 => contradiction
  case h_2 x py e pos hn =>
    cases hn
    simp only [bind, Option.bind_eq_some_iff, pure, Option.some.injEq] at h
    obtain ⟨i, h1, e', h2, _, h3, rfl⟩ := h
    rw [gd_some] at h3
    obtain ⟨h4, h5⟩ := locIx_ok h1
    have hi : X.N[i]? = some x := by rw [g.N_eq]; exact h4
    have hx : Loc X.env.scope x := by rw [g.sc_eq]; rcases h5 with h5 | h5; exact .inl h5; exact .inr h5.1
    have hN : X.N.Nodup := by rw [g.N_eq]; exact g.nd
    cases hl : noLC e with
    | true => exact PS.imp (ps_set hN hi hx (hA.e X W _ _ g e e' h2) (sw_false (cE_plain h2) (cE_nocomp h2 hl)) (.inl (g.own x rfl))) fun D τ H q => ls_set q
    | false =>
      cases n with
      | zero => simp [cE] at h2
      | succ n =>
      unfold cE at h2
      split at h2 <;> first | (cases hl; done) | (cases h2; done) | skip
      case h_18 elt tg it ifs scope p hm =>
        cases hm
        rw [Bool.and_eq_true, Bool.and_eq_true, decide_eq_true_eq] at h3
        obtain ⟨⟨h6, h7⟩, h8⟩ := h3
        obtain ⟨e1, tg1, it1, c1, vs, rfl, _, hp⟩ := hA'.c X W _ _ g _ _ _ _ _ _ _ h2
        have hyl : X.env.scope.names.lookup x = some .local := by rw [g.sc_eq]; exact h7
        refine PS.imp (hp p pos i x py hi hyl (sw_true (by rw [g.sc_eq]; exact g.kd) hyl h6 (by rw [Bool.not_eq_true'] at h8; exact h8))) fun D τ H q => ll_set q
  case h_3 ts kk p e pos hn =>
    cases hn
    simp only [bind, Option.bind_eq_some_iff, pure, Option.some.injEq] at h
    obtain ⟨ts', h1, _, h2, e', h3, rfl⟩ := h
    rw [gd_some] at h2
    have hlc : noLC e = true := by cases e <;> first | rfl | cases h2
    refine PS.imp (ps_asg (hA.e X W _ _ g e e' h3) (sG g n _ ts' false h1 (fun z => nomatch z)) (show swapsWith e (some (.Tuple ts kk p)) pos.line X.env = pure false from sw_false (cE_plain h3) (cE_nocomp h3 hlc)) (sw_none h2)) fun D τ H ⟨σ, S, F, N, rel, rs, hw, lk⟩ => ?_
    refine ⟨σ, S, F, _, _, rel, rs, hw, fun d S1 x H1 q e1 r rd => ?_, lk.kxs rs⟩
    exact ⟨d, σ, _, rd, rs.ext e1, q, fun σ' τ' q' rs' _ => lk.nx _ _ _ _ q' e1 r rs'⟩
  case h_4 o i p e pos hn =>
    cases hn
    simp only [bind, Option.bind_eq_some_iff, pure, Option.some.injEq] at h
    obtain ⟨_, h1, _, h2, o', h3, i', h4, e', h5, rfl⟩ := h
    rw [gd_some] at h1 h2
    have hlc : noLC e = true := by cases e <;> first | rfl | cases h2
    refine PS.imp (ps_asg (hA.e X W _ _ g e e' h5) (pg_sub (hA.e X W _ _ g o o' h3) (hA.e X W _ _ g i i' h4) (set_sound g.room) (by intro v; cases i <;> first | rfl | cases h1)) (show swapsWith e (some (.Subscript o i p)) pos.line X.env = pure false from sw_false (cE_plain h5) (cE_nocomp h5 hlc))) fun D τ H ⟨σ, S, F, N, rel, rs, hw, lk⟩ => ?_
    refine ⟨σ, S, F, _, _, rel, rs, hw, fun d S1 x H1 q1 e1 rel1 rd1 => ?_, lk.kxs rs⟩
    refine ⟨σ, S1, F, _, _, rel1, rs.ext e1, q1, fun d2 S2 y H2 q2 e2 rel2 rd2 => ?_, (lk.ext e1).kxs (rs.ext e1)⟩
    refine ⟨σ, S2, F, _, _, rel2, rs.ext (e1.trans e2), q2, fun d3 S3 z H3 q3 e3 rel3 rd3 => ?_, (lk.ext (e1.trans e2)).kxs (rs.ext (e1.trans e2))⟩
    exact ⟨d2, d3, d, S3, F, _, rel3, RD.ext e3 _ _ rd2, rd3, RD.ext (e2.trans e3) _ _ rd1, q3, fun S' H' q' e' r' => lk.nx _ _ _ _ q' (((e1.trans e2).trans e3).trans e') r' (rs.ext (((e1.trans e2).trans e3).trans e'))⟩
  case h_5 f p1 e pos p2 hn =>
    cases hn
    simp only [bind, Option.bind_eq_some_iff, pure, Option.some.injEq] at h
    obtain ⟨_, h1, e', h2, rfl⟩ := h
    rw [gd_some, Bool.and_eq_true] at h1
    have ef := g.lk.exc _ h1.2
    obtain ⟨fI, F0, nf, iC, tI⟩ := ef.ini
    refine PS.imp (ps_raise g.calm g.tk (pmk_nf (k := 0) (te := LE X.K W (wE Γ G e')) nf iC tI (g.room.mono g.k2) (fun _ _ _ _ i q => LE.monoQ q i) (g.gl h1.1) ef.mgx (hA.e X W _ _ g e e' h2) (okN_1 (glB_ok h1.1).2).1 (plain_star (cE_plain h2) [] X.env))) fun D τ H ⟨σ, S, F, N, rel, rs, hw, lk⟩ => ?_
    refine ⟨σ, S, F, _, _, rel, rs, hw, fun d S1 v H1 q e1 rel1 rd1 => ?_, lk.kxs rs⟩
    cases d <;> first | exact (show False from q).elim | skip
    rename_i z
    obtain ⟨q1, q2⟩ : z.length ≤ 1000000 ∧ N.xr ⟨f, [("word", .str z)]⟩ σ S1 := q
    refine ⟨z, rd1.stri.1, q1, fun d hd => ?_⟩
    refine lk.xr _ _ _ _ _ _ _ q2 (e1.trans (.new hd)) (rel1.tup hd) (rs.ext (e1.trans (.new hd))) ⟨rfl, _, upd_same, ?_⟩
    rw [RF]
    exact ⟨.str z, [], rfl, by rw [RD]; exact ⟨rfl, rd1.stri.2⟩, by rw [RF]⟩
  case h_6 b x p1 nm e p2 p3 p4 hn =>
    cases hn
    have e0 := g.sc_eq
    subst e0
    simp only [bind, Option.bind_eq_some_iff, pure, Option.some.injEq] at h
    obtain ⟨i, h0, _, h1, hh, h2, b', h3, rfl⟩ := h
    rw [gd_some, Bool.and_eq_true, Bool.and_eq_true] at h1
    obtain ⟨⟨h4, h5⟩, h6⟩ := h1
    obtain ⟨hl, hi⟩ : X.env.scope.names.lookup nm = some .local ∧ ixOf N nm = some i := by
      split at h0
      case h_1 e => exact ⟨e, h0⟩
      case h_2 => cases h0
    have hi' := ixOf_get hi
    rw [List.any_eq_true] at h6
    obtain ⟨⟨y1, y2, y3⟩, hy, hyc⟩ := h6
    simp only [decide_eq_true_eq] at hyc
    subst hyc
    have sf := g.lk.sub _ _ _ hy
    have nms : Names X y2 (cvOf X.mg y2) := ⟨g.gl h4, (okN_1 (glB_ok h4).2).1, by
      rcases sf.nm with z | ⟨z1, z2⟩
      · exact .inl z
      · exact .inr ⟨z1, z2, (okN_1 (glB_ok h4).2).2.2⟩⟩
    refine PS.imp (ps_try_as (tb := fun W => LS X.K W (wSs Γ G b')) (i := i) (n := nm) (c := cvOf X.mg y2) (Wout := W) (ts := fun a cls d => tRet (LH X.K i a cls d hh)) st.stk st.frm (by rw [g.N_eq]; exact g.nd) (by rw [g.N_eq]; exact hi') hl nms g.tk
      (fun W1 pn xe tk1 po1 => hSs (X.tr pn xe) W1 _ ⟨g.N_eq, g.sc_eq, g.nd, g.kd, g.room, g.k2, g.calm, tk1, po1, g.own, g.lk⟩ ⟨st.stk, st.frm⟩ b b' h3)
      (fun a oe cls d pn hz hf => pss_one (ps_ret (cH_sound g hz hf hi' hl h5 n e hh h2)))) fun D τ H ⟨σ, S, F, N, rel, rs, hw, lk⟩ => ?_
    refine ⟨σ, S, F, _, rel, rs, hw, lk.nx, lk.rt, lk.bk, lk.ct, fun x σ1 S1 τ1 c dx H1 q e1 rel1 rs1 rx1 => ?_⟩
    dsimp only at q
    split at q
    case h_1 cb hcb =>
      have sf2 := g.lk.sub _ _ _ (sub_mem hcb)
      refine ⟨cb, by rw [rx1.1]; exact sf2.exm, fun hb a ha => ?_, fun hb => ?_⟩
      · subst hb
        rw [if_pos rfl] at q
        obtain ⟨q1, q2⟩ := q
        split at q2
        case h_1 dd hdd =>
          exact ⟨x, S1, F, dd, rx1, sf2.sc, by rw [List.getElem?_set_self (by have z := rs1.1; omega)], rel1, hdd, fun v H2 u2 rel2 rd2 => lk.rt _ _ _ _ q2 (e1.trans u2.ext) rel2 rd2⟩
        case h_2 => exact q2.elim
      · subst hb
        rw [if_neg Bool.false_ne_true] at q
        exact lk.xr _ _ _ _ _ _ _ q e1 rel1 rs1 rx1
    case h_2 => exact q.elim
  case h_7 =>
    cases h
    exact PS.imp ps_doc fun D τ H ⟨σ, S, F, N, rel, rs, hw, lk⟩ => lk.nx _ _ _ _ hw .refl rel rs
  case h_8 e pos _ hn =>
    cases hn
    simp only [bind, Option.bind_eq_some_iff, pure, Option.some.injEq] at h
    obtain ⟨_, h1, e', h2, rfl⟩ := h
    rw [gd_some] at h1
    have hsw : swapsWith e none pos.line X.env = pure false := by cases e <;> first | rfl | cases h1
    refine PS.imp (ps_expr (hA.e X W _ _ g e e' h2) hsw) fun D τ H ⟨σ, S, F, N, rel, rs, hw, lk⟩ => ?_
    exact ⟨σ, S, F, _, _, rel, rs, hw, fun d S1 x H1 q e1 r rd => lk.nx _ _ _ _ q e1 r (rs.ext e1), lk.kxs rs⟩
  case h_9 e pos hn =>
    cases hn
    simp only [Option.map_eq_some_iff] at h
    obtain ⟨e', h1, rfl⟩ := h
    refine PS.imp (ps_ret (hA.e X W _ _ g e e' h1)) fun D τ H ⟨σ, S, F, N, rel, rs, hw, lk⟩ => ?_
    exact ⟨σ, S, F, _, _, rel, rs, hw, fun d S1 x H1 q e1 r rd => lk.rt _ _ _ _ q e1 r rd, lk.kxs rs⟩
  case h_10 =>
    cases h
    exact PS.imp ps_retN fun D τ H ⟨σ, S, F, N, rel, rs, hw, lk⟩ => lk.rt _ _ _ _ hw .refl rel .non
  case h_11 =>
    cases h
    exact PS.imp ps_pass fun D τ H ⟨σ, S, F, N, rel, rs, hw, lk⟩ => lk.nx _ _ _ _ hw .refl rel rs
  case h_12 =>
    cases h
    exact PS.imp ps_break fun D τ H ⟨σ, S, F, N, rel, rs, hw, lk⟩ => lk.bk _ _ _ _ hw .refl rel rs
  case h_13 =>
    cases h
    exact PS.imp ps_continue fun D τ H ⟨σ, S, F, N, rel, rs, hw, lk⟩ => lk.ct _ _ _ _ hw .refl rel rs
  case h_14 t a b pos hn =>
    cases hn
    simp only [bind, Option.bind_eq_some_iff, pure, Option.some.injEq] at h
    obtain ⟨t', h1, a', h2, b', h3, rfl⟩ := h
    refine PS.imp (ps_if (hA.t X W _ _ g t t' h1) (hSs X W _ g st a a' h2) (hSs X W _ g st b b' h3)) fun D τ H ⟨σ, S, F, N, rel, rs, hw, lk⟩ => ?_
    refine ⟨σ, S, F, _, _, rel, rs, hw, fun c S1 H1 q e1 r => ?_, lk.kxs rs⟩
    cases c with
    | true => exact ⟨σ, S1, F, N, r, rs.ext e1, q, lk.ext e1⟩
    | false => exact ⟨σ, S1, F, N, r, rs.ext e1, q, lk.ext e1⟩
  case h_15 t b pos hn =>
    cases hn
    simp only [bind, Option.bind_eq_some_iff, pure, Option.some.injEq] at h
    obtain ⟨t', h1, b', h2, rfl⟩ := h
    exact PS.imp (ps_while g.po (hA.t X W _ _ g t t' h1) (hSs X W _ g st b b' h2)) fun D τ H q => while_conv q
  case h_16 tg it b pos hn =>
    cases hn
    simp only [bind, Option.bind_eq_some_iff, pure, Option.some.injEq] at h
    obtain ⟨_, h0, tg', h1, it', h2, b', h3, rfl⟩ := h
    have hs : ∀ x, foldedSetIterable it X.env x = pure x := by
      rw [gd_some] at h0
      intro x
      cases it <;> first | rfl | cases h0
    exact PS.imp (ps_for g.po g.calm (hA.i X W _ _ g tg it it' h2) (sG g n tg tg' false h1 (fun z => nomatch z)) (hSs X W _ g st b b' h3) hs) fun D τ H q => for_conv q
  case h_17 => cases h
theorem ss2 : ∀ n, SS T N Γ G k n ∧ SSs T N Γ G k n
  | 0 => ⟨fun X W sc g st s c h => by simp [cS] at h, fun X W sc g st s c h => by simp [cSs] at h⟩
  | n + 1 => by
    obtain ⟨h1, h2⟩ := ss2 n
    exact ⟨stepS (all (n - 1)) (all n) h2, stepSs h1 h2⟩
theorem cSs_sound {n : Nat} {X : Cx} {W : WX} {sc : Scope} (g : Gd T N Γ G X W sc (fun _ => true) k) (st : Stk X) {s : List PySem.Stmt} {c : Ss} (h : cSs T N n sc s = some c) : PSs X s (LS X.K W (wSs Γ G c)) := (ss2 n).2 X W sc g st s c h
end Mi
namespace Mi
open PySem PySem.Spec PyProof.Rows L2
structure Dn where
  d : He.DefD
  ps : List Str
  N : List Str
  body : Ss
def startD (n : Nat) (ds : List D) : En := ds.map some ++ List.replicate (n - ds.length) none
def Gam (bd : Str → Option (Nat × Nat × Ss)) (G : Str → Option D) : Nat → Str → FS
  | 0, _ => fun _ _ _ _ => False
  | k + 1, f => fun ds S Q X => (match bd f with
    | some (np, nn, b) => ds.length = np ∧ wSs (Gam bd G k) G b ⟨fun _ S' => ∃ S0 : Sto, S0.le S' ∧ Q .non S0, fun d S' => ∃ S0 : Sto, S0.le S' ∧ Q d S0, fun _ _ => False, fun _ _ => False, fun x _ S' => ∃ S0 : Sto, S0.le S' ∧ X x S0⟩ (startD nn ds) S
    | none => False)
theorem RDs.getSome {K : PySem.W.Frag} {H : Hp} {ds : List D} {vs : List V} (h : RDs K H ds vs) (n : Nat) : RS K H (startD n ds) ((vs.map some ++ List.replicate (n - vs.length) none : L2.St)) := by
  have hl := h.length
  refine ⟨by unfold startD; simp [hl], fun i d e => ?_⟩
  unfold startD at e
  by_cases hi : i < ds.length
  · rw [List.getElem?_append_left (by simpa using hi), List.getElem?_map, Option.map_eq_some_iff] at e
    obtain ⟨d', e1, e2⟩ := e
    cases e2
    obtain ⟨v, e3, r⟩ := h.get e1
    exact ⟨v, by rw [List.getElem?_append_left (by simp; omega), List.getElem?_map, e3]; rfl, r⟩
  · rw [List.getElem?_append_right (by simpa using hi), List.getElem?_replicate] at e
    split at e
    case isTrue => cases e
    case isFalse => cases e
section
variable {P : Program} {w : World} {K : PySem.W.Frag} {mg : Str → Option Value} {base : Heap} {T : Tb} {G : Str → Option D}
structure DnOk (T : Tb) (x : Dn) : Prop where
  sc : FnScope x.N x.ps x.d.scope
  comp : ∃ n, cSs T x.N n x.d.scope x.d.body = some x.body
  bnd : ∀ (kV doc pm : Value) (an : Option Addr) (cdv ct : Value) (us : List Value), us.length = x.ps.length → bindArgs (PySem.W.fnOf x.d.name x.d.qual x.d.params x.d.body x.d.scope .none kV doc pm an cdv ct) ⟨us, []⟩ = pure (x.ps.zip us)
abbrev DnD (K : PySem.W.Frag) (x : Dn) (f : Addr) (fd : FuncData) : Prop := FunD K x.d.name x.d.qual x.d.params x.d.body x.d.scope [] [] f fd
theorem prog_ok {bd : Str → Option (Nat × Nat × Ss)} {fs : List Dn} (hT : ∀ x : Str, T.fns.contains x = true → ∃ d ∈ fs, d.d.name = x) (st : ∀ d ∈ fs, DnOk T d) (hbd : ∀ d ∈ fs, bd d.d.name = some (d.ps.length, d.N.length, d.body))
    (dy : ∀ d ∈ fs, ∃ f fd, mg d.d.name = some (.ref f) ∧ DnD K d f fd) (free : ∀ x : Str, T.free.contains x = true → mg x = none) (gcd : T.gcd = true → mg "gcd" = some (.builtin "math.gcd"))
    (glob : ∀ (x : Str) (d : D), T.glob.contains x = true → G x = some d → ∃ v u, mg x = some u ∧ RelV v u ∧ ∀ H, RD K H d v)
    (exc : ∀ x : Str, T.exc.contains x = true → ExcF P K mg x) (sub : ∀ (x c : Str) (b : Bool), (x, c, b) ∈ T.sub → SubF K mg x c b) :
    ∀ (k : Nat) (d : Dn), d ∈ fs → ∀ f fd, DnD K d f fd → FnOk P w K mg base (L2.CX P w) (k + 2) f fd d.ps (LF K (Gam bd G k d.d.name))
  | 0, d, hd, f, fd, F => ⟨fun vs H Q E h => by obtain ⟨ds, S, F, Qd, Xd, rel, rds, g, _⟩ := h; exact g.elim, fun A outer s H args us vs Q E hr e0 hb r h => by obtain ⟨ds, S, F, Qd, Xd, rel, rds, g, _⟩ := h; exact g.elim⟩
  | k + 1, d, hd, f, fd, F => by
    have S0 := st d hd
    have hb0 := hbd d hd
    have len : ∀ vs H Q E, LF K (Gam bd G (k + 1) d.d.name) vs H Q E → vs.length = d.ps.length := fun vs H Q E h => by
      obtain ⟨ds, S, F, Qd, Xd, rel, rds, g, _⟩ := h
      unfold Gam at g
      rw [hb0] at g
      rw [rds.length]
      exact g.1
    refine F.ok S0.sc len fun cdv A outer s H vs Q E hr h => ?_
    obtain ⟨n, hc⟩ := S0.comp
    have lk : Link P w K mg base T (Gam bd G k) G (k + 2) := ⟨free, gcd, glob, fun x hx => by
      obtain ⟨d', hd', rfl⟩ := hT x hx
      obtain ⟨f', fd', h1, h2⟩ := dy d' hd'
      exact ⟨f', fd', d'.ps, h1, h2.kp, h2.bindsN (st d' hd').bnd, prog_ok hT st hbd dy free gcd glob exc sub k d' hd' f' fd' h2⟩, exc, sub⟩
    have g : Gd T d.N (Gam bd G k) G (cxOf (L2.CX P w) P w K mg base d.N d.d.qual d.d.scope f cdv A outer s H E) (fun c dx _ H' => E c dx H') d.d.scope (fun _ => true) (k + 2) :=
      ⟨rfl, rfl, S0.sc.nd, S0.sc.kind, hr, by omega, rfl, L2.takes_of rfl rfl rfl rfl, L2.passes_of rfl, fun _ _ => rfl, lk⟩
    refine ⟨_, cSs_sound g ⟨rfl, rfl⟩ hc, ?_⟩
    obtain ⟨ds, S, F', Qd, Xd, rel, rds, gg, kv, kx⟩ := h
    unfold Gam at gg
    rw [hb0] at gg
    obtain ⟨hl, gg⟩ := gg
    refine ⟨_, S, F', _, rel, rds.getSome d.N.length, gg, ?_⟩
    refine ⟨fun σ S' τ H' q e r rs => ?_, fun dd S' v H' q e r rd => ?_, fun _ _ _ _ q => q.elim, fun _ _ _ _ q => q.elim, fun x σ S' τ c dx H' q e r rs rx => ?_⟩
    · obtain ⟨S1, l, q⟩ := q
      exact kv _ _ _ _ q e (r.less l) .non
    · obtain ⟨S1, l, q⟩ := q
      exact kv _ _ _ _ q e (r.less l) rd
    · obtain ⟨S1, l, q⟩ := q
      exact kx _ _ _ _ _ q e (r.less l) rx
theorem script_rd {H : Hp} {a : Addr} {ns : List Int} (hO : Only H) (h : SqL K H a (ns.map V.int)) : RD K H (.rl (ns.map D.int)) (.ref a) := by
  rw [RD]
  refine ⟨a, _, rfl, ?_, RDs.ofInts ns⟩
  rcases h with (h | h) | h
  · rcases hO a with z | ⟨o, xs, z⟩
    · rw [h] at z; cases z
    · rw [h] at z; cases z
  · exact .inl h
  · exact .inr h
theorem empty_rel {H : Hp} : Rel K (fun _ => none) (fun _ => none) H := ⟨(fun _ _ e => by cases e), (fun _ _ e => by cases e), (fun _ _ e => by cases e)⟩
end
end Mi
namespace Mi
open PySem PySem.Spec PyProof.Rows L2
theorem law_walk {l : PySem.W.OpenLaw} {n k : Nat} {q : Program} {loose : List Str} {XP : (Str → Option Value) → Heap → Prop} {YP : World → Heap → Prop} {d : DefRec} {x : Str}
    (hn : l.most = some n) (hn2 : n ≤ sizeLine) (hdf : d.params.defaults = []) (hr : Room k callerA)
    (F : ∀ (w : World) (mg : Str → Option Value) (fa : Addr) (h : Heap), YP w h → h.Ns mainGlobals mg → mg d.name = some (.ref fa) →
      ∃ (K : PySem.W.Frag) (fd : FuncData) (sp : Sp), K.In h ∧ (∀ (s : Shared) (u : Value), BindsTo s fd ⟨[u], []⟩ [(x, u)]) ∧
        (∀ (H : Hp) (a : Addr) (ns : List Int), ns.length ≤ n → Only H → SqL K H a (ns.map V.int) → sp [.ref a] H (fun v _ => v = .bl true) fun _ _ _ => False) ∧
        ∀ base : Heap, K.In base → base.Ns mainGlobals mg → FnOk l.prog w K mg base (L2.CX l.prog w) k fa fd [x] sp) :
    PySem.W.WalkO q loose XP YP l.row.toRowW d [] (fun f vs => PySem.call f vs) := by
  refine Att.attach_call hn hdf fun w s₀ s₁ mg mb fa o pm cd doc a vs ns G Y ho hd hcd hmg hobj hints hlen hg => ?_
  obtain ⟨K, fd, sp, KX, hb, hsp, hF⟩ := F w mg fa _ Y G.T.g hmg
  refine law_call KX G.T.g G.T.b G.T.builtins G.T.nolimit hg hobj hints (Nat.le_trans hlen hn2) hr hF hb (fun H hO hS => hsp H a ns hlen hO hS) fun H e s' c => ?_
  obtain ⟨_, _, _, _, _, _, _, _, _, _, _, _, z⟩ := c
  exact z
end Mi
namespace Mi
open PySem PySem.Spec PyProof.Rows L2
theorem gam {bd : Str → Option (Nat × Nat × Ss)} {G : Str → Option D} {f : Str} {np nn : Nat} {b : Ss} (h : bd f = some (np, nn, b)) {k : Nat} {ds : List D} {S : Sto} {Q : KD} {X : KX} (hl : ds.length = np)
    (w : wSs (Gam bd G k) G b ⟨fun _ S' => ∃ S0 : Sto, S0.le S' ∧ Q .non S0, fun d S' => ∃ S0 : Sto, S0.le S' ∧ Q d S0, fun _ _ => False, fun _ _ => False, fun x _ S' => ∃ S0 : Sto, S0.le S' ∧ X x S0⟩ (startD nn ds) S) : Gam bd G (k + 1) f ds S Q X := by
  unfold Gam
  rw [h]
  exact ⟨hl, w⟩
theorem forL_inv {tg : Tg} {b : De → En → Sto → Prop} {chk : Sto → Prop} {N : De} (l : List D) (I : Nat → En → Sto → Prop) (hchk : ∀ i σ S, I i σ S → chk S)
    (step : ∀ i d σ S (NX : En → Sto → Prop), l[i]? = some d → I i σ S → (∀ σ' S', I (i + 1) σ' S' → NX σ' S') → wG tg d σ fun σ' => b { N with nx := NX, ct := NX, bk := N.nx } σ' S)
    (fin : ∀ σ S, I l.length σ S → N.nx σ S) {σ : En} {S : Sto} (h0 : I 0 σ S) : forL tg b chk l N σ S := by
  have key : ∀ (r : List D) (i : Nat), l.drop i = r → i ≤ l.length → ∀ σ S, I i σ S → forL tg b chk r N σ S := by
    intro r
    induction r with
    | nil =>
      intro i hd hi σ S h
      have e : i = l.length := by
        have := congrArg List.length hd
        rw [List.length_drop, List.length_nil] at this
        omega
      subst e
      exact ⟨hchk _ _ _ h, fin _ _ h⟩
    | cons d r ih =>
      intro i hd hi σ S h
      have hl : i < l.length := by
        have := congrArg List.length hd
        rw [List.length_drop, List.length_cons] at this
        omega
      have he : l[i]? = some d := by
        have := List.drop_eq_getElem_cons hl
        rw [hd] at this
        injection this with e1 e2
        rw [List.getElem?_eq_getElem hl, e1]
      have hr : l.drop (i + 1) = r := by
        have := List.drop_eq_getElem_cons hl
        rw [hd] at this
        injection this with e1 e2
        exact e2.symm
      exact ⟨hchk _ _ _ h, step i d σ S _ he h fun σ' S' h' => ih (i + 1) hr hl σ' S' h'⟩
  exact key l 0 rfl (Nat.zero_le _) σ S h0
theorem cmpL_pure {tg : Tg} {c : En → Sto → (Bool → Sto → Prop) → Prop} {e : En → Sto → KD → Prop} {chk : Sto → Prop} {σ : En} {S : Sto} (g : D → Option D) (hc : chk S) : ∀ {l : List D} {Q : List D → Sto → Prop},
    (∀ d ∈ l, ∀ P : Option D → Sto → Prop, P (g d) S → wG tg d σ fun σ' => c σ' S fun b S1 => if b = true then e σ' S1 fun v S2 => P (some v) S2 else P none S1) → Q (l.filterMap g) S → cmpL tg c e chk l σ S Q
  | [], Q, h, q => ⟨hc, q⟩
  | d :: l, Q, h, q => by
    refine ⟨hc, h d (List.mem_cons_self ..) (fun o S2 => match o with | some v => cmpL tg c e chk l σ S2 fun vs S3 => Q (v :: vs) S3 | none => cmpL tg c e chk l σ S2 Q) ?_⟩
    rw [List.filterMap_cons] at q
    cases hg : g d with
    | none =>
      rw [hg] at q
      exact cmpL_pure g hc (fun d' hd => h d' (List.mem_cons_of_mem _ hd)) q
    | some v =>
      rw [hg] at q
      exact cmpL_pure g hc (fun d' hd => h d' (List.mem_cons_of_mem _ hd)) q
theorem Sto.le_set {S S' : Sto} {p : Addr} {c c' : Cell} (h : (S.upd p c).le S') : (S.upd p c').le (S'.upd p c') := fun a x e => by
  by_cases ha : a = p
  · subst ha; rw [Sto.upd_same] at e ⊢; exact e
  · rw [Sto.upd_ne ha] at e ⊢
    exact h a x (by rw [Sto.upd_ne ha]; exact e)
theorem Sto.le_new' {A S' : Sto} {p : Addr} {c : Cell} (h : A.le S') (e : S' p = none) : A.le (S'.upd p c) := fun a x q => by
  have := h a x q
  rw [Sto.upd_ne (Sto.ne_of this e)]
  exact this
theorem Sto.le_at {S S' : Sto} {p : Addr} {c : Cell} (h : (S.upd p c).le S') : S' p = some c := h p c Sto.upd_same
theorem Sto.le_of {S S' : Sto} {p : Addr} {c : Cell} (e : S p = none) (h : (S.upd p c).le S') : S.le S' := fun a x q => h a x (by rw [Sto.upd_ne (Sto.ne_of q e)]; exact q)
def Sto.off (a : Addr) (S S' : Sto) : Prop := ∀ b c, b ≠ a → S b = some c → S' b = some c
theorem Sto.off.refl {a : Addr} {S : Sto} : S.off a S := fun _ _ _ h => h
theorem Sto.off.trans {a : Addr} {S S1 S2 : Sto} (h : S.off a S1) (g : S1.off a S2) : S.off a S2 := fun b c hb e => g b c hb (h b c hb e)
theorem Sto.off.new {a p : Addr} {S S1 : Sto} {c : Cell} (h : S.off a S1) (e : S1 p = none) : S.off a (S1.upd p c) := fun b x hb q => by
  have := h b x hb q
  rw [Sto.upd_ne (Sto.ne_of this e)]; exact this
theorem Sto.off.set {a : Addr} {S S1 : Sto} {c : Cell} (h : S.off a S1) : S.off a (S1.upd a c) := fun b x hb q => by rw [Sto.upd_ne hb]; exact h b x hb q
theorem Sto.off.same {a : Addr} {S S1 : Sto} {p : Addr} {c c' : Cell} (h : S.off a S1) (e : S p = none) : S.off a (S1.upd p c') := fun b x hb q => by
  rw [Sto.upd_ne (Sto.ne_of q e)]; exact h b x hb q
def ok : Nat → D → Bool
  | 0, d => (match d with | .int _ => true | .str _ => true | _ => false)
  | n + 1, d => (match d with | .int _ => true | .str _ => true | .tup l => decide (l.length ≤ 10000000) && l.all (ok n) | _ => false)
theorem ok_int {n : Nat} {i : Int} : ok n (.int i) = true := by cases n <;> rfl
theorem ok_str {n : Nat} {i : Str} : ok n (.str i) = true := by cases n <;> rfl
theorem ok_tup {n : Nat} {l : List D} : ok (n + 1) (.tup l) = true ↔ l.length ≤ 10000000 ∧ ∀ d ∈ l, ok n d = true := by
  show (decide (l.length ≤ 10000000) && l.all (ok n)) = true ↔ _
  rw [Bool.and_eq_true, decide_eq_true_eq, List.all_eq_true]
theorem ok_mk {n : Nat} {l : List D} (h : l.length ≤ 10000000) (g : ∀ d ∈ l, ok n d = true) : ok (n + 1) (.tup l) = true := ok_tup.mpr ⟨h, g⟩
theorem ok_mono : ∀ {n m : Nat} {d : D}, n ≤ m → ok n d = true → ok m d = true
  | 0, m, d, _, h => by cases d <;> first | (cases h; done) | exact ok_int | exact ok_str
  | n + 1, 0, d, hn, _ => absurd hn (by omega)
  | n + 1, m + 1, d, hn, h => by
    cases d with
    | int i => rfl
    | str i => rfl
    | tup l =>
      rw [ok_tup] at h ⊢
      exact ⟨h.1, fun x hx => ok_mono (by omega) (h.2 x hx)⟩
    | _ => cases h
theorem ok_dep : ∀ {n : Nat} {d : D}, ok n d = true → D.dep d ≤ n
  | 0, d, h => by cases d <;> first | (cases h; done) | simp [D.dep]
  | n + 1, d, h => by
    cases d with
    | int i => simp [D.dep]
    | str i => simp [D.dep]
    | tup l =>
      rw [ok_tup] at h
      rw [D.dep]
      have : ∀ (l : List D), (∀ x ∈ l, ok n x = true) → D.deps l ≤ n := by
        intro l
        induction l with
        | nil => intro _; simp [D.deps]
        | cons x l ih =>
          intro hx
          rw [D.deps]
          have h1 := ok_dep (hx x (List.mem_cons_self ..))
          have h2 := ih fun y hy => hx y (List.mem_cons_of_mem _ hy)
          omega
      have := this l h.2
      omega
    | _ => cases h
theorem line : sizeLine = 16777216 := sizeLine_eq
section
variable {S : Sto} {Q : KD} {X : KX} {a b : Addr} {d d0 d1 d2 d3 d4 d5 d6 : D} {l m : List D} {i j : Int} {x y z : Str} {QB : Bool → Prop} {kvs : List (D × D)}
theorem opAddI : opR .add (.int i) (.int j) S Q = Q (.int (i + j)) S := rfl
theorem opSubI : opR .sub (.int i) (.int j) S Q = Q (.int (i - j)) S := rfl
theorem opMulI : opR .mul (.int i) (.int j) S Q = (CMulW i j ∧ Q (.int (i * j)) S) := rfl
theorem opDivI : opR .fdiv (.int i) (.int j) S Q = (CDivW i j ∧ Q (.int (i / j)) S) := rfl
theorem opModI : opR .mod (.int i) (.int j) S Q = (0 < j ∧ Q (.int (i % j)) S) := rfl
theorem opPowI : opR .pow (.int i) (.int j) S Q = (CPow i j ∧ Q (.int (i ^ j.toNat)) S) := rfl
theorem opAddT : opR .add (.tup l) (.tup m) S Q = (l.length + m.length ≤ sizeLine ∧ Q (.tup (l ++ m)) S) := rfl
theorem opAddL (h : S a = some (.lst l)) (g : S b = some (.lst m)) : opR .add (.ref a) (.ref b) S Q = (l.length + m.length ≤ sizeLine ∧ ∀ p, S p = none → Q (.ref p) (S.upd p (.lst (l ++ m)))) := by
  show (match S a, S b with | some (.lst x), some (.lst y) => _ | _, _ => False) = _
  rw [h, g]
theorem cmEq : cmR .eq d d1 S QB = eqR d d1 S QB := rfl
theorem cmNe : cmR .ne d d1 S QB = eqR d d1 S fun b => QB (!b) := rfl
theorem cmLt : cmR .lt (.int i) (.int j) S QB = QB (decide (i < j)) := rfl
theorem cmLe : cmR .le (.int i) (.int j) S QB = QB (decide (i ≤ j)) := rfl
theorem cmGt : cmR .gt (.int i) (.int j) S QB = QB (decide (j < i)) := rfl
theorem cmGe : cmR .ge (.int i) (.int j) S QB = QB (decide (j ≤ i)) := rfl
theorem cmIn : cmR .isin d d1 S QB = Mi.inR d d1 S QB := rfl
theorem eqI : eqR (.int i) (.int j) S QB = QB (decide (i = j)) := by
  simp only [eqR, plainR, D.pure, if_true, D.dep, D.eqv]
  simp [Bool.beq_eq_decide_eq]
theorem eqS : eqR (.str x) (.str y) S QB = QB (decide (x = y)) := by
  simp only [eqR, plainR, D.pure, if_true, D.dep, D.eqv]
  simp [Bool.beq_eq_decide_eq]
theorem inS2 : Mi.inR (.str x) (.tup [.str y, .str z]) S QB = QB (decide (x = y ∨ x = z)) := by
  simp only [Mi.inR, flatD, List.all_cons, List.all_nil, inD, List.any_cons, List.any_nil, D.eqv]
  simp [Bool.beq_eq_decide_eq, eq_comm]
theorem truB {b : Bool} {QB : Bool → Prop} : truR (.bl b) S QB = QB b := rfl
theorem atIk {α : Type} {l : List α} {d : α} (n : Nat) {i : Int} (e : i = (n : Int)) (h : l[n]? = some d) : atI l i = some d := by
  have hn : n < l.length := (List.getElem?_eq_some_iff.mp h).1
  have hi : ixN l.length i = some n := by
    unfold ixN
    rw [if_pos (by omega), if_pos (by omega)]
    congr 1
    omega
  unfold atI
  rw [hi]
  exact h
theorem ixT (h : atI l i = some d) : ixR (.tup l) (.int i) S Q = Q d S := by simp only [ixR, h]
theorem ixT0 : ixR (.tup (d0 :: l)) (.int 0) S Q = Q d0 S := ixT (atIk 0 rfl rfl)
theorem ixT1 : ixR (.tup (d0 :: d1 :: l)) (.int 1) S Q = Q d1 S := ixT (atIk 1 rfl rfl)
theorem ixT2 : ixR (.tup (d0 :: d1 :: d2 :: l)) (.int 2) S Q = Q d2 S := ixT (atIk 2 rfl rfl)
theorem ixT3 : ixR (.tup (d0 :: d1 :: d2 :: d3 :: l)) (.int 3) S Q = Q d3 S := ixT (atIk 3 rfl rfl)
theorem ixT4 : ixR (.tup (d0 :: d1 :: d2 :: d3 :: d4 :: l)) (.int 4) S Q = Q d4 S := ixT (atIk 4 rfl rfl)
theorem ixT6 : ixR (.tup (d0 :: d1 :: d2 :: d3 :: d4 :: d5 :: d6 :: l)) (.int 6) S Q = Q d6 S := ixT (atIk 6 rfl rfl)
theorem ixL (h : S a = some (.lst l)) (g : atI l i = some d) : ixR (.ref a) (.int i) S Q = Q d S := by simp only [ixR, h, g]
theorem ixD (h : S a = some (.dct kvs)) (hk : (keyD d).isSome = true) (g : dget kvs d = some d0) : ixR (.ref a) d S Q = Q d0 S := by
  cases d <;> simp only [ixR, h, g, keyOk, hk, true_and]
theorem setL {Q : Sto → Prop} {n : Nat} (h : S a = some (.lst l)) (e : i = (n : Int)) (hn : n < l.length) : setR (.ref a) (.int i) d S Q = Q (S.upd a (.lst (l.set n d))) := by
  have hi : ixN l.length i = some n := by
    unfold ixN
    rw [if_pos (by omega), if_pos (by omega)]
    congr 1
    omega
  simp only [setR, h, hi]
theorem setD {Q : Sto → Prop} (h : S a = some (.dct kvs)) (hk : (keyD d0).isSome = true) : setR (.ref a) d0 d S Q = (kvs.length < sizeLine ∧ Q (S.upd a (.dct (dput kvs d0 d)))) := by
  simp only [setR, h, keyOk, hk, true_and]
theorem slcT {lo hi : Option Int} : slcR (.tup l) lo hi S Q = Q (.tup (cutD l lo hi)) S := rfl
theorem lenT : bltR .len [.tup l] S Q = Q (.int l.length) S := rfl
theorem lenL (h : S a = some (.lst l)) : bltR .len [.ref a] S Q = Q (.int l.length) S := by simp only [bltR, h, bllR]
theorem absI : bltR .abs [.int i] S Q = Q (.int (if i < 0 then -i else i)) S := rfl
theorem intI : bltR .int [.int i] S Q = Q (.int i) S := rfl
theorem tupleT : bltR .tuple [.tup l] S Q = Q (.tup l) S := rfl
theorem tupleL (h : S a = some (.lst l)) : bltR .tuple [.ref a] S Q = Q (.tup l) S := by simp only [bltR, h, bllR]
theorem listT : bltR .list [.tup l] S Q = ∀ p, S p = none → Q (.ref p) (S.upd p (.lst l)) := rfl
theorem listRl : bltR .list [.rl l] S Q = ∀ p, S p = none → Q (.ref p) (S.upd p (.lst l)) := rfl
theorem listL (h : S a = some (.lst l)) : bltR .list [.ref a] S Q = ∀ p, S p = none → Q (.ref p) (S.upd p (.lst l)) := by simp only [bltR, h]
theorem dictT (h : asPairs l = some kvs) (hk : kvs.all (fun kv => (keyD kv.1).isSome) = true) : bltR .dict [.tup l] S Q = ∀ p, S p = none → Q (.ref p) (S.upd p (.dct (dmerge [] kvs))) := by simp only [bltR, h, hk, true_and]
theorem appL (h : S a = some (.lst l)) : mthR .append (.ref a) [d] S Q = (l.length < sizeLine ∧ Q .non (S.upd a (.lst (l ++ [d])))) := by simp only [mthR, h]
theorem extL (h : S a = some (.lst l)) (g : S b = some (.lst m)) : mthR .extend (.ref a) [.ref b] S Q = (l.length + m.length ≤ sizeLine ∧ Q .non (S.upd a (.lst (l ++ m)))) := by simp only [mthR, h, g]
theorem extT (h : S a = some (.lst l)) : mthR .extend (.ref a) [.tup m] S Q = (l.length + m.length ≤ sizeLine ∧ Q .non (S.upd a (.lst (l ++ m)))) := by simp only [mthR, h]
theorem getDt (h : S a = some (.dct kvs)) (hk : (keyD d).isSome = true) : mthR .get (.ref a) [d, d0] S Q = Q ((dget kvs d).getD d0) S := by simp only [mthR, h, keyOk, hk, true_and]
theorem mtyA (h : S a = some (.lst l)) : mtyR .append (.ref a) S = true := by simp only [mtyR, h]
theorem mtyE (h : S a = some (.lst l)) : mtyR .extend (.ref a) S = true := by simp only [mtyR, h]
theorem mtyG (h : S a = some (.dct kvs)) : mtyR .get (.ref a) S = true := by simp only [mtyR, h]
theorem itT {Q : KI} : itR (.tup l) S Q = Q l (fun _ => True) S := rfl
theorem itL {Q : KI} (h : S a = some (.lst l)) : itR (.ref a) S Q = Q l (fun S' => S' a = some (.lst l)) S := by simp only [itR, h]
theorem isi1 {t : Ty} {b : Bool} (h : isT t d S = some b) : (match [t].mapM (fun t => isT t d S) with | some bs => Q (.bl (bs.any id)) S | none => False) = Q (.bl b) S := by simp [h]
theorem isiT1 {t : Ty} {b : Bool} {Q : Bool → Sto → Prop} (h : isT t d S = some b) : (match [t].mapM (fun t => isT t d S) with | some bs => Q (bs.any id) S | none => False) = Q b S := by simp [h]
theorem mI_int {bb : Bool} : List.mapM (fun t => isT t (.int i) S) [Ty.int] = some [true] := rfl
theorem mI_bool {bb : Bool} : List.mapM (fun t => isT t (.int i) S) [Ty.bool] = some [false] := rfl
theorem mI_str {bb : Bool} : List.mapM (fun t => isT t (.int i) S) [Ty.str] = some [false] := rfl
theorem mI_tuple {bb : Bool} : List.mapM (fun t => isT t (.int i) S) [Ty.tuple] = some [false] := rfl
theorem mI_list {bb : Bool} : List.mapM (fun t => isT t (.int i) S) [Ty.list] = some [false] := rfl
theorem mB_int {bb : Bool} : List.mapM (fun t => isT t (.bl bb) S) [Ty.int] = some [true] := rfl
theorem mB_bool {bb : Bool} : List.mapM (fun t => isT t (.bl bb) S) [Ty.bool] = some [true] := rfl
theorem mB_str {bb : Bool} : List.mapM (fun t => isT t (.bl bb) S) [Ty.str] = some [false] := rfl
theorem mB_tuple {bb : Bool} : List.mapM (fun t => isT t (.bl bb) S) [Ty.tuple] = some [false] := rfl
theorem mB_list {bb : Bool} : List.mapM (fun t => isT t (.bl bb) S) [Ty.list] = some [false] := rfl
theorem mS_int {bb : Bool} : List.mapM (fun t => isT t (.str x) S) [Ty.int] = some [false] := rfl
theorem mS_bool {bb : Bool} : List.mapM (fun t => isT t (.str x) S) [Ty.bool] = some [false] := rfl
theorem mS_str {bb : Bool} : List.mapM (fun t => isT t (.str x) S) [Ty.str] = some [true] := rfl
theorem mS_tuple {bb : Bool} : List.mapM (fun t => isT t (.str x) S) [Ty.tuple] = some [false] := rfl
theorem mS_list {bb : Bool} : List.mapM (fun t => isT t (.str x) S) [Ty.list] = some [false] := rfl
theorem mT_int {bb : Bool} : List.mapM (fun t => isT t (.tup l) S) [Ty.int] = some [false] := rfl
theorem mT_bool {bb : Bool} : List.mapM (fun t => isT t (.tup l) S) [Ty.bool] = some [false] := rfl
theorem mT_str {bb : Bool} : List.mapM (fun t => isT t (.tup l) S) [Ty.str] = some [false] := rfl
theorem mT_tuple {bb : Bool} : List.mapM (fun t => isT t (.tup l) S) [Ty.tuple] = some [true] := rfl
theorem mT_list {bb : Bool} : List.mapM (fun t => isT t (.tup l) S) [Ty.list] = some [false] := rfl
theorem mN_int {bb : Bool} : List.mapM (fun t => isT t .non S) [Ty.int] = some [false] := rfl
theorem mN_bool {bb : Bool} : List.mapM (fun t => isT t .non S) [Ty.bool] = some [false] := rfl
theorem mN_str {bb : Bool} : List.mapM (fun t => isT t .non S) [Ty.str] = some [false] := rfl
theorem mN_tuple {bb : Bool} : List.mapM (fun t => isT t .non S) [Ty.tuple] = some [false] := rfl
theorem mN_list {bb : Bool} : List.mapM (fun t => isT t .non S) [Ty.list] = some [false] := rfl
theorem anyT : [true].any id = true := rfl
theorem anyF : [false].any id = false := rfl
theorem ixS0 (h : S a = some (.lst (d0 :: l))) : ixR (.ref a) (.int 0) S Q = Q d0 S := ixL h (atIk 0 rfl rfl)
theorem ixS1 (h : S a = some (.lst (d0 :: d1 :: l))) : ixR (.ref a) (.int 1) S Q = Q d1 S := ixL h (atIk 1 rfl rfl)
theorem ixS2 (h : S a = some (.lst (d0 :: d1 :: d2 :: l))) : ixR (.ref a) (.int 2) S Q = Q d2 S := ixL h (atIk 2 rfl rfl)
theorem ixS3 (h : S a = some (.lst (d0 :: d1 :: d2 :: d3 :: l))) : ixR (.ref a) (.int 3) S Q = Q d3 S := ixL h (atIk 3 rfl rfl)
theorem ixU0 : ixR (.ref a) (.int 0) (S.upd a (.lst (d0 :: l))) Q = Q d0 (S.upd a (.lst (d0 :: l))) := ixS0 Sto.upd_same
theorem ixU1 : ixR (.ref a) (.int 1) (S.upd a (.lst (d0 :: d1 :: l))) Q = Q d1 (S.upd a (.lst (d0 :: d1 :: l))) := ixS1 Sto.upd_same
theorem ixU2 : ixR (.ref a) (.int 2) (S.upd a (.lst (d0 :: d1 :: d2 :: l))) Q = Q d2 (S.upd a (.lst (d0 :: d1 :: d2 :: l))) := ixS2 Sto.upd_same
theorem ixU3 : ixR (.ref a) (.int 3) (S.upd a (.lst (d0 :: d1 :: d2 :: d3 :: l))) Q = Q d3 (S.upd a (.lst (d0 :: d1 :: d2 :: d3 :: l))) := ixS3 Sto.upd_same
theorem setS3 {Q : Sto → Prop} (h : S a = some (.lst (d0 :: d1 :: d2 :: d3 :: l))) : setR (.ref a) (.int 3) d S Q = Q (S.upd a (.lst (d0 :: d1 :: d2 :: d :: l))) := setL h (n := 3) rfl (by simp)
theorem setU1 {Q : Sto → Prop} : setR (.ref a) (.int 1) d (S.upd a (.lst (d0 :: d1 :: l))) Q = Q (S.upd a (.lst (d0 :: d :: l))) := (setL Sto.upd_same (i := 1) (n := 1) rfl (by simp)).trans (by rw [Sto.upd_upd]; rfl)
theorem setU2 {Q : Sto → Prop} : setR (.ref a) (.int 2) d (S.upd a (.lst (d0 :: d1 :: d2 :: l))) Q = Q (S.upd a (.lst (d0 :: d1 :: d :: l))) := (setL Sto.upd_same (i := 2) (n := 2) rfl (by simp)).trans (by rw [Sto.upd_upd]; rfl)
theorem lenU {c : Cell} (hap : a ≠ b) (h : S b = some (.lst l)) : bltR .len [.ref b] (S.upd a c) Q = Q (.int l.length) (S.upd a c) := lenL (by rw [Sto.upd_ne (Ne.symm hap)]; exact h)
theorem ixU {c : Cell} (hap : a ≠ b) (h : S b = some (.lst l)) (g : atI l i = some d) : ixR (.ref b) (.int i) (S.upd a c) Q = Q d (S.upd a c) := ixL (by rw [Sto.upd_ne (Ne.symm hap)]; exact h) g
end
end Mi
namespace Mi
open PySem PySem.Spec PyProof.Rows L2 NdefX
structure InD where
  cls : Str
  name : Str
  qual : Str
  params : Arguments
  body : List PySem.Stmt
  scope : Scope
abbrev InW : Type := Option (Str × Str × Arguments × FuncBody × Scope × Addr × Addr)
def iAd (K : PySem.W.Frag) (x : Str) : Addr := He.ma K (gAd K x) "__init__"
def inW (K : PySem.W.Frag) (x : Str) : InW := match K.lookup (iAd K x) with
  | some ⟨_, _, .func fd, _⟩ => some (fd.name, fd.qualname, fd.params, fd.body, fd.scope, fd.globals, fd.builtins)
  | _ => none
def InD.val (d : InD) : InW := some (d.name, d.qual, d.params, .stmts d.body, d.scope, mainGlobals, builtinsNs)
def InD.nf (d : InD) (cl : List (Str × Addr)) (c : Addr) : NF := ⟨d.name, d.qual, d.params, d.body, d.scope, cl, c⟩
def oexB (K : PySem.W.Frag) (C : Addr) : Bool := (match K.lookup C with
    | some ⟨.type t, _, .cls cd, sl⟩ => (match cd.mro, sl.toList with
      | .ref C' :: bm, [_, _, _, _, some (.builtin n), _] => decide (t = "type") && decide (C' = C) && decide (n = "ValueError.__new__") && !cd.hasDel && cd.hasDict && PySem.HandSPX.refsVE bm
      | _, _ => false)
    | _ => false) && He.eqO (PySem.W.findIn K (.ref C) "__setattr__") (some (some (.builtin "object.__setattr__"))) && decide (PySem.W.subIn K (.ref C) (.type "BaseException") = some true) && decide (PySem.W.typeIn K (.ref C) = some (.type "type")) && PySem.W.keepIn K (.ref C)
theorem oexB_ok {K : PySem.W.Frag} {C : Addr} (h : oexB K C = true) : OexC K C := by
  unfold oexB at h
  simp only [Bool.and_eq_true, decide_eq_true_eq] at h
  obtain ⟨⟨⟨⟨h1, h2⟩, h3⟩, h4⟩, h5⟩ := h
  refine ⟨?_, He.eqO_ok h2, h3, h4, h5⟩
  split at h1
  case h_1 t dd cd sl ho =>
    split at h1
    case h_1 C' bm k0 k1 k2 k3 n k5 hm hs =>
      simp only [Bool.and_eq_true, decide_eq_true_eq, Bool.not_eq_true'] at h1
      obtain ⟨⟨⟨⟨⟨rfl, rfl⟩, rfl⟩, hdel⟩, hdc⟩, hv⟩ := h1
      obtain ⟨nm, bs, mro, ns, qn, hd, sn, sub, ab, col, del⟩ := cd
      dsimp only at hm hdel hdc
      subst hm hdel hdc
      have hsl : sl = #[k0, k1, k2, k3, some (.builtin "ValueError.__new__"), k5] := by
        obtain ⟨l⟩ := sl
        simp only at hs
        rw [hs]
      subst hsl
      exact ⟨nm, qn, ns, bs, bm, sn, sub, ab, col, dd, k0, k1, k2, k3, k5, ho, hv⟩
    case h_2 => cases h1
  case h_2 => cases h1
def fileB (K : PySem.W.Frag) (file : Str) (c : Addr) : Bool := match K.lookup c with
  | some ⟨_, _, .fields vs, _⟩ => (match (vs[2]? : Option Value) with
    | some (.str f _) => file == f
    | _ => false)
  | _ => false
def cellB (K : PySem.W.Frag) (C cc : Addr) : Bool := match K.lookup cc with
  | some ⟨_, _, .cell (some (.ref C')), _⟩ => decide (C' = C)
  | _ => false
def noneB : Value → Bool
  | .none => true
  | _ => false
def fnB (K : PySem.W.Frag) (file : Str) (C f : Addr) (qual : Str) : Bool := match K.lookup f with
  | some ⟨_, _, .func fd, _⟩ => (match fd.closure, fd.code with
    | [(n, cc)], .ref c => decide (n = ("__class__" : Str)) && cellB K C cc && noneB fd.defaults && noneB fd.kwdefaults && fd.annotations.isNone && PySem.W.codeIn K (.ref c) qual && fileB K file c
    | _, _ => false)
  | _ => false
def nfB (K : PySem.W.Frag) (file : Str) (d : InD) : Bool :=
  He.eqO (PySem.W.nsIn K mainGlobals d.cls) (some (some (.ref (gAd K d.cls)))) && oexB K (gAd K d.cls) && He.eqO (PySem.W.findIn K (.ref (gAd K d.cls)) "word") (some none) && He.eqO (PySem.W.findIn K (.ref (gAd K d.cls)) "__init__") (some (some (.ref (iAd K d.cls)))) &&
  decide (PySem.W.typeIn K (.ref (iAd K d.cls)) = some (.type "function")) && fnB K file (gAd K d.cls) (iAd K d.cls) d.qual && He.eqO (PySem.W.nsIn K PySem.cStatics "thirdparty.any") (some none) && He.eqO (PySem.W.ks_superIn K (gAd K d.cls) (gAd K d.cls) "__init__") (some (some (.builtin "ValueError.__init__"))) &&
  decide (PySem.W.subIn K (.ref (gAd K d.cls)) (.type "ValueError") = some true) && decide (PySem.W.mroIn K (gAd K d.cls) (.ref (gAd K d.cls)) = some true) && He.eqO (PySem.W.nsIn K mainGlobals "super") (some none)
structure InS (P : Program) (d : InD) : Prop where
  S : NScope ["self", "word", "__class__"] ["self", "word"] ["__class__"] d.scope
  sup : d.scope.names.lookup ("super" : Str) = some .globalImplicit
  htop : (P.main.scope.names.lookup ("super" : Str)).isSome = false
  body : ∃ (q1 q2 q3 q4 p0 p1 p2 p3 p4 p5 q5 q6 q7 : Pos) (j : Nat) (m : Str), d.body = [.Assign [.Attribute (.Name "self" q1) "word" q2] (.Name "word" q3) q4,
    .Expr (.Call (.Attribute (.Call (.Name "super" p0) [] [] p1) "__init__" p2) [.JoinedStr [.Constant (.str m) j q5, .FormattedValue (.Name "word" q6) (-1) none q7] p3] [] p4) p5] ∧ m.length ≤ 1000 ∧ ∃ pl : Sem Bool, ∀ env : Env, eval (.Call (.Attribute (.Call (.Name "super" p0) [] [] p1) "__init__" p2) [.JoinedStr [.Constant (.str m) j q5, .FormattedValue (.Name "word" q6) (-1) none q7] p3] [] p4) env = (do
      let ov ← attributeBase (.Call (.Name "super" p0) [] [] p1) "__init__" env (eval (.Call (.Name "super" p0) [] [] p1) env)
      standAt p2.atName
      let (f, first) ← holding [ov] (getMethod ov "__init__" pl)
      callWith p4 f first (backTo p4 (starEach [.JoinedStr [.Constant (.str m) j q5, .FormattedValue (.Name "word" q6) (-1) none q7] p3] env)) [])
  par : ∃ ar, (d.params.posonlyargs ++ d.params.args).head? = some ar ∧ ar.arg = ("self" : Str)
  bnd : ∀ (cl : List (Str × Addr)) (c : Addr) (doc pm ctv : Value) (us : List Value), us.length = 2 → bindArgs ((d.nf cl c).fd doc pm ctv) ⟨us, []⟩ = pure ((["self", "word"] : List Str).zip us)
theorem noneB_ok {v : Value} (h : noneB v = true) : v = .none := by cases v <;> first | rfl | cases h
theorem excF_of {P : Program} {K : PySem.W.Frag} {h : Heap} {mg : Str → Option Value} {d : InD} (X : K.In h) (G : h.Ns mainGlobals mg) (S : InS P d) (e : inW K d.cls = d.val) (b : nfB K P.main.file d = true) : ExcF P K mg d.cls := by
  unfold nfB at b
  simp only [Bool.and_eq_true, decide_eq_true_eq] at b
  obtain ⟨⟨⟨⟨⟨⟨⟨⟨⟨⟨b1, b2⟩, b3⟩, b4⟩, b5⟩, b6⟩, b7⟩, b8⟩, b9⟩, b10⟩, b11⟩ := b
  refine ⟨PySem.W.mg_of X G (He.eqO_ok b1), iAd K d.cls, ?_⟩
  unfold fnB at b6
  unfold inW at e
  split at b6
  case h_1 oc od fd osl lk =>
    rw [lk] at e
    obtain ⟨n1, n2, n3, n4, n5, n6, n7, n8, n9, n10, n11, n12, n13, n14, n15⟩ := fd
    have e2 : (some (n1, n2, n3, n4, n5, n6, n15) : InW) = some (d.name, d.qual, d.params, .stmts d.body, d.scope, mainGlobals, builtinsNs) := e
    simp only [Option.some.injEq, Prod.mk.injEq] at e2
    obtain ⟨h1, h2, h3, h4, h5, h6, h8⟩ := e2
    subst h1 h2 h3 h4 h5 h6 h8
    dsimp only at b6
    split at b6
    case h_1 _ _ n cc c =>
      simp only [Bool.and_eq_true, decide_eq_true_eq] at b6
      obtain ⟨⟨⟨⟨⟨⟨c1, c2⟩, c3⟩, c4⟩, c5⟩, c6⟩, c7⟩ := b6
      subst c1
      obtain rfl := noneB_ok c3
      obtain rfl := noneB_ok c4
      obtain rfl := Option.isNone_iff_eq_none.mp c5
      refine ⟨d.nf [("__class__", cc)] c, ⟨oexB_ok b2, He.eqO_ok b3, ⟨oc, od, n10, n11, n14, osl, lk⟩, c6, ⟨cc, ?_⟩, ?_, S.S, S.sup, S.htop, PySem.W.mg_none_of X G (He.eqO_ok b11), He.eqO_ok b7, He.eqO_ok b8, b9, b10, S.body, S.par, S.bnd _ _⟩, He.eqO_ok b4, b5⟩
      · unfold cellB at c2
        split at c2
        case h_1 ccl ccd C' ccs lkc =>
          rw [decide_eq_true_eq] at c2
          subst c2
          exact ⟨ccl, ccd, ccs, rfl, lkc⟩
        case h_2 => cases c2
      · unfold fileB at c7
        split at c7
        case h_1 vcl vcd vs vcs lkv =>
          split at c7
          case h_1 f tf hf => exact ⟨vcl, vcd, vs, vcs, f, tf, lkv, hf, c7⟩
          case h_2 => cases c7
        case h_2 => cases c7
    case h_2 => cases b6
  case h_2 => cases b6
def excB (K : PySem.W.Frag) (D : Addr) : Bool := He.eqO (PySem.W.findIn K (.ref D) "__getattribute__") (some (some (.builtin "BaseException.__getattribute__"))) && He.eqO (PySem.W.findIn K (.ref D) "__getattr__") (some none) && decide (PySem.W.subIn K (.ref D) (.type "BaseException") = some true) &&
  PySem.W.hasDictIn K D && He.eqO (PySem.W.findIn K (.ref D) "__class__") (some (some (.builtin "object.__class__"))) && He.eqO (PySem.W.specialIn K (.builtin "object.__class__") "__get__") (some (some (.builtin "getset_descriptor.__get__"))) &&
  decide (PySem.W.takesIn K (.builtin "object.__class__") = some true) && decide (PySem.W.mroIn K D (.type "object") = some true)
theorem excB_ok {K : PySem.W.Frag} {D : Addr} (h : excB K D = true) : ExcC K D := by
  unfold excB at h
  simp only [Bool.and_eq_true, decide_eq_true_eq] at h
  obtain ⟨⟨⟨⟨⟨⟨⟨h1, h2⟩, h3⟩, h4⟩, h5⟩, h6⟩, h7⟩, h8⟩ := h
  exact ⟨He.eqO_ok h1, He.eqO_ok h2, h3, h4, He.eqO_ok h5, He.eqO_ok h6, h7, h8⟩
def kxB (K : PySem.W.Frag) (x : Str) (b : Bool) (cv : Value) : Bool := decide (PySem.W.exmOne K (.ref (gAd K x)) cv = some b) && decide (PySem.W.kitOne K (.ref (gAd K x)) cv = some b)
def subB (K : PySem.W.Frag) (y : Str × Str × Bool) : Bool := (match PySem.W.nsIn K mainGlobals y.2.1 with
  | some (some (.ref a)) => kxB K y.1 y.2.2 (.ref a)
  | some none => (match bootBuiltins y.2.1 with
    | some (.type T) => kxB K y.1 y.2.2 (.type T)
    | _ => false)
  | _ => false) && excB K (gAd K y.1) && xfB K (gAd K y.1) && He.eqO (PySem.W.findIn K (.ref (gAd K y.1)) "word") (some none)
theorem subF_of {K : PySem.W.Frag} {h : Heap} {mg : Str → Option Value} {x c : Str} {b : Bool} (X : K.In h) (G : h.Ns mainGlobals mg) (s : subB K (x, c, b) = true) : SubF K mg x c b := by
  unfold subB at s
  simp only [Bool.and_eq_true] at s
  obtain ⟨⟨⟨s1, s2⟩, s3⟩, s4⟩ := s
  have sc : SubC K (gAd K x) := ⟨excB_ok s2, xfB_ok s3, He.eqO_ok s4⟩
  split at s1
  case h_1 a hn =>
    have hm := PySem.W.mg_of X G hn
    have e : cvOf mg c = .ref a := by unfold cvOf; rw [hm]
    unfold kxB at s1
    simp only [Bool.and_eq_true, decide_eq_true_eq] at s1
    exact ⟨.inl (by rw [e]; exact hm), ⟨.ref a, by rw [e]; rfl, fun u q => by rw [e]; exact q⟩, by rw [e]; exact s1.1, by rw [e]; exact s1.2, sc⟩
  case h_2 hn =>
    split at s1
    case h_1 T hT =>
      have hm := PySem.W.mg_none_of X G hn
      have e : cvOf mg c = .type T := by unfold cvOf; rw [hm]; show (bootBuiltins c).getD .none = _; rw [hT]; rfl
      unfold kxB at s1
      simp only [Bool.and_eq_true, decide_eq_true_eq] at s1
      exact ⟨.inr ⟨hm, by rw [e]; exact hT⟩, ⟨.ty T, by rw [e]; rfl, fun u q => by rw [e]; exact q⟩, by rw [e]; exact s1.1, by rw [e]; exact s1.2, sc⟩
    case h_2 => cases s1
  case h_3 => cases s1
def gB (K : PySem.W.Frag) : Nat → D → Value → Bool
  | n + 1, .tup l, .ref a => (match K.lookup a with
    | some ⟨.type c, none, .seq its _, _⟩ => decide (c = "tuple") && decide (its.size ≤ sizeLine) && (decide (l.length = its.toList.length) && (l.zip its.toList).all fun p => gB K n p.1 p.2)
    | _ => false)
  | _, .int i, .int j _ => decide (j = i)
  | _, .str x, .str y _ => decide (y = x) && PyData.strOk x
  | _, .bl b, .bool c => decide (c = b)
  | _, .non, .none => true
  | _, _, _ => false
theorem gB_ok {K : PySem.W.Frag} : ∀ (n : Nat) (d : D) (u : Value), gB K n d u = true → ∃ v, RelV v u ∧ ∀ H, RD K H d v := by
  have base : ∀ (d : D) (u : Value), (∀ l a, ¬(d = .tup l ∧ u = .ref a)) → ∀ n, gB K n d u = true → ∃ v, RelV v u ∧ ∀ H, RD K H d v := by
    intro d u hn n h
    cases d <;> cases u <;> cases n <;> first | (cases h; done) | (exact absurd ⟨rfl, rfl⟩ (hn _ _)) | skip
    all_goals first
      | (rename_i i j t; exact ⟨.int i, ⟨t, by have := of_decide_eq_true h; rw [this]⟩, fun H => .int⟩)
      | (rename_i i j t n; exact ⟨.int i, ⟨t, by have := of_decide_eq_true h; rw [this]⟩, fun H => .int⟩)
      | (rename_i x y t; simp only [gB, Bool.and_eq_true, decide_eq_true_eq] at h; exact ⟨.str x, ⟨t, by rw [h.1]⟩, fun H => .str h.2⟩)
      | (rename_i x y t n; simp only [gB, Bool.and_eq_true, decide_eq_true_eq] at h; exact ⟨.str x, ⟨t, by rw [h.1]⟩, fun H => .str h.2⟩)
      | (rename_i b c; exact ⟨.bl b, by have := of_decide_eq_true h; rw [this]; rfl, fun H => .bl⟩)
      | (rename_i b c n; exact ⟨.bl b, by have := of_decide_eq_true h; rw [this]; rfl, fun H => .bl⟩)
      | exact ⟨.non, rfl, fun H => .non⟩
  intro n
  induction n with
  | zero =>
    intro d u h
    refine base d u (fun l a e => ?_) 0 h
    rw [e.1, e.2] at h
    cases h
  | succ n ih =>
    intro d u h
    by_cases hn : ∃ l a, d = .tup l ∧ u = .ref a
    · obtain ⟨l, a, rfl, rfl⟩ := hn
      unfold gB at h
      split at h
      case h_1 c its m sl lk =>
        simp only [Bool.and_eq_true, decide_eq_true_eq, List.all_eq_true] at h
        obtain ⟨⟨h1, h2⟩, h3, h4⟩ := h
        subst h1
        have key : ∀ (l : List D) (us : List Value), l.length = us.length → (∀ p ∈ l.zip us, gB K n p.1 p.2 = true) → ∃ vs, Vals vs us ∧ ∀ H, RDs K H l vs := by
          intro l
          induction l with
          | nil =>
            intro us e _
            cases us with
            | nil => exact ⟨[], .nil, fun H => .nil⟩
            | cons _ _ => cases e
          | cons d l ihl =>
            intro us e hp
            cases us with
            | nil => cases e
            | cons u us =>
              obtain ⟨v, r1, r2⟩ := ih d u (hp (d, u) (by simp))
              obtain ⟨vs, q1, q2⟩ := ihl us (Nat.succ.inj e) fun p hp' => hp p (by rw [List.zip_cons_cons]; exact List.mem_cons_of_mem _ hp')
              exact ⟨v :: vs, .cons r1 q1, fun H => .cons (r2 H) (q2 H)⟩
        obtain ⟨vs, q1, q2⟩ := key l its.toList h3 h4
        exact ⟨.ref a, rfl, fun H => .tup (.inr ⟨_, its, m, lk, rfl, rfl, rfl, h2, q1⟩) (q2 H)⟩
      case h_2 => cases h
    · exact base d u (fun l a e => hn ⟨l, a, e⟩) (n + 1) h
theorem look_mem {x : Str} {d : D} : ∀ {l : List (Str × D)}, l.lookup x = some d → (x, d) ∈ l
  | [], h => by cases h
  | (y, e) :: l, h => by
    rw [List.lookup_cons] at h
    cases c : x == y with
    | true =>
      rw [c] at h
      cases h
      rw [eq_of_beq c]
      exact List.mem_cons_self
    | false =>
      rw [c] at h
      exact List.mem_cons_of_mem _ (look_mem h)
abbrev AlE : Type := He.AlD × (Bool × List InW)
def exB (file : Str) (ins : List InD) (sub : List (Str × Str × Bool)) (gc : Bool) (gl : List (Str × D)) (K : PySem.W.Frag) : Bool := (ins.all fun d => nfB K file d) && (sub.all fun y => subB K y) && (gl.all fun p => (match PySem.W.nsIn K mainGlobals p.1 with | some (some u) => gB K 20 p.2 u | _ => false)) && (!gc || He.eqO (PySem.W.nsIn K mainGlobals "gcd") (some (some (.builtin "math.gcd"))))
def obsE (fa : List He.Fa) (fn : List He.DefD) (file : Str) (ins : List InD) (sub : List (Str × Str × Bool)) (gc : Bool) (gl : List (Str × D)) (K : PySem.W.Frag) : AlE := (He.obsD fa fn K, (exB file ins sub gc gl K, ins.map fun d => inW K d.cls))
def valE (fn : List He.DefD) (ins : List InD) : AlE := (He.valD fn, (true, ins.map InD.val))
def SaysE (fa : List He.Fa) (fn : List He.DefD) (file : Str) (ins : List InD) (sub : List (Str × Str × Bool)) (gc : Bool) (gl : List (Str × D)) (K : PySem.W.Frag) : Prop := obsE fa fn file ins sub gc gl K = valE fn ins
def obsEG (n : Nat) (fa : List He.Fa) (fn : List He.DefD) (file : Str) (ins : List InD) (sub : List (Str × Str × Bool)) (gc : Bool) (gl : List (Str × D)) (g : Addr → Option Obj) : AlE := obsE fa fn file ins sub gc gl (He.frG g (PySem.cStatics :: He.asD g n))
def hookE (n : Nat) (fa : List He.Fa) (fn : List He.DefD) (file : Str) (ins : List InD) (sub : List (Str × Str × Bool)) (gc : Bool) (gl : List (Str × D)) : PySem.W.Hook where
  α := AlE
  obs := fun s => obsEG n fa fn file ins sub gc gl s.heap.get?
  val := fun _ => valE fn ins
  says := fun _ h => ∃ K : PySem.W.Frag, K.In h ∧ SaysE fa fn file ins sub gc gl K
  of := fun _ _ e => ⟨_, He.frG_in, e⟩
  keeps := fun _ _ _ ⟨K, hK, c⟩ k => ⟨K, PySem.W.Frag.In.keeps hK k, c⟩
theorem obsEG_eq {n : Nat} {fa : List He.Fa} {fn : List He.DefD} {file : Str} {ins : List InD} {sub : List (Str × Str × Bool)} {gc : Bool} {gl : List (Str × D)} {g : Addr → Option Obj} {s : Shared} (h : ∀ a, g a = s.heap.get? a) : obsEG n fa fn file ins sub gc gl g = (hookE n fa fn file ins sub gc gl).obs s := by
  have e : g = s.heap.get? := funext h
  rw [e] <;> rfl
section
variable {fa : List He.Fa} {fn : List He.DefD} {file : Str} {ins : List InD} {sub : List (Str × Str × Bool)} {gc : Bool} {gl : List (Str × D)} {K : PySem.W.Frag}
theorem SaysE.d (c : SaysE fa fn file ins sub gc gl K) : He.SaysD fa fn K := congrArg (fun z : AlE => z.1) c
theorem SaysE.sub_ (c : SaysE fa fn file ins sub gc gl K) {y : Str × Str × Bool} (h : y ∈ sub) : subB K y = true := by
  have c1 : exB file ins sub gc gl K = true := congrArg (fun z : AlE => z.2.1) c
  unfold exB at c1
  rw [Bool.and_eq_true, Bool.and_eq_true, Bool.and_eq_true] at c1
  exact List.all_eq_true.mp c1.1.1.2 _ h
theorem SaysE.glb (c : SaysE fa fn file ins sub gc gl K) {h : Heap} {mg : Str → Option Value} (X : K.In h) (G : h.Ns mainGlobals mg) {x : Str} {d : D} (hx : gl.lookup x = some d) : ∃ v u, mg x = some u ∧ RelV v u ∧ ∀ H, RD K H d v := by
  have c1 : exB file ins sub gc gl K = true := congrArg (fun z : AlE => z.2.1) c
  unfold exB at c1
  rw [Bool.and_eq_true, Bool.and_eq_true, Bool.and_eq_true] at c1
  have c2 := List.all_eq_true.mp c1.1.2 _ (look_mem hx)
  dsimp only at c2
  split at c2
  case h_1 u hu =>
    obtain ⟨v, r1, r2⟩ := gB_ok _ _ _ c2
    exact ⟨v, u, PySem.W.mg_of X G hu, r1, r2⟩
  case h_2 => cases c2
theorem SaysE.gcd (c : SaysE fa fn file ins sub true gl K) {h : Heap} {mg : Str → Option Value} (X : K.In h) (G : h.Ns mainGlobals mg) : mg "gcd" = some (.builtin "math.gcd") := by
  have c1 : exB file ins sub true gl K = true := congrArg (fun z : AlE => z.2.1) c
  unfold exB at c1
  rw [Bool.and_eq_true] at c1
  exact PySem.W.mg_of X G (He.eqO_ok c1.2)
theorem SaysE.ins_ (c : SaysE fa fn file ins sub gc gl K) {d : InD} (h : d ∈ ins) : inW K d.cls = d.val ∧ nfB K file d = true := by
  have c1 : exB file ins sub gc gl K = true := congrArg (fun z : AlE => z.2.1) c
  unfold exB at c1
  rw [Bool.and_eq_true, Bool.and_eq_true, Bool.and_eq_true] at c1
  have c2 : (ins.map fun d => inW K d.cls) = ins.map InD.val := congrArg (fun z : AlE => z.2.2) c
  refine ⟨?_, List.all_eq_true.mp c1.1.1.1 _ h⟩
  exact List.map_inj_left.mp c2 d h
end
end Mi
set_option maxHeartbeats 0
namespace K32
open PySem PySem.Spec PyProof.Rows L2 Mi
def top (i : Nat) : Stmt := PySem.Challenge.pw_castbypowers_k32_chances_as_polynomials.main.body.getD i (.Pass ⟨0, 0, 0, 0⟩)
def Tm : Mi.Tb := ⟨[("is_integer" : Str), ("fraction" : Str), ("plus" : Str), ("minus" : Str), ("times" : Str), ("is_fraction" : Str), ("collected" : Str), ("told_chance" : Str), ("letter_chance" : Str), ("chance_sum" : Str), ("chance_less" : Str), ("chance_product" : Str), ("chance_value" : Str), ("fraction_of" : Str), ("is_pair" : Str), ("is_chance" : Str), ("_law_start" : Str), ("_law_draw" : Str), ("_law_is_int" : Str), ("_law_same" : Str), ("_law_gcd" : Str), ("_law_fraction" : Str), ("_law_plus" : Str), ("_law_times" : Str), ("_law_power" : Str), ("_law_chance" : Str), ("_law_collected" : Str), ("_law_some_poly" : Str), ("_law_product" : Str), ("_law_turned" : Str), ("_law_refuses" : Str), ("_law_bad" : Str), ("law" : Str)], [("ZERO" : Str), ("ONE" : Str)], [("ValueError" : Str), ("abs" : Str), ("all" : Str), ("any" : Str), ("bool" : Str), ("int" : Str), ("isinstance" : Str), ("len" : Str), ("list" : Str), ("range" : Str), ("sorted" : Str), ("str" : Str), ("tuple" : Str)], true, [("NotFit" : Str)], [("NotFit", "NotFit", true), ("NotFit", "CastError", true), ("NotFit", "ValueError", true), ("NotFit", "BadText", false)]⟩
def b_is_integer : Ss := (.cons (.ret (.and (.isi (.var 0) [.int]) (.not (.isi (.var 0) [.bool])))) .nil)
def b_fraction : Ss := (.cons (.ite (.cmp .lt (.var 1) (.lit (.int (0)))) (.cons (.set 0 (.neg (.var 0))) (.cons (.set 1 (.neg (.var 1))) .nil)) .nil) (.cons (.set 2 (.blt .gcd (.cons (.var 0) (.cons (.var 1) .nil)))) (.cons (.ret (.tup (.cons (.op .fdiv (.var 0) (.var 2)) (.cons (.op .fdiv (.var 1) (.var 2)) .nil)))) .nil)))
def b_plus : Ss := (.cons (.ite (.and (.cmp .eq (.ix (.var 0) (.lit (.int (1)))) (.lit (.int (1)))) (.cmp .eq (.ix (.var 1) (.lit (.int (1)))) (.lit (.int (1))))) (.cons (.ret (.tup (.cons (.op .add (.ix (.var 0) (.lit (.int (0)))) (.ix (.var 1) (.lit (.int (0))))) (.cons (.lit (.int (1))) .nil)))) .nil) .nil) (.cons (.ret (.call "fraction" (.cons (.op .add (.op .mul (.ix (.var 0) (.lit (.int (0)))) (.ix (.var 1) (.lit (.int (1))))) (.op .mul (.ix (.var 1) (.lit (.int (0)))) (.ix (.var 0) (.lit (.int (1)))))) (.cons (.op .mul (.ix (.var 0) (.lit (.int (1)))) (.ix (.var 1) (.lit (.int (1))))) .nil)))) .nil))
def b_minus : Ss := (.cons (.ret (.call "fraction" (.cons (.op .sub (.op .mul (.ix (.var 0) (.lit (.int (0)))) (.ix (.var 1) (.lit (.int (1))))) (.op .mul (.ix (.var 1) (.lit (.int (0)))) (.ix (.var 0) (.lit (.int (1)))))) (.cons (.op .mul (.ix (.var 0) (.lit (.int (1)))) (.ix (.var 1) (.lit (.int (1))))) .nil)))) .nil)
def b_times : Ss := (.cons (.ret (.call "fraction" (.cons (.op .mul (.ix (.var 0) (.lit (.int (0)))) (.ix (.var 1) (.lit (.int (0))))) (.cons (.op .mul (.ix (.var 0) (.lit (.int (1)))) (.ix (.var 1) (.lit (.int (1))))) .nil)))) .nil)
def b_is_fraction : Ss := (.cons (.ite (.or (.not (.isi (.var 0) [.tuple])) (.cmp .ne (.blt .len (.cons (.var 0) .nil)) (.lit (.int (2))))) (.cons (.ret (.lit (.bl false))) .nil) .nil) (.cons (.asg (.tup (.cons (.nm 1) (.cons (.nm 2) .nil))) (.var 0)) (.cons (.ret (.and (.call "is_integer" (.cons (.var 1) .nil)) (.and (.call "is_integer" (.cons (.var 2) .nil)) (.and (.cmp .ge (.var 2) (.lit (.int (1)))) (.cmp .eq (.blt .gcd (.cons (.var 1) (.cons (.var 2) .nil))) (.lit (.int (1)))))))) .nil)))
def s_collected_1 : Ss := (.cons (.sub (.var 1) (.var 2) (.call "plus" (.cons (.mth .get (.var 1) (.cons (.var 2) (.cons (.glob "ZERO") .nil))) (.cons (.var 3) .nil)))) .nil)
def e_collected_2 : E := (.tup (.cons (.var 2) (.cons (.ix (.var 1) (.var 2)) .nil)))
def b_collected : Ss := (.cons (.set 1 .dnew) (.cons (.for (.tup (.cons (.nm 2) (.cons (.nm 3) .nil))) (.of (.var 0)) s_collected_1) (.cons (.ret (.comp (some .tuple) e_collected_2 (.nm 2) (.of (.blt .sorted (.cons (.var 1) .nil))) (.some (.cmp .ne (.ix (.var 1) (.var 2)) (.glob "ZERO"))) [2])) .nil)))
def b_told_chance : Ss := (.cons (.ret (.call "collected" (.cons (.lst (.cons (.tup (.cons (.lit (.int (0))) (.cons (.var 0) .nil))) .nil)) .nil))) .nil)
def b_letter_chance : Ss := (.cons (.ret (.tup (.cons (.tup (.cons (.lit (.int (1))) (.cons (.glob "ONE") .nil))) .nil))) .nil)
def b_chance_sum : Ss := (.cons (.ret (.call "collected" (.cons (.op .add (.var 0) (.var 1)) .nil))) .nil)
def e_chance_less_1 : E := (.tup (.cons (.var 2) (.cons (.call "minus" (.cons (.glob "ZERO") (.cons (.var 3) .nil))) .nil)))
def b_chance_less : Ss := (.cons (.ret (.call "collected" (.cons (.op .add (.var 0) (.comp (some .tuple) e_chance_less_1 (.tup (.cons (.nm 2) (.cons (.nm 3) .nil))) (.of (.var 1)) .none [2, 3])) .nil))) .nil)
def s_chance_product_1 : Ss := (.cons (.exp (.mth .append (.var 2) (.cons (.tup (.cons (.op .add (.var 3) (.var 5)) (.cons (.call "times" (.cons (.var 4) (.cons (.var 6) .nil))) .nil))) .nil))) .nil)
def s_chance_product_2 : Ss := (.cons (.for (.tup (.cons (.nm 5) (.cons (.nm 6) .nil))) (.of (.var 1)) s_chance_product_1) .nil)
def b_chance_product : Ss := (.cons (.set 2 (.lst .nil)) (.cons (.for (.tup (.cons (.nm 3) (.cons (.nm 4) .nil))) (.of (.var 0)) s_chance_product_2) (.cons (.ret (.call "collected" (.cons (.var 2) .nil))) .nil)))
def s_chance_value_1 : Ss := (.cons (.set 4 (.call "times" (.cons (.var 4) (.cons (.var 1) .nil)))) .nil)
def s_chance_value_2 : Ss := (.cons (.for (.nm 5) (.rng1 (.var 3)) s_chance_value_1) (.cons (.set 2 (.call "plus" (.cons (.var 2) (.cons (.var 4) .nil)))) .nil))
def b_chance_value : Ss := (.cons (.set 2 (.glob "ZERO")) (.cons (.for (.tup (.cons (.nm 3) (.cons (.nm 4) .nil))) (.of (.var 0)) s_chance_value_2) (.cons (.ret (.var 2)) .nil)))
def b_fraction_of : Ss := (.cons (.ite (.cmp .eq (.var 0) (.tup .nil)) (.cons (.ret (.glob "ZERO")) .nil) .nil) (.cons (.ite (.cmp .gt (.ix (.ix (.var 0) (.neg (.lit (.int (1))))) (.lit (.int (0)))) (.lit (.int (0)))) (.cons (.raise "NotFit" (.lit (.str "letter"))) .nil) .nil) (.cons (.ret (.ix (.ix (.var 0) (.lit (.int (0)))) (.lit (.int (1))))) .nil)))
def b_is_pair : Ss := (.cons (.ite (.or (.not (.isi (.var 0) [.tuple])) (.cmp .ne (.blt .len (.cons (.var 0) .nil)) (.lit (.int (2))))) (.cons (.ret (.lit (.bl false))) .nil) .nil) (.cons (.asg (.tup (.cons (.nm 1) (.cons (.nm 2) .nil))) (.var 0)) (.cons (.ite (.or (.not (.isi (.var 1) [.int])) (.or (.isi (.var 1) [.bool]) (.cmp .lt (.var 1) (.lit (.int (0)))))) (.cons (.ret (.lit (.bl false))) .nil) .nil) (.cons (.ret (.and (.call "is_fraction" (.cons (.var 2) .nil)) (.cmp .ne (.var 2) (.glob "ZERO")))) .nil))))
def e_is_chance_1 : E := (.call "is_pair" (.cons (.var 2) .nil))
def e_is_chance_2 : E := (.cmp .lt (.ix (.ix (.var 0) (.var 1)) (.lit (.int (0)))) (.ix (.ix (.var 0) (.op .add (.var 1) (.lit (.int (1))))) (.lit (.int (0)))))
def b_is_chance : Ss := (.cons (.ite (.or (.not (.isi (.var 0) [.tuple])) (.not (.comp (some .all) e_is_chance_1 (.nm 2) (.of (.var 0)) .none [2]))) (.cons (.ret (.lit (.bl false))) .nil) .nil) (.cons (.ret (.comp (some .all) e_is_chance_2 (.nm 1) (.rng1 (.op .sub (.blt .len (.cons (.var 0) .nil)) (.lit (.int (1))))) .none [1])) .nil))
def b__law_start : Ss := (.cons (.ret (.lst (.cons (.blt .list (.cons (.var 0) .nil)) (.cons (.lit (.int (0))) (.cons (.lit (.int (0))) (.cons (.lit (.int (0))) .nil)))))) .nil)
def b__law_draw : Ss := (.cons (.sub (.var 0) (.lit (.int (3))) (.op .add (.ix (.var 0) (.lit (.int (3)))) (.lit (.int (1))))) (.cons (.ite (.cmp .gt (.ix (.var 0) (.lit (.int (2)))) (.lit (.int (0)))) (.cons (.set 4 (.op .mod (.blt .int (.cons (.ix (.var 0) (.lit (.int (2)))) .nil)) (.var 1))) (.cons (.sub (.var 0) (.lit (.int (2))) (.op .fdiv (.ix (.var 0) (.lit (.int (2)))) (.var 1))) (.cons (.ret (.var 4)) .nil))) .nil) (.cons (.set 2 (.lit (.int (0)))) (.cons (.ite (.cmp .gt (.blt .len (.cons (.ix (.var 0) (.lit (.int (0)))) .nil)) (.lit (.int (0)))) (.cons (.set 2 (.blt .abs (.cons (.ix (.ix (.var 0) (.lit (.int (0)))) (.op .mod (.blt .int (.cons (.ix (.var 0) (.lit (.int (1)))) .nil)) (.blt .len (.cons (.ix (.var 0) (.lit (.int (0)))) .nil)))) .nil))) .nil) .nil) (.cons (.sub (.var 0) (.lit (.int (1))) (.op .add (.ix (.var 0) (.lit (.int (1)))) (.lit (.int (1))))) (.cons (.ite (.cmp .ge (.var 2) (.op .pow (.lit (.int (10))) (.lit (.int (18))))) (.cons (.sub (.var 0) (.lit (.int (2))) (.op .fdiv (.var 2) (.var 1))) (.cons (.ret (.op .mod (.blt .int (.cons (.var 2) .nil)) (.var 1))) .nil)) .nil) (.cons (.set 3 (.op .mod (.blt .int (.cons (.op .add (.op .mul (.op .add (.var 2) (.lit (.int (1)))) (.lit (.int (48271)))) (.op .mul (.ix (.var 0) (.lit (.int (3)))) (.lit (.int (69621))))) .nil)) (.lit (.int (2147483647))))) (.cons (.set 3 (.op .mod (.blt .int (.cons (.op .add (.op .add (.op .mul (.var 3) (.lit (.int (16807)))) (.op .fdiv (.var 2) (.lit (.int (97))))) (.ix (.var 0) (.lit (.int (3))))) .nil)) (.lit (.int (2147483629))))) (.cons (.ret (.op .mod (.op .fdiv (.var 3) (.lit (.int (11)))) (.var 1))) .nil)))))))))
def b__law_is_int : Ss := (.cons (.ret (.and (.isi (.var 0) [.int]) (.not (.isi (.var 0) [.bool])))) .nil)
def e__law_same_1 : E := (.call "_law_same" (.cons (.ix (.var 0) (.var 2)) (.cons (.ix (.var 1) (.var 2)) .nil)))
def b__law_same : Ss := (.cons (.ite (.isi (.var 1) [.tuple]) (.cons (.ite (.or (.not (.isi (.var 0) [.tuple])) (.cmp .ne (.blt .len (.cons (.var 0) .nil)) (.blt .len (.cons (.var 1) .nil)))) (.cons (.ret (.lit (.bl false))) .nil) .nil) (.cons (.ret (.comp (some .all) e__law_same_1 (.nm 2) (.rng1 (.blt .len (.cons (.var 1) .nil))) .none [2])) .nil)) .nil) (.cons (.ite (.isi (.var 1) [.str]) (.cons (.ret (.and (.isi (.var 0) [.str]) (.cmp .eq (.var 0) (.var 1)))) .nil) .nil) (.cons (.ret (.and (.call "_law_is_int" (.cons (.var 0) .nil)) (.cmp .eq (.var 0) (.var 1)))) .nil)))
def s__law_gcd_1 : Ss := (.cons (.set 2 (.op .mod (.blt .int (.cons (.var 0) .nil)) (.var 1))) (.cons (.set 0 (.var 1)) (.cons (.set 1 (.var 2)) .nil)))
def e__law_gcd_2 : E := (.cmp .ne (.var 1) (.lit (.int (0))))
def b__law_gcd : Ss := (.cons (.whl e__law_gcd_2 s__law_gcd_1) (.cons (.ret (.var 0)) .nil))
def b__law_fraction : Ss := (.cons (.set 2 (.call "_law_gcd" (.cons (.blt .abs (.cons (.var 0) .nil)) (.cons (.var 1) .nil)))) (.cons (.ret (.tup (.cons (.op .fdiv (.var 0) (.var 2)) (.cons (.op .fdiv (.var 1) (.var 2)) .nil)))) .nil))
def b__law_plus : Ss := (.cons (.ret (.call "_law_fraction" (.cons (.op .add (.op .mul (.ix (.var 0) (.lit (.int (0)))) (.ix (.var 1) (.lit (.int (1))))) (.op .mul (.ix (.var 1) (.lit (.int (0)))) (.ix (.var 0) (.lit (.int (1)))))) (.cons (.op .mul (.ix (.var 0) (.lit (.int (1)))) (.ix (.var 1) (.lit (.int (1))))) .nil)))) .nil)
def b__law_times : Ss := (.cons (.ret (.call "_law_fraction" (.cons (.op .mul (.ix (.var 0) (.lit (.int (0)))) (.ix (.var 1) (.lit (.int (0))))) (.cons (.op .mul (.ix (.var 0) (.lit (.int (1)))) (.ix (.var 1) (.lit (.int (1))))) .nil)))) .nil)
def s__law_power_1 : Ss := (.cons (.set 2 (.op .mul (.var 2) (.ix (.var 0) (.lit (.int (0)))))) (.cons (.set 3 (.op .mul (.var 3) (.ix (.var 0) (.lit (.int (1)))))) .nil))
def b__law_power : Ss := (.cons (.set 2 (.lit (.int (1)))) (.cons (.set 3 (.lit (.int (1)))) (.cons (.for (.nm 4) (.rng1 (.var 1)) s__law_power_1) (.cons (.ret (.tup (.cons (.var 2) (.cons (.var 3) .nil)))) .nil))))
def s__law_chance_1 : Ss := (.cons (.set 2 (.call "_law_plus" (.cons (.var 2) (.cons (.call "_law_times" (.cons (.var 4) (.cons (.call "_law_power" (.cons (.var 1) (.cons (.var 3) .nil))) .nil))) .nil)))) .nil)
def b__law_chance : Ss := (.cons (.set 2 (.tup (.cons (.lit (.int (0))) (.cons (.lit (.int (1))) .nil)))) (.cons (.for (.tup (.cons (.nm 3) (.cons (.nm 4) .nil))) (.of (.var 0)) s__law_chance_1) (.cons (.ret (.var 2)) .nil)))
def s__law_collected_1 : Ss := (.cons (.sub (.var 1) (.var 2) (.call "_law_plus" (.cons (.mth .get (.var 1) (.cons (.var 2) (.cons (.tup (.cons (.lit (.int (0))) (.cons (.lit (.int (1))) .nil))) .nil))) (.cons (.var 3) .nil)))) .nil)
def e__law_collected_2 : E := (.tup (.cons (.var 2) (.cons (.ix (.var 1) (.var 2)) .nil)))
def b__law_collected : Ss := (.cons (.set 1 .dnew) (.cons (.for (.tup (.cons (.nm 2) (.cons (.nm 3) .nil))) (.of (.var 0)) s__law_collected_1) (.cons (.ret (.comp (some .tuple) e__law_collected_2 (.nm 2) (.of (.blt .sorted (.cons (.var 1) .nil))) (.some (.cmp .ne (.ix (.ix (.var 1) (.var 2)) (.lit (.int (0)))) (.lit (.int (0))))) [2])) .nil)))
def s__law_some_poly_1 : Ss := (.cons (.set 3 (.op .sub (.call "_law_draw" (.cons (.var 0) (.cons (.lit (.int (41))) .nil))) (.lit (.int (20))))) (.cons (.exp (.mth .append (.var 1) (.cons (.tup (.cons (.call "_law_draw" (.cons (.var 0) (.cons (.lit (.int (7))) .nil))) (.cons (.call "_law_fraction" (.cons (.var 3) (.cons (.op .add (.lit (.int (1))) (.call "_law_draw" (.cons (.var 0) (.cons (.lit (.int (12))) .nil)))) .nil))) .nil))) .nil))) .nil))
def b__law_some_poly : Ss := (.cons (.set 1 (.lst .nil)) (.cons (.for (.nm 2) (.rng1 (.call "_law_draw" (.cons (.var 0) (.cons (.lit (.int (5))) .nil)))) s__law_some_poly_1) (.cons (.ret (.call "_law_collected" (.cons (.var 1) .nil))) .nil)))
def s__law_product_1 : Ss := (.cons (.exp (.mth .append (.var 2) (.cons (.tup (.cons (.op .add (.var 3) (.var 5)) (.cons (.call "_law_times" (.cons (.var 4) (.cons (.var 6) .nil))) .nil))) .nil))) .nil)
def s__law_product_2 : Ss := (.cons (.for (.tup (.cons (.nm 5) (.cons (.nm 6) .nil))) (.of (.var 1)) s__law_product_1) .nil)
def b__law_product : Ss := (.cons (.set 2 (.lst .nil)) (.cons (.for (.tup (.cons (.nm 3) (.cons (.nm 4) .nil))) (.of (.var 0)) s__law_product_2) (.cons (.ret (.call "_law_collected" (.cons (.var 2) .nil))) .nil)))
def e__law_turned_1 : E := (.tup (.cons (.var 1) (.cons (.tup (.cons (.neg (.ix (.var 2) (.lit (.int (0))))) (.cons (.ix (.var 2) (.lit (.int (1)))) .nil))) .nil)))
def b__law_turned : Ss := (.cons (.ret (.comp none e__law_turned_1 (.tup (.cons (.nm 1) (.cons (.nm 2) .nil))) (.of (.var 0)) .none [1, 2])) .nil)
def b__law_refuses : Ss := (.cons (.tryx (.cons (.exp (.call "fraction_of" (.cons (.var 0) .nil))) .nil) [("NotFit", true)] 1 (.and (.word "letter") (.and (.isi [("NotFit", true)]) (.and (.isi [("NotFit", true)]) (.not (.isi [("NotFit", false)])))))) (.cons (.ret (.lit (.bl false))) .nil))
def b__law_bad : Ss := (.cons (.set 2 (.lst (.cons (.tup (.cons (.lit (.int (1))) (.cons (.lit (.int (2))) .nil))) (.cons (.tup (.cons (.tup (.cons (.lit (.int (0))) (.cons (.tup (.cons (.lit (.int (2))) (.cons (.lit (.int (4))) .nil))) .nil))) .nil)) (.cons (.tup (.cons (.tup (.cons (.lit (.int (0))) (.cons (.tup (.cons (.lit (.int (0))) (.cons (.lit (.int (1))) .nil))) .nil))) .nil)) (.cons (.tup (.cons (.tup (.cons (.neg (.lit (.int (1)))) (.cons (.tup (.cons (.lit (.int (1))) (.cons (.lit (.int (2))) .nil))) .nil))) .nil)) (.cons (.tup (.cons (.tup (.cons (.lit (.int (1))) (.cons (.tup (.cons (.lit (.int (1))) (.cons (.lit (.int (2))) .nil))) .nil))) (.cons (.tup (.cons (.lit (.int (0))) (.cons (.tup (.cons (.lit (.int (1))) (.cons (.lit (.int (2))) .nil))) .nil))) .nil))) (.cons (.tup (.cons (.tup (.cons (.lit (.int (0))) (.cons (.lit (.int (1))) .nil))) .nil)) (.cons (.lit (.str "p")) (.cons (.lit (.int (5))) .nil)))))))))) (.cons (.set 2 (.op .add (.var 2) (.lst (.cons (.tup (.cons (.tup (.cons (.lit (.int (0))) (.cons (.tup (.cons (.lit (.int (1))) (.cons (.lit (.int (2))) .nil))) .nil))) (.cons (.tup (.cons (.lit (.int (0))) (.cons (.tup (.cons (.lit (.int (1))) (.cons (.lit (.int (3))) .nil))) .nil))) .nil))) (.cons (.tup (.cons (.tup (.cons (.lit (.int (0))) (.cons (.tup (.cons (.lit (.int (1))) (.cons (.neg (.lit (.int (2)))) .nil))) .nil))) .nil)) (.cons (.tup (.cons (.tup (.cons (.lit (.int (0))) (.cons (.tup (.cons (.lit (.int (1))) (.cons (.lit (.int (2))) .nil))) (.cons (.lit (.int (3))) .nil)))) .nil)) (.cons (.tup (.cons (.tup (.cons (.lit (.int (1))) (.cons (.tup (.cons (.lit (.int (1))) (.cons (.lit (.int (0))) .nil))) .nil))) .nil)) .nil))))))) (.cons (.ite (.cmp .gt (.blt .len (.cons (.var 1) .nil)) (.lit (.int (0)))) (.cons (.set 2 (.op .add (.var 2) (.lst (.cons (.op .add (.var 1) (.tup (.cons (.ix (.var 1) (.neg (.lit (.int (1))))) .nil))) (.cons (.op .add (.var 1) (.tup (.cons (.tup (.cons (.lit (.int (9))) (.cons (.tup (.cons (.lit (.int (0))) (.cons (.lit (.int (1))) .nil))) .nil))) .nil))) (.cons (.op .add (.tup (.cons (.ix (.var 1) (.lit (.int (0)))) .nil)) (.var 1)) (.cons (.op .add (.var 1) (.tup (.cons (.tup (.cons (.lit (.int (8))) (.cons (.tup (.cons (.lit (.int (3))) (.cons (.lit (.int (3))) .nil))) .nil))) .nil))) .nil))))))) .nil) .nil) (.cons (.ret (.var 2)) .nil))))
def e_law_1 : E := (.cmp .gt (.var 7) (.lit (.int (0))))
def e_law_2 : E := (.cmp .isnot (.call "is_chance" (.cons (.var 6) .nil)) (.lit (.bl false)))
def s_law_3 : Ss := (.cons (.set 3 (.call "_law_some_poly" (.cons (.var 1) .nil))) (.cons (.set 4 (.call "_law_some_poly" (.cons (.var 1) .nil))) (.cons (.ite (.not (.call "_law_same" (.cons (.call "chance_sum" (.cons (.var 3) (.cons (.var 4) .nil))) (.cons (.call "_law_collected" (.cons (.op .add (.blt .list (.cons (.var 3) .nil)) (.blt .list (.cons (.var 4) .nil))) .nil)) .nil)))) (.cons (.ret (.lit (.bl false))) .nil) .nil) (.cons (.ite (.not (.call "_law_same" (.cons (.call "chance_less" (.cons (.var 3) (.cons (.var 4) .nil))) (.cons (.call "_law_collected" (.cons (.op .add (.blt .list (.cons (.var 3) .nil)) (.call "_law_turned" (.cons (.var 4) .nil))) .nil)) .nil)))) (.cons (.ret (.lit (.bl false))) .nil) .nil) (.cons (.ite (.or (.not (.call "_law_same" (.cons (.call "chance_less" (.cons (.var 3) (.cons (.var 3) .nil))) (.cons (.tup .nil) .nil)))) (.not (.call "_law_same" (.cons (.call "chance_product" (.cons (.var 3) (.cons (.var 4) .nil))) (.cons (.call "_law_product" (.cons (.var 3) (.cons (.var 4) .nil))) .nil))))) (.cons (.ret (.lit (.bl false))) .nil) .nil) (.cons (.set 5 (.call "_law_fraction" (.cons (.op .sub (.call "_law_draw" (.cons (.var 1) (.cons (.lit (.int (21))) .nil))) (.lit (.int (10)))) (.cons (.op .add (.lit (.int (1))) (.call "_law_draw" (.cons (.var 1) (.cons (.lit (.int (9))) .nil)))) .nil)))) (.cons (.ite (.not (.call "_law_same" (.cons (.call "chance_value" (.cons (.var 3) (.cons (.var 5) .nil))) (.cons (.call "_law_chance" (.cons (.var 3) (.cons (.var 5) .nil))) .nil)))) (.cons (.ret (.lit (.bl false))) .nil) .nil) (.cons (.ite (.not (.call "_law_same" (.cons (.call "told_chance" (.cons (.var 5) .nil)) (.cons (.call "_law_collected" (.cons (.lst (.cons (.tup (.cons (.lit (.int (0))) (.cons (.var 5) .nil))) .nil)) .nil)) .nil)))) (.cons (.ret (.lit (.bl false))) .nil) .nil) (.cons (.ite (.not (.call "_law_same" (.cons (.call "fraction_of" (.cons (.call "told_chance" (.cons (.var 5) .nil)) .nil)) (.cons (.var 5) .nil)))) (.cons (.ret (.lit (.bl false))) .nil) .nil) (.cons (.ite (.comp (some .any) e_law_1 (.tup (.cons (.nm 7) (.cons (.nm 8) .nil))) (.of (.var 3)) .none [7, 8]) (.cons (.ite (.not (.call "_law_refuses" (.cons (.var 3) .nil))) (.cons (.ret (.lit (.bl false))) .nil) .nil) .nil) .nil) (.cons (.ite (.or (.not (.cmp .is (.call "is_chance" (.cons (.var 3) .nil)) (.lit (.bl true)))) (.cmp .isnot (.call "is_chance" (.cons (.tup .nil) .nil)) (.lit (.bl true)))) (.cons (.ret (.lit (.bl false))) .nil) .nil) (.cons (.ite (.comp (some .any) e_law_2 (.nm 6) (.of (.call "_law_bad" (.cons (.var 1) (.cons (.var 3) .nil)))) .none [6]) (.cons (.ret (.lit (.bl false))) .nil) .nil) .nil))))))))))))
def b_law : Ss := (.cons (.set 1 (.call "_law_start" (.cons (.var 0) .nil))) (.cons (.ite (.not (.call "_law_same" (.cons (.call "letter_chance" .nil) (.cons (.tup (.cons (.tup (.cons (.lit (.int (1))) (.cons (.tup (.cons (.lit (.int (1))) (.cons (.lit (.int (1))) .nil))) .nil))) .nil)) .nil)))) (.cons (.ret (.lit (.bl false))) .nil) .nil) (.cons (.for (.nm 2) (.rng1 (.lit (.int (3)))) s_law_3) (.cons (.ret (.lit (.bl true))) .nil))))
def d_is_integer : Mi.Dn := ⟨⟨("is_integer", none), "is_integer", "is_integer", defArgs (top 6), defBody (top 6), defScope (top 6), [], []⟩, [("datum" : Str)], [("datum" : Str)], b_is_integer⟩
def d_fraction : Mi.Dn := ⟨⟨("fraction", none), "fraction", "fraction", defArgs (top 7), defBody (top 7), defScope (top 7), [], []⟩, [("n" : Str), ("d" : Str)], [("n" : Str), ("d" : Str), ("common" : Str)], b_fraction⟩
def d_plus : Mi.Dn := ⟨⟨("plus", none), "plus", "plus", defArgs (top 8), defBody (top 8), defScope (top 8), [], []⟩, [("a" : Str), ("b" : Str)], [("a" : Str), ("b" : Str)], b_plus⟩
def d_minus : Mi.Dn := ⟨⟨("minus", none), "minus", "minus", defArgs (top 9), defBody (top 9), defScope (top 9), [], []⟩, [("a" : Str), ("b" : Str)], [("a" : Str), ("b" : Str)], b_minus⟩
def d_times : Mi.Dn := ⟨⟨("times", none), "times", "times", defArgs (top 10), defBody (top 10), defScope (top 10), [], []⟩, [("a" : Str), ("b" : Str)], [("a" : Str), ("b" : Str)], b_times⟩
def d_is_fraction : Mi.Dn := ⟨⟨("is_fraction", none), "is_fraction", "is_fraction", defArgs (top 11), defBody (top 11), defScope (top 11), [], []⟩, [("datum" : Str)], [("datum" : Str), ("n" : Str), ("d" : Str)], b_is_fraction⟩
def d_collected : Mi.Dn := ⟨⟨("collected", none), "collected", "collected", defArgs (top 15), defBody (top 15), defScope (top 15), [], []⟩, [("pairs" : Str)], [("pairs" : Str), ("table" : Str), ("exponent" : Str), ("number" : Str)], b_collected⟩
def d_told_chance : Mi.Dn := ⟨⟨("told_chance", none), "told_chance", "told_chance", defArgs (top 16), defBody (top 16), defScope (top 16), [], []⟩, [("f" : Str)], [("f" : Str)], b_told_chance⟩
def d_letter_chance : Mi.Dn := ⟨⟨("letter_chance", none), "letter_chance", "letter_chance", defArgs (top 17), defBody (top 17), defScope (top 17), [], []⟩, [], [], b_letter_chance⟩
def d_chance_sum : Mi.Dn := ⟨⟨("chance_sum", none), "chance_sum", "chance_sum", defArgs (top 18), defBody (top 18), defScope (top 18), [], []⟩, [("one" : Str), ("other" : Str)], [("one" : Str), ("other" : Str)], b_chance_sum⟩
def d_chance_less : Mi.Dn := ⟨⟨("chance_less", none), "chance_less", "chance_less", defArgs (top 19), defBody (top 19), defScope (top 19), [], []⟩, [("one" : Str), ("other" : Str)], [("one" : Str), ("other" : Str), ("exponent" : Str), ("number" : Str)], b_chance_less⟩
def d_chance_product : Mi.Dn := ⟨⟨("chance_product", none), "chance_product", "chance_product", defArgs (top 20), defBody (top 20), defScope (top 20), [], []⟩, [("one" : Str), ("other" : Str)], [("one" : Str), ("other" : Str), ("pairs" : Str), ("exponent" : Str), ("number" : Str), ("further" : Str), ("factor" : Str)], b_chance_product⟩
def d_chance_value : Mi.Dn := ⟨⟨("chance_value", none), "chance_value", "chance_value", defArgs (top 21), defBody (top 21), defScope (top 21), [], []⟩, [("one" : Str), ("f" : Str)], [("one" : Str), ("f" : Str), ("total" : Str), ("exponent" : Str), ("number" : Str), ("_" : Str)], b_chance_value⟩
def d_fraction_of : Mi.Dn := ⟨⟨("fraction_of", none), "fraction_of", "fraction_of", defArgs (top 22), defBody (top 22), defScope (top 22), [], []⟩, [("one" : Str)], [("one" : Str)], b_fraction_of⟩
def d_is_pair : Mi.Dn := ⟨⟨("is_pair", none), "is_pair", "is_pair", defArgs (top 23), defBody (top 23), defScope (top 23), [], []⟩, [("datum" : Str)], [("datum" : Str), ("exponent" : Str), ("number" : Str)], b_is_pair⟩
def d_is_chance : Mi.Dn := ⟨⟨("is_chance", none), "is_chance", "is_chance", defArgs (top 24), defBody (top 24), defScope (top 24), [], []⟩, [("datum" : Str)], [("datum" : Str), ("k" : Str), ("pair" : Str)], b_is_chance⟩
def d__law_start : Mi.Dn := ⟨⟨("_law_start", none), "_law_start", "_law_start", defArgs (top 26), defBody (top 26), defScope (top 26), [], []⟩, [("script" : Str)], [("script" : Str)], b__law_start⟩
def d__law_draw : Mi.Dn := ⟨⟨("_law_draw", none), "_law_draw", "_law_draw", defArgs (top 27), defBody (top 27), defScope (top 27), [], []⟩, [("state" : Str), ("most" : Str)], [("state" : Str), ("most" : Str), ("cell" : Str), ("mixed" : Str), ("found" : Str)], b__law_draw⟩
def d__law_is_int : Mi.Dn := ⟨⟨("_law_is_int", none), "_law_is_int", "_law_is_int", defArgs (top 28), defBody (top 28), defScope (top 28), [], []⟩, [("x" : Str)], [("x" : Str)], b__law_is_int⟩
def d__law_same : Mi.Dn := ⟨⟨("_law_same", none), "_law_same", "_law_same", defArgs (top 29), defBody (top 29), defScope (top 29), [], []⟩, [("x" : Str), ("y" : Str)], [("x" : Str), ("y" : Str), ("k" : Str)], b__law_same⟩
def d__law_gcd : Mi.Dn := ⟨⟨("_law_gcd", none), "_law_gcd", "_law_gcd", defArgs (top 30), defBody (top 30), defScope (top 30), [], []⟩, [("a" : Str), ("b" : Str)], [("a" : Str), ("b" : Str), ("rest" : Str)], b__law_gcd⟩
def d__law_fraction : Mi.Dn := ⟨⟨("_law_fraction", none), "_law_fraction", "_law_fraction", defArgs (top 31), defBody (top 31), defScope (top 31), [], []⟩, [("n" : Str), ("d" : Str)], [("n" : Str), ("d" : Str), ("common" : Str)], b__law_fraction⟩
def d__law_plus : Mi.Dn := ⟨⟨("_law_plus", none), "_law_plus", "_law_plus", defArgs (top 32), defBody (top 32), defScope (top 32), [], []⟩, [("a" : Str), ("b" : Str)], [("a" : Str), ("b" : Str)], b__law_plus⟩
def d__law_times : Mi.Dn := ⟨⟨("_law_times", none), "_law_times", "_law_times", defArgs (top 33), defBody (top 33), defScope (top 33), [], []⟩, [("a" : Str), ("b" : Str)], [("a" : Str), ("b" : Str)], b__law_times⟩
def d__law_power : Mi.Dn := ⟨⟨("_law_power", none), "_law_power", "_law_power", defArgs (top 34), defBody (top 34), defScope (top 34), [], []⟩, [("a" : Str), ("n" : Str)], [("a" : Str), ("n" : Str), ("top" : Str), ("low" : Str), ("turn" : Str)], b__law_power⟩
def d__law_chance : Mi.Dn := ⟨⟨("_law_chance", none), "_law_chance", "_law_chance", defArgs (top 35), defBody (top 35), defScope (top 35), [], []⟩, [("c" : Str), ("p" : Str)], [("c" : Str), ("p" : Str), ("found" : Str), ("exponent" : Str), ("a" : Str)], b__law_chance⟩
def d__law_collected : Mi.Dn := ⟨⟨("_law_collected", none), "_law_collected", "_law_collected", defArgs (top 36), defBody (top 36), defScope (top 36), [], []⟩, [("pairs" : Str)], [("pairs" : Str), ("table" : Str), ("exponent" : Str), ("a" : Str)], b__law_collected⟩
def d__law_some_poly : Mi.Dn := ⟨⟨("_law_some_poly", none), "_law_some_poly", "_law_some_poly", defArgs (top 37), defBody (top 37), defScope (top 37), [], []⟩, [("state" : Str)], [("state" : Str), ("pairs" : Str), ("turn" : Str), ("top" : Str)], b__law_some_poly⟩
def d__law_product : Mi.Dn := ⟨⟨("_law_product", none), "_law_product", "_law_product", defArgs (top 38), defBody (top 38), defScope (top 38), [], []⟩, [("one" : Str), ("other" : Str)], [("one" : Str), ("other" : Str), ("pairs" : Str), ("exponent" : Str), ("a" : Str), ("more" : Str), ("b" : Str)], b__law_product⟩
def d__law_turned : Mi.Dn := ⟨⟨("_law_turned", none), "_law_turned", "_law_turned", defArgs (top 39), defBody (top 39), defScope (top 39), [], []⟩, [("one" : Str)], [("one" : Str), ("exponent" : Str), ("a" : Str)], b__law_turned⟩
def d__law_refuses : Mi.Dn := ⟨⟨("_law_refuses", none), "_law_refuses", "_law_refuses", defArgs (top 40), defBody (top 40), defScope (top 40), [], []⟩, [("one" : Str)], [("one" : Str), ("e" : Str)], b__law_refuses⟩
def d__law_bad : Mi.Dn := ⟨⟨("_law_bad", none), "_law_bad", "_law_bad", defArgs (top 41), defBody (top 41), defScope (top 41), [], []⟩, [("state" : Str), ("one" : Str)], [("state" : Str), ("one" : Str), ("bad" : Str)], b__law_bad⟩
def d_law : Mi.Dn := ⟨⟨("law", none), "law", "law", defArgs (top 42), defBody (top 42), defScope (top 42), [], []⟩, [("script" : Str)], [("script" : Str), ("state" : Str), ("turn" : Str), ("one" : Str), ("other" : Str), ("f" : Str), ("datum" : Str), ("exponent" : Str), ("a" : Str)], b_law⟩
def fs : List Mi.Dn := [d_is_integer, d_fraction, d_plus, d_minus, d_times, d_is_fraction, d_collected, d_told_chance, d_letter_chance, d_chance_sum, d_chance_less, d_chance_product, d_chance_value, d_fraction_of, d_is_pair, d_is_chance, d__law_start, d__law_draw, d__law_is_int, d__law_same, d__law_gcd, d__law_fraction, d__law_plus, d__law_times, d__law_power, d__law_chance, d__law_collected, d__law_some_poly, d__law_product, d__law_turned, d__law_refuses, d__law_bad, d_law]
def bd (x : Str) : Option (Nat × Nat × Ss) := match fs.find? fun d => decide (d.d.name = x) with
  | some d => some (d.ps.length, d.N.length, d.body)
  | none => none
def initOf (j : Nat) : Stmt → Stmt
  | .ClassDef _ _ _ b _ _ _ _ _ _ _ => b.getD j (.Pass ⟨0, 0, 0, 0⟩)
  | s => s
def i_NotFit : Mi.InD := ⟨"NotFit", "__init__", "NotFit.__init__", defArgs (initOf 0 (top 4)), defBody (initOf 0 (top 4)), defScope (initOf 0 (top 4))⟩
def ins : List Mi.InD := [i_NotFit]
def gl : List (Str × D) := [("ZERO", .tup [.int (0), .int (1)]), ("ONE", .tup [.int (1), .int (1)])]
end K32
set_option maxHeartbeats 0
namespace K32
open PySem PySem.Spec PyProof.Rows L2 Mi
theorem ok_is_integer : DnOk Tm d_is_integer := ⟨C8.fnScope_by (by decide +kernel), ⟨300, by kernel_rfl⟩, fun _ _ _ _ _ _ us hl => match us, hl with | [_], _ => rfl⟩
theorem ok_fraction : DnOk Tm d_fraction := ⟨C8.fnScope_by (by decide +kernel), ⟨300, by kernel_rfl⟩, fun _ _ _ _ _ _ us hl => match us, hl with | [_, _], _ => rfl⟩
theorem ok_plus : DnOk Tm d_plus := ⟨C8.fnScope_by (by decide +kernel), ⟨300, by kernel_rfl⟩, fun _ _ _ _ _ _ us hl => match us, hl with | [_, _], _ => rfl⟩
theorem ok_minus : DnOk Tm d_minus := ⟨C8.fnScope_by (by decide +kernel), ⟨300, by kernel_rfl⟩, fun _ _ _ _ _ _ us hl => match us, hl with | [_, _], _ => rfl⟩
theorem ok_times : DnOk Tm d_times := ⟨C8.fnScope_by (by decide +kernel), ⟨300, by kernel_rfl⟩, fun _ _ _ _ _ _ us hl => match us, hl with | [_, _], _ => rfl⟩
theorem ok_is_fraction : DnOk Tm d_is_fraction := ⟨C8.fnScope_by (by decide +kernel), ⟨300, by kernel_rfl⟩, fun _ _ _ _ _ _ us hl => match us, hl with | [_], _ => rfl⟩
theorem ok_collected : DnOk Tm d_collected := ⟨C8.fnScope_by (by decide +kernel), ⟨300, by kernel_rfl⟩, fun _ _ _ _ _ _ us hl => match us, hl with | [_], _ => rfl⟩
theorem ok_told_chance : DnOk Tm d_told_chance := ⟨C8.fnScope_by (by decide +kernel), ⟨300, by kernel_rfl⟩, fun _ _ _ _ _ _ us hl => match us, hl with | [_], _ => rfl⟩
theorem ok_letter_chance : DnOk Tm d_letter_chance := ⟨C8.fnScope_by (by decide +kernel), ⟨300, by kernel_rfl⟩, fun _ _ _ _ _ _ us hl => match us, hl with | [], _ => rfl⟩
theorem ok_chance_sum : DnOk Tm d_chance_sum := ⟨C8.fnScope_by (by decide +kernel), ⟨300, by kernel_rfl⟩, fun _ _ _ _ _ _ us hl => match us, hl with | [_, _], _ => rfl⟩
theorem ok_chance_less : DnOk Tm d_chance_less := ⟨C8.fnScope_by (by decide +kernel), ⟨300, by kernel_rfl⟩, fun _ _ _ _ _ _ us hl => match us, hl with | [_, _], _ => rfl⟩
theorem ok_chance_product : DnOk Tm d_chance_product := ⟨C8.fnScope_by (by decide +kernel), ⟨300, by kernel_rfl⟩, fun _ _ _ _ _ _ us hl => match us, hl with | [_, _], _ => rfl⟩
theorem ok_chance_value : DnOk Tm d_chance_value := ⟨C8.fnScope_by (by decide +kernel), ⟨300, by kernel_rfl⟩, fun _ _ _ _ _ _ us hl => match us, hl with | [_, _], _ => rfl⟩
theorem ok_fraction_of : DnOk Tm d_fraction_of := ⟨C8.fnScope_by (by decide +kernel), ⟨300, by kernel_rfl⟩, fun _ _ _ _ _ _ us hl => match us, hl with | [_], _ => rfl⟩
theorem ok_is_pair : DnOk Tm d_is_pair := ⟨C8.fnScope_by (by decide +kernel), ⟨300, by kernel_rfl⟩, fun _ _ _ _ _ _ us hl => match us, hl with | [_], _ => rfl⟩
theorem ok_is_chance : DnOk Tm d_is_chance := ⟨C8.fnScope_by (by decide +kernel), ⟨300, by kernel_rfl⟩, fun _ _ _ _ _ _ us hl => match us, hl with | [_], _ => rfl⟩
theorem ok__law_start : DnOk Tm d__law_start := ⟨C8.fnScope_by (by decide +kernel), ⟨300, by kernel_rfl⟩, fun _ _ _ _ _ _ us hl => match us, hl with | [_], _ => rfl⟩
theorem ok__law_draw : DnOk Tm d__law_draw := ⟨C8.fnScope_by (by decide +kernel), ⟨300, by kernel_rfl⟩, fun _ _ _ _ _ _ us hl => match us, hl with | [_, _], _ => rfl⟩
theorem ok__law_is_int : DnOk Tm d__law_is_int := ⟨C8.fnScope_by (by decide +kernel), ⟨300, by kernel_rfl⟩, fun _ _ _ _ _ _ us hl => match us, hl with | [_], _ => rfl⟩
theorem ok__law_same : DnOk Tm d__law_same := ⟨C8.fnScope_by (by decide +kernel), ⟨300, by kernel_rfl⟩, fun _ _ _ _ _ _ us hl => match us, hl with | [_, _], _ => rfl⟩
theorem ok__law_gcd : DnOk Tm d__law_gcd := ⟨C8.fnScope_by (by decide +kernel), ⟨300, by kernel_rfl⟩, fun _ _ _ _ _ _ us hl => match us, hl with | [_, _], _ => rfl⟩
theorem ok__law_fraction : DnOk Tm d__law_fraction := ⟨C8.fnScope_by (by decide +kernel), ⟨300, by kernel_rfl⟩, fun _ _ _ _ _ _ us hl => match us, hl with | [_, _], _ => rfl⟩
theorem ok__law_plus : DnOk Tm d__law_plus := ⟨C8.fnScope_by (by decide +kernel), ⟨300, by kernel_rfl⟩, fun _ _ _ _ _ _ us hl => match us, hl with | [_, _], _ => rfl⟩
theorem ok__law_times : DnOk Tm d__law_times := ⟨C8.fnScope_by (by decide +kernel), ⟨300, by kernel_rfl⟩, fun _ _ _ _ _ _ us hl => match us, hl with | [_, _], _ => rfl⟩
theorem ok__law_power : DnOk Tm d__law_power := ⟨C8.fnScope_by (by decide +kernel), ⟨300, by kernel_rfl⟩, fun _ _ _ _ _ _ us hl => match us, hl with | [_, _], _ => rfl⟩
theorem ok__law_chance : DnOk Tm d__law_chance := ⟨C8.fnScope_by (by decide +kernel), ⟨300, by kernel_rfl⟩, fun _ _ _ _ _ _ us hl => match us, hl with | [_, _], _ => rfl⟩
theorem ok__law_collected : DnOk Tm d__law_collected := ⟨C8.fnScope_by (by decide +kernel), ⟨300, by kernel_rfl⟩, fun _ _ _ _ _ _ us hl => match us, hl with | [_], _ => rfl⟩
theorem ok__law_some_poly : DnOk Tm d__law_some_poly := ⟨C8.fnScope_by (by decide +kernel), ⟨300, by kernel_rfl⟩, fun _ _ _ _ _ _ us hl => match us, hl with | [_], _ => rfl⟩
theorem ok__law_product : DnOk Tm d__law_product := ⟨C8.fnScope_by (by decide +kernel), ⟨300, by kernel_rfl⟩, fun _ _ _ _ _ _ us hl => match us, hl with | [_, _], _ => rfl⟩
theorem ok__law_turned : DnOk Tm d__law_turned := ⟨C8.fnScope_by (by decide +kernel), ⟨300, by kernel_rfl⟩, fun _ _ _ _ _ _ us hl => match us, hl with | [_], _ => rfl⟩
theorem ok__law_refuses : DnOk Tm d__law_refuses := ⟨C8.fnScope_by (by decide +kernel), ⟨300, by kernel_rfl⟩, fun _ _ _ _ _ _ us hl => match us, hl with | [_], _ => rfl⟩
theorem ok__law_bad : DnOk Tm d__law_bad := ⟨C8.fnScope_by (by decide +kernel), ⟨300, by kernel_rfl⟩, fun _ _ _ _ _ _ us hl => match us, hl with | [_, _], _ => rfl⟩
theorem ok_law : DnOk Tm d_law := ⟨C8.fnScope_by (by decide +kernel), ⟨300, by kernel_rfl⟩, fun _ _ _ _ _ _ us hl => match us, hl with | [_], _ => rfl⟩
theorem ok_all : ∀ d ∈ fs, DnOk Tm d := by
  intro d hd
  simp only [fs, List.mem_cons, List.not_mem_nil, or_false] at hd
  rcases hd with rfl | rfl | rfl | rfl | rfl | rfl | rfl | rfl | rfl | rfl | rfl | rfl | rfl | rfl | rfl | rfl | rfl | rfl | rfl | rfl | rfl | rfl | rfl | rfl | rfl | rfl | rfl | rfl | rfl | rfl | rfl | rfl | rfl
  · exact ok_is_integer
  · exact ok_fraction
  · exact ok_plus
  · exact ok_minus
  · exact ok_times
  · exact ok_is_fraction
  · exact ok_collected
  · exact ok_told_chance
  · exact ok_letter_chance
  · exact ok_chance_sum
  · exact ok_chance_less
  · exact ok_chance_product
  · exact ok_chance_value
  · exact ok_fraction_of
  · exact ok_is_pair
  · exact ok_is_chance
  · exact ok__law_start
  · exact ok__law_draw
  · exact ok__law_is_int
  · exact ok__law_same
  · exact ok__law_gcd
  · exact ok__law_fraction
  · exact ok__law_plus
  · exact ok__law_times
  · exact ok__law_power
  · exact ok__law_chance
  · exact ok__law_collected
  · exact ok__law_some_poly
  · exact ok__law_product
  · exact ok__law_turned
  · exact ok__law_refuses
  · exact ok__law_bad
  · exact ok_law
theorem ins_NotFit : Mi.InS PySem.Challenge.pw_castbypowers_k32_chances_as_polynomials i_NotFit := ⟨NdefX.nscope_by (by decide +kernel), by decide +kernel, by decide +kernel, ⟨_, _, _, _, _, _, _, _, _, _, _, _, _, _, _, rfl, by decide +kernel, _, fun env => rfl⟩, ⟨_, rfl, rfl⟩, fun _ _ _ _ _ us hl => match us, hl with | [_, _], _ => rfl⟩
theorem ins_ok : ∀ d ∈ ins, Mi.InS PySem.Challenge.pw_castbypowers_k32_chances_as_polynomials d := by
  intro d hd
  simp only [ins, List.mem_cons, List.not_mem_nil, or_false] at hd
  rcases hd with rfl
  · exact ins_NotFit
end K32
set_option maxHeartbeats 0
namespace K32
open PySem PySem.Spec PyProof.Rows L2 Mi
def fnD : List He.DefD := fs.map (·.d)
def faF : List He.Fa := Tm.free.map He.Fa.free
def faG : List He.Fa := Tm.fns.map He.Fa.glo
def fa : List He.Fa := faF ++ faG
abbrev R : PySem.W.OpenRow := PySem.W.OpenLaw.row PySem.Challenge.rw_castbypowers_k32_chances_as_polynomials
abbrev hk : PySem.W.Hook := Mi.hookE 4 fa fnD PySem.Challenge.pw_castbypowers_k32_chances_as_polynomials.main.file ins K32.Tm.sub true gl
def ob (s : PySem.W.SharedT) : Mi.AlE := Mi.obsEG 4 fa fnD PySem.Challenge.pw_castbypowers_k32_chances_as_polynomials.main.file ins K32.Tm.sub true gl (HandSHeadRun.getT s)
theorem ob_eq (s : PySem.W.SharedT) : ob s = hk.obs s.abs := Mi.obsEG_eq (HandSHeadRun.getT_eq s)
def loose : List Str := [("CastError" : Str), ("BadText" : Str), ("NotFit" : Str), ("is_integer" : Str), ("fraction" : Str), ("plus" : Str), ("minus" : Str), ("times" : Str), ("is_fraction" : Str), ("collected" : Str), ("told_chance" : Str), ("letter_chance" : Str), ("chance_sum" : Str), ("chance_less" : Str), ("chance_product" : Str), ("chance_value" : Str), ("fraction_of" : Str), ("is_pair" : Str), ("is_chance" : Str), ("_law_start" : Str), ("_law_draw" : Str), ("_law_is_int" : Str), ("_law_same" : Str), ("_law_gcd" : Str), ("_law_fraction" : Str), ("_law_plus" : Str), ("_law_times" : Str), ("_law_power" : Str), ("_law_chance" : Str), ("_law_collected" : Str), ("_law_some_poly" : Str), ("_law_product" : Str), ("_law_turned" : Str), ("_law_refuses" : Str), ("_law_bad" : Str), ("ZERO" : Str), ("ONE" : Str), ("gcd" : Str)]
theorem run (w : World) : HandSHeadRun.RunEqI R (PySem.W.view R.prog [0, 42]) hk ob 6000 loose w := by
  unfold HandSHeadRun.RunEqI
  kernel_rfl
end K32
namespace K32
open PySem PySem.Spec PyProof.Rows L2 Mi
abbrev G0 : Str → Option D := fun x => gl.lookup x
abbrev Γ (k : Nat) : Str → FS := Gam bd G0 k
variable {k : Nat} {S : Sto} {Q : KD} {X : KX} {pp : Addr}
def Stt (S : Sto) (a p : Addr) (z : Nat) : Prop := ∃ (ns : List Int) (x y w : Int) (ext : List D), S a = some (.lst (.ref p :: .int x :: .int y :: .int w :: ext)) ∧ S p = some (.lst (ns.map .int)) ∧ 0 ≤ x ∧ 0 ≤ y ∧ 0 ≤ w ∧ w ≤ z ∧ a ≠ p
theorem log63 {i : Int} (h1 : -(2 ^ 64) < i) (h2 : i < 2 ^ 64) : i.natAbs.log2 < 64 := by
  by_cases h : i.natAbs = 0
  · rw [h]; decide
  · rw [Nat.log2_lt h]; omega
theorem mulw {i j : Int} (h1 : -(2 ^ 64) < i) (h2 : i < 2 ^ 64) (h3 : -(2 ^ 64) < j) (h4 : j < 2 ^ 64) : CMulW i j := by
  have a := log63 h1 h2
  have b := log63 h3 h4
  unfold CMulW
  omega
theorem divw {i j : Int} (h3 : 0 < j) (h4 : j < 2 ^ 64) : CDivW i j := ⟨h3, by have := log63 (i := j) (by omega) h4; omega⟩
theorem draw_ok {a : Addr} {z : Nat} {most : Int} (hk : 0 < k) (h0 : 0 < most) (h1 : most < 2 ^ 60) (hz : z < 2 ^ 60) (st : Stt S a pp z) (hQ : ∀ (r : Int) (S' : Sto), 0 ≤ r → r < most → S.off a S' → Stt S' a pp (z + 1) → Q (.int r) S') : Γ k "_law_draw" [.ref a, .int most] S Q X := by
  obtain ⟨ns, x, y, w, ext, ha, hp, hx, hy, hw, hwz, hap⟩ := st
  obtain ⟨p, e0⟩ : ∃ p, p = pp := ⟨_, rfl⟩
  subst e0
  cases k with
  | zero => omega
  | succ k =>
  refine gam (np := 2) (nn := 5) (b := b__law_draw) rfl rfl ?_
  have fin : ∀ (r : Int) (x' y' : Int), 0 ≤ r → r < most → 0 ≤ x' → 0 ≤ y' → ∃ S0, S0.le (S.upd a (.lst (D.ref p :: D.int x' :: D.int y' :: D.int (w + 1) :: ext))) ∧ Q (.int r) S0 := fun r x' y' g1 g2 g3 g4 =>
    ⟨_, Sto.le_refl, hQ r _ g1 g2 Sto.off.refl.set ⟨ns, x', y', w + 1, ext, Sto.upd_same, by rw [Sto.upd_ne (Ne.symm hap)]; exact hp, g3, g4, by omega, by omega, hap⟩⟩
  simp only [b__law_draw, wSs, wS, wT, wE, wEs, wO, wC, wI, wG, wGs, startD, List.map_cons, List.map_nil, List.length_cons, List.length_nil, List.replicate, List.cons_append, List.nil_append, List.append_nil, List.set_cons_zero, List.set_cons_succ, List.getElem?_cons_zero, List.getElem?_cons_succ, itT, wipeD, opAddI, opSubI, opMulI, opDivI, opModI, opPowI, opAddT, cmEq, cmNe, cmLt, cmLe, cmGt, cmGe, cmIn, eqI, eqS, inS2, truB, ixT0, ixT1, ixT2, ixT3, ixT4, ixT6, slcT, lenT, absI, intI, tupleT, listT, listRl, decide_true, decide_false, if_true, if_false, Bool.false_eq_true, reduceIte, decide_eq_true_eq, Bool.not_true, Bool.not_false, line, mI_int, mI_bool, mI_str, mI_tuple, mI_list, mB_int, mB_bool, mB_str, mB_tuple, mB_list, mS_int, mS_bool, mS_str, mS_tuple, mS_list, mT_int, mT_bool, mT_str, mT_tuple, mT_list, mN_int, mN_bool, mN_str, mN_tuple, mN_list, anyT, anyF, Nat.zero_add, Nat.reduceAdd, Nat.reduceLeDiff, true_and, ixS3 ha, setS3 ha, ixU0, ixU1, ixU2, ixU3, setU1, setU2, lenU hap hp, List.length_map]
  by_cases hy0 : 0 < y
  · rw [if_pos hy0]
    exact ⟨h0, divw h0 (by omega), fin _ _ _ (Int.emod_nonneg _ (by omega)) (Int.emod_lt_of_pos _ h0) hx (Int.ediv_nonneg hy (by omega))⟩
  · rw [if_neg hy0]
    have rest : ∀ c : Int, 0 ≤ c → CPow 10 18 ∧ if (10 ^ Int.toNat 18 : Int) ≤ c then CDivW c most ∧ 0 < most ∧ ∃ S0, S0.le (S.upd a (.lst (D.ref p :: D.int (x + 1) :: D.int (c / most) :: D.int (w + 1) :: ext))) ∧ Q (.int (c % most)) S0
        else CMulW (c + 1) 48271 ∧ CMulW (w + 1) 69621 ∧ 0 < (2147483647 : Int) ∧ CMulW (((c + 1) * 48271 + (w + 1) * 69621) % 2147483647) 16807 ∧ CDivW c 97 ∧ 0 < (2147483629 : Int) ∧
          CDivW ((((c + 1) * 48271 + (w + 1) * 69621) % 2147483647 * 16807 + c / 97 + (w + 1)) % 2147483629) 11 ∧ 0 < most ∧ ∃ S0, S0.le (S.upd a (.lst (D.ref p :: D.int (x + 1) :: D.int y :: D.int (w + 1) :: ext))) ∧ Q (.int ((((c + 1) * 48271 + (w + 1) * 69621) % 2147483647 * 16807 + c / 97 + (w + 1)) % 2147483629 / 11 % most)) S0 := by
      intro c hc
      refine ⟨⟨by decide, by decide, by decide⟩, ?_⟩
      by_cases hcc : (10 ^ Int.toNat 18 : Int) ≤ c
      · rw [if_pos hcc]
        exact ⟨divw h0 (by omega), h0, fin _ _ _ (Int.emod_nonneg _ (by omega)) (Int.emod_lt_of_pos _ h0) (by omega) (Int.ediv_nonneg hc (by omega))⟩
      · rw [if_neg hcc]
        have h18 : (10 ^ Int.toNat 18 : Int) = 1000000000000000000 := by decide
        rw [h18] at hcc
        refine ⟨mulw (by omega) (by omega) (by decide) (by decide), mulw (by omega) (by omega) (by decide) (by decide), by decide, ?_, divw (by decide) (by decide), by decide, divw (by decide) (by decide), h0, fin _ _ _ (Int.emod_nonneg _ (by omega)) (Int.emod_lt_of_pos _ h0) (by omega) hy⟩
        have g1 := Int.emod_nonneg ((c + 1) * 48271 + (w + 1) * 69621) (show (2147483647 : Int) ≠ 0 by decide)
        have g2 := Int.emod_lt_of_pos ((c + 1) * 48271 + (w + 1) * 69621) (show (0 : Int) < 2147483647 by decide)
        exact mulw (by omega) (by omega) (by decide) (by decide)
    by_cases hn : (0 : Int) < (ns.length : Int)
    · rw [if_pos hn]
      have j0 := Int.emod_nonneg x (show (ns.length : Int) ≠ 0 by omega)
      have j1 := Int.emod_lt_of_pos x hn
      have hj : (x % (ns.length : Int)).toNat < ns.length := by omega
      have hat : atI (ns.map D.int) (x % (ns.length : Int)) = some (.int ns[(x % (ns.length : Int)).toNat]) := atIk (x % (ns.length : Int)).toNat (by omega) (by simp [hj])
      refine ⟨hn, ?_⟩
      simp only [wSs, wS, wT, wE, wEs, wO, wC, wI, wG, wGs, startD, List.map_cons, List.map_nil, List.length_cons, List.length_nil, List.replicate, List.cons_append, List.nil_append, List.append_nil, List.set_cons_zero, List.set_cons_succ, List.getElem?_cons_zero, List.getElem?_cons_succ, itT, wipeD, opAddI, opSubI, opMulI, opDivI, opModI, opPowI, opAddT, cmEq, cmNe, cmLt, cmLe, cmGt, cmGe, cmIn, eqI, eqS, inS2, truB, ixT0, ixT1, ixT2, ixT3, ixT4, ixT6, slcT, lenT, absI, intI, tupleT, listT, listRl, decide_true, decide_false, if_true, if_false, Bool.false_eq_true, reduceIte, decide_eq_true_eq, Bool.not_true, Bool.not_false, line, mI_int, mI_bool, mI_str, mI_tuple, mI_list, mB_int, mB_bool, mB_str, mB_tuple, mB_list, mS_int, mS_bool, mS_str, mS_tuple, mS_list, mT_int, mT_bool, mT_str, mT_tuple, mT_list, mN_int, mN_bool, mN_str, mN_tuple, mN_list, anyT, anyF, Nat.zero_add, Nat.reduceAdd, Nat.reduceLeDiff, true_and, ixU hap hp hat, ixU0, ixU1, ixU2, ixU3, setU1, setU2]
      exact rest _ (by split <;> omega)
    · rw [if_neg hn]
      exact rest 0 (by omega)
theorem start_ok {ns : List Int} (hk : 0 < k) (hQ : ∀ a pp S', S a = none → S.le S' → Stt S' a pp 0 → Q (.ref a) S') : Γ k "_law_start" [.rl (ns.map .int)] S Q X := by
  cases k with
  | zero => omega
  | succ k =>
  refine gam (np := 1) (nn := 1) (b := b__law_start) rfl rfl ?_
  simp only [b__law_start, wSs, wS, wT, wE, wEs, wO, wC, wI, wG, wGs, startD, List.map_cons, List.map_nil, List.length_cons, List.length_nil, List.replicate, List.cons_append, List.nil_append, List.append_nil, List.set_cons_zero, List.set_cons_succ, List.getElem?_cons_zero, List.getElem?_cons_succ, itT, wipeD, opAddI, opSubI, opMulI, opDivI, opModI, opPowI, opAddT, cmEq, cmNe, cmLt, cmLe, cmGt, cmGe, cmIn, eqI, eqS, inS2, truB, ixT0, ixT1, ixT2, ixT3, ixT4, ixT6, slcT, lenT, absI, intI, tupleT, listT, listRl, decide_true, decide_false, if_true, if_false, Bool.false_eq_true, reduceIte, decide_eq_true_eq, Bool.not_true, Bool.not_false, line, mI_int, mI_bool, mI_str, mI_tuple, mI_list, mB_int, mB_bool, mB_str, mB_tuple, mB_list, mS_int, mS_bool, mS_str, mS_tuple, mS_list, mT_int, mT_bool, mT_str, mT_tuple, mT_list, mN_int, mN_bool, mN_str, mN_tuple, mN_list, anyT, anyF, Nat.zero_add, Nat.reduceAdd, Nat.reduceLeDiff, true_and]
  intro p hp q hq
  have hpq : p ≠ q := Sto.ne_of Sto.upd_same hq
  refine ⟨_, Sto.le_refl, hQ q p _ ?_ (Sto.le_new' (Sto.le_new hp) hq) ⟨ns, 0, 0, 0, [], Sto.upd_same, by rw [Sto.upd_ne hpq, Sto.upd_same], by omega, by omega, by omega, by omega, Ne.symm hpq⟩⟩
  rw [Sto.upd_ne (Ne.symm hpq)] at hq
  exact hq
theorem Stt.ne {a q : Addr} {z : Nat} (st : Stt S a pp z) (h : S q = none) : q ≠ a := by
  obtain ⟨ns, x, y, w, ext, ha, _⟩ := st
  exact (Sto.ne_of ha h).symm
theorem Stt.new {a q : Addr} {z : Nat} {c : Cell} (st : Stt S a pp z) (h : S q = none) : Stt (S.upd q c) a pp z := by
  obtain ⟨ns, x, y, w, ext, ha, hp, r⟩ := st
  exact ⟨ns, x, y, w, ext, by rw [Sto.upd_ne (Sto.ne_of ha h)]; exact ha, by rw [Sto.upd_ne (Sto.ne_of hp h)]; exact hp, r⟩
theorem Stt.more {a : Addr} {z z' : Nat} (st : Stt S a pp z) (h : z ≤ z') : Stt S a pp z' := by
  obtain ⟨ns, x, y, w, ext, ha, hp, h1, h2, h3, h4, h5⟩ := st
  exact ⟨ns, x, y, w, ext, ha, hp, h1, h2, h3, by omega, h5⟩
theorem off_of_new {a q : Addr} {S S' : Sto} {c : Cell} (h : S q = none) (o : (S.upd q c).off a S') : S.off a S' := (Sto.off.refl.new h).trans o
theorem gcd_whl {T : En → Sto → (Bool → Sto → Prop) → Prop} {B : De → En → Sto → Prop} {N : De} (hT : ∀ (a b : Nat) x P, (P (decide ((b : Int) ≠ 0)) S) → T [some (.int a), some (.int b), x] S P)
    (hB : ∀ (a b : Nat) x N', 0 < b → N'.nx [some (.int b), some (.int ((a % b : Nat) : Int)), some (.int ((a % b : Nat) : Int))] S → B N' [some (.int a), some (.int b), x] S) :
    ∀ (n a b : Nat) (x : Option D), b < n → (∀ x', N.nx [some (.int ((Nat.gcd a b : Nat) : Int)), some (.int 0), x'] S) → whlL T B n N [some (.int a), some (.int b), x] S := by
  intro n
  induction n with
  | zero => intro a b x h _; omega
  | succ n ih =>
    intro a b x h hN
    refine hT a b x _ ?_
    by_cases hb : b = 0
    · subst hb
      have e : decide (((0 : Nat) : Int) ≠ 0) = false := by decide
      rw [e]
      have := hN x
      rw [Nat.gcd_zero_right] at this
      exact this
    · have e : decide ((b : Int) ≠ 0) = true := by simp; omega
      rw [e]
      refine hB a b x _ (by omega) ?_
      have hm : a % b < b := Nat.mod_lt _ (by omega)
      refine ih b (a % b) _ (by omega) ?_
      have e2 : Nat.gcd b (a % b) = Nat.gcd a b := by rw [Nat.gcd_comm b, ← Nat.gcd_rec, Nat.gcd_comm]
      rw [e2]
      exact hN
theorem gcd_ok {a b : Nat} (hk : 0 < k) (hQ : Q (.int ((Nat.gcd a b : Nat) : Int)) S) : Γ k "_law_gcd" [.int a, .int b] S Q X := by
  cases k with
  | zero => omega
  | succ k =>
  refine gam (np := 2) (nn := 3) (b := b__law_gcd) rfl rfl ?_
  simp only [b__law_gcd, wSs, wS, wT, wE, wEs, wO, wC, wI, wG, wGs, startD, List.map_cons, List.map_nil, List.length_cons, List.length_nil, List.replicate, List.cons_append, List.nil_append, List.append_nil, List.set_cons_zero, List.set_cons_succ, List.getElem?_cons_zero, List.getElem?_cons_succ, itT, wipeD]
  refine ⟨b + 1, gcd_whl (S := S) ?_ ?_ (b + 1) a b none (by omega) fun x' => ⟨S, Sto.le_refl, hQ⟩⟩
  · intro a b x P hP
    simp only [e__law_gcd_2, wSs, wS, wT, wE, wEs, wO, wC, wI, wG, wGs, startD, List.map_cons, List.map_nil, List.length_cons, List.length_nil, List.replicate, List.cons_append, List.nil_append, List.append_nil, List.set_cons_zero, List.set_cons_succ, List.getElem?_cons_zero, List.getElem?_cons_succ, itT, wipeD, opAddI, opSubI, opMulI, opDivI, opModI, opPowI, opAddT, cmEq, cmNe, cmLt, cmLe, cmGt, cmGe, cmIn, eqI, eqS, inS2, truB, ixT0, ixT1, ixT2, ixT3, ixT4, ixT6, slcT, lenT, absI, intI, tupleT, listT, listRl, decide_true, decide_false, if_true, if_false, Bool.false_eq_true, reduceIte, decide_eq_true_eq, Bool.not_true, Bool.not_false, line, mI_int, mI_bool, mI_str, mI_tuple, mI_list, mB_int, mB_bool, mB_str, mB_tuple, mB_list, mS_int, mS_bool, mS_str, mS_tuple, mS_list, mT_int, mT_bool, mT_str, mT_tuple, mT_list, mN_int, mN_bool, mN_str, mN_tuple, mN_list, anyT, anyF, Nat.zero_add, Nat.reduceAdd, Nat.reduceLeDiff, true_and]
    simpa using hP
  · intro a b x N' hb hN
    simp only [s__law_gcd_1, wSs, wS, wT, wE, wEs, wO, wC, wI, wG, wGs, startD, List.map_cons, List.map_nil, List.length_cons, List.length_nil, List.replicate, List.cons_append, List.nil_append, List.append_nil, List.set_cons_zero, List.set_cons_succ, List.getElem?_cons_zero, List.getElem?_cons_succ, itT, wipeD, opAddI, opSubI, opMulI, opDivI, opModI, opPowI, opAddT, cmEq, cmNe, cmLt, cmLe, cmGt, cmGe, cmIn, eqI, eqS, inS2, truB, ixT0, ixT1, ixT2, ixT3, ixT4, ixT6, slcT, lenT, absI, intI, tupleT, listT, listRl, decide_true, decide_false, if_true, if_false, Bool.false_eq_true, reduceIte, decide_eq_true_eq, Bool.not_true, Bool.not_false, line, mI_int, mI_bool, mI_str, mI_tuple, mI_list, mB_int, mB_bool, mB_str, mB_tuple, mB_list, mS_int, mS_bool, mS_str, mS_tuple, mS_list, mT_int, mT_bool, mT_str, mT_tuple, mT_list, mN_int, mN_bool, mN_str, mN_tuple, mN_list, anyT, anyF, Nat.zero_add, Nat.reduceAdd, Nat.reduceLeDiff, true_and]
    refine ⟨by omega, ?_⟩
    simpa using hN
theorem is_int_ok {i : Int} (hk : 0 < k) (hQ : Q (.bl true) S) : Γ k "_law_is_int" [.int i] S Q X := by
  cases k with
  | zero => omega
  | succ k =>
  refine gam (np := 1) (nn := 1) (b := b__law_is_int) rfl rfl ?_
  simp only [b__law_is_int, wSs, wS, wT, wE, wEs, wO, wC, wI, wG, wGs, startD, List.map_cons, List.map_nil, List.length_cons, List.length_nil, List.replicate, List.cons_append, List.nil_append, List.append_nil, List.set_cons_zero, List.set_cons_succ, List.getElem?_cons_zero, List.getElem?_cons_succ, itT, wipeD, opAddI, opSubI, opMulI, opDivI, opModI, opPowI, opAddT, cmEq, cmNe, cmLt, cmLe, cmGt, cmGe, cmIn, eqI, eqS, inS2, truB, ixT0, ixT1, ixT2, ixT3, ixT4, ixT6, slcT, lenT, absI, intI, tupleT, listT, listRl, decide_true, decide_false, if_true, if_false, Bool.false_eq_true, reduceIte, decide_eq_true_eq, Bool.not_true, Bool.not_false, line, mI_int, mI_bool, mI_str, mI_tuple, mI_list, mB_int, mB_bool, mB_str, mB_tuple, mB_list, mS_int, mS_bool, mS_str, mS_tuple, mS_list, mT_int, mT_bool, mT_str, mT_tuple, mT_list, mN_int, mN_bool, mN_str, mN_tuple, mN_list, anyT, anyF, Nat.zero_add, Nat.reduceAdd, Nat.reduceLeDiff, true_and]
  exact ⟨S, Sto.le_refl, hQ⟩
theorem same_ok : ∀ (n k : Nat) (y : D) (S : Sto) (Q : KD) (X : KX), n + 2 < k → ok n y = true → Q (.bl true) S → Γ k "_law_same" [y, y] S Q X := by
  intro n
  induction n with
  | zero =>
    intro k y S Q X hk hy hQ
    cases k with
    | zero => omega
    | succ k =>
    refine gam (np := 2) (nn := 3) (b := b__law_same) rfl rfl ?_
    cases y with
    | int i =>
      simp only [b__law_same, wSs, wS, wT, wE, wEs, wO, wC, wI, wG, wGs, startD, List.map_cons, List.map_nil, List.length_cons, List.length_nil, List.replicate, List.cons_append, List.nil_append, List.append_nil, List.set_cons_zero, List.set_cons_succ, List.getElem?_cons_zero, List.getElem?_cons_succ, itT, wipeD, opAddI, opSubI, opMulI, opDivI, opModI, opPowI, opAddT, cmEq, cmNe, cmLt, cmLe, cmGt, cmGe, cmIn, eqI, eqS, inS2, truB, ixT0, ixT1, ixT2, ixT3, ixT4, ixT6, slcT, lenT, absI, intI, tupleT, listT, listRl, decide_true, decide_false, if_true, if_false, Bool.false_eq_true, reduceIte, decide_eq_true_eq, Bool.not_true, Bool.not_false, line, mI_int, mI_bool, mI_str, mI_tuple, mI_list, mB_int, mB_bool, mB_str, mB_tuple, mB_list, mS_int, mS_bool, mS_str, mS_tuple, mS_list, mT_int, mT_bool, mT_str, mT_tuple, mT_list, mN_int, mN_bool, mN_str, mN_tuple, mN_list, anyT, anyF, Nat.zero_add, Nat.reduceAdd, Nat.reduceLeDiff, true_and]
      refine is_int_ok (by omega) ?_
      simp only [wSs, wS, wT, wE, wEs, wO, wC, wI, wG, wGs, startD, List.map_cons, List.map_nil, List.length_cons, List.length_nil, List.replicate, List.cons_append, List.nil_append, List.append_nil, List.set_cons_zero, List.set_cons_succ, List.getElem?_cons_zero, List.getElem?_cons_succ, itT, wipeD, opAddI, opSubI, opMulI, opDivI, opModI, opPowI, opAddT, cmEq, cmNe, cmLt, cmLe, cmGt, cmGe, cmIn, eqI, eqS, inS2, truB, ixT0, ixT1, ixT2, ixT3, ixT4, ixT6, slcT, lenT, absI, intI, tupleT, listT, listRl, decide_true, decide_false, if_true, if_false, Bool.false_eq_true, reduceIte, decide_eq_true_eq, Bool.not_true, Bool.not_false, line, mI_int, mI_bool, mI_str, mI_tuple, mI_list, mB_int, mB_bool, mB_str, mB_tuple, mB_list, mS_int, mS_bool, mS_str, mS_tuple, mS_list, mT_int, mT_bool, mT_str, mT_tuple, mT_list, mN_int, mN_bool, mN_str, mN_tuple, mN_list, anyT, anyF, Nat.zero_add, Nat.reduceAdd, Nat.reduceLeDiff, true_and]
      exact ⟨S, Sto.le_refl, hQ⟩
    | str z =>
      simp only [b__law_same, wSs, wS, wT, wE, wEs, wO, wC, wI, wG, wGs, startD, List.map_cons, List.map_nil, List.length_cons, List.length_nil, List.replicate, List.cons_append, List.nil_append, List.append_nil, List.set_cons_zero, List.set_cons_succ, List.getElem?_cons_zero, List.getElem?_cons_succ, itT, wipeD, opAddI, opSubI, opMulI, opDivI, opModI, opPowI, opAddT, cmEq, cmNe, cmLt, cmLe, cmGt, cmGe, cmIn, eqI, eqS, inS2, truB, ixT0, ixT1, ixT2, ixT3, ixT4, ixT6, slcT, lenT, absI, intI, tupleT, listT, listRl, decide_true, decide_false, if_true, if_false, Bool.false_eq_true, reduceIte, decide_eq_true_eq, Bool.not_true, Bool.not_false, line, mI_int, mI_bool, mI_str, mI_tuple, mI_list, mB_int, mB_bool, mB_str, mB_tuple, mB_list, mS_int, mS_bool, mS_str, mS_tuple, mS_list, mT_int, mT_bool, mT_str, mT_tuple, mT_list, mN_int, mN_bool, mN_str, mN_tuple, mN_list, anyT, anyF, Nat.zero_add, Nat.reduceAdd, Nat.reduceLeDiff, true_and]
      exact ⟨S, Sto.le_refl, hQ⟩
    | _ => cases hy
  | succ n ih =>
    intro k y S Q X hk hy hQ
    cases k with
    | zero => omega
    | succ k =>
    cases y with
    | int i => exact ih (k + 1) _ S Q X (by omega) ok_int hQ
    | str i => exact ih (k + 1) _ S Q X (by omega) ok_str hQ
    | tup l =>
      obtain ⟨h1, h2⟩ := ok_tup.mp hy
      refine gam (np := 2) (nn := 3) (b := b__law_same) rfl rfl ?_
      simp only [b__law_same, wSs, wS, wT, wE, wEs, wO, wC, wI, wG, wGs, startD, List.map_cons, List.map_nil, List.length_cons, List.length_nil, List.replicate, List.cons_append, List.nil_append, List.append_nil, List.set_cons_zero, List.set_cons_succ, List.getElem?_cons_zero, List.getElem?_cons_succ, itT, wipeD, opAddI, opSubI, opMulI, opDivI, opModI, opPowI, opAddT, cmEq, cmNe, cmLt, cmLe, cmGt, cmGe, cmIn, eqI, eqS, inS2, truB, ixT0, ixT1, ixT2, ixT3, ixT4, ixT6, slcT, lenT, absI, intI, tupleT, listT, listRl, decide_true, decide_false, if_true, if_false, Bool.false_eq_true, reduceIte, decide_eq_true_eq, Bool.not_true, Bool.not_false, line, mI_int, mI_bool, mI_str, mI_tuple, mI_list, mB_int, mB_bool, mB_str, mB_tuple, mB_list, mS_int, mS_bool, mS_str, mS_tuple, mS_list, mT_int, mT_bool, mT_str, mT_tuple, mT_list, mN_int, mN_bool, mN_str, mN_tuple, mN_list, anyT, anyF, Nat.zero_add, Nat.reduceAdd, Nat.reduceLeDiff, true_and]
      refine ⟨⟨by omega, by omega⟩, by unfold rngD; simp; omega, ?_⟩
      refine cmpL_pure (fun _ => some (.bl true)) trivial ?_ ?_
      · intro d hd P hP
        unfold rngD at hd
        obtain ⟨i, hi, rfl⟩ := List.mem_map.mp hd
        have hi : i < l.length := by simpa using hi
        have hg : l[i]? = some l[i] := by simp [hi]
        simp only [e__law_same_1, wSs, wS, wT, wE, wEs, wO, wC, wI, wG, wGs, startD, List.map_cons, List.map_nil, List.length_cons, List.length_nil, List.replicate, List.cons_append, List.nil_append, List.append_nil, List.set_cons_zero, List.set_cons_succ, List.getElem?_cons_zero, List.getElem?_cons_succ, itT, wipeD, opAddI, opSubI, opMulI, opDivI, opModI, opPowI, opAddT, cmEq, cmNe, cmLt, cmLe, cmGt, cmGe, cmIn, eqI, eqS, inS2, truB, ixT0, ixT1, ixT2, ixT3, ixT4, ixT6, slcT, lenT, absI, intI, tupleT, listT, listRl, decide_true, decide_false, if_true, if_false, Bool.false_eq_true, reduceIte, decide_eq_true_eq, Bool.not_true, Bool.not_false, line, mI_int, mI_bool, mI_str, mI_tuple, mI_list, mB_int, mB_bool, mB_str, mB_tuple, mB_list, mS_int, mS_bool, mS_str, mS_tuple, mS_list, mT_int, mT_bool, mT_str, mT_tuple, mT_list, mN_int, mN_bool, mN_str, mN_tuple, mN_list, anyT, anyF, Nat.zero_add, Nat.reduceAdd, Nat.reduceLeDiff, true_and, Int.zero_add]
        rw [ixT (atIk i rfl hg), ixT (atIk i rfl hg)]
        refine ih k _ _ _ _ (by omega) (h2 _ (List.getElem_mem hi)) ?_
        exact hP
      · have e : asBls ((rngD 0 l.length).filterMap fun _ => some (D.bl true)) = some (List.replicate l.length true) := by
          unfold rngD
          simp only [List.filterMap_map]
          generalize hL : (List.range l.length) = L
          have hn : L.length = l.length := by rw [← hL]; simp
          rw [← hn]
          clear hL hn
          induction L with
          | nil => rfl
          | cons x L ihL => simp only [List.filterMap_cons, asBls, List.length_cons, List.replicate_succ, Function.comp_apply]; rw [show (List.filterMap ((fun x => some (D.bl true)) ∘ fun (i : Nat) => D.int (0 + (i : Int))) L) = List.filterMap ((fun x => some (D.bl true)) ∘ fun (i : Nat) => D.int (0 + (i : Int))) L from rfl, ihL]; rfl
        simp only [bllR, Int.toNat_natCast, e]
        refine ⟨S, Sto.le_refl, ?_⟩
        have e2 : (List.replicate l.length true).all id = true := by simp
        rw [e2]
        exact hQ
    | _ => cases hy
theorem ok2 {n : Nat} {a b : D} (h1 : Mi.ok n a = true) (h2 : Mi.ok n b = true) : Mi.ok (n + 1) (.tup [a, b]) = true := ok_mk (by simp) fun x hx => by
  simp only [List.mem_cons, List.not_mem_nil, or_false] at hx
  rcases hx with rfl | rfl <;> assumption
theorem ok1 {n : Nat} {a : D} (h1 : Mi.ok n a = true) : Mi.ok (n + 1) (.tup [a]) = true := ok_mk (by simp) fun x hx => by
  simp only [List.mem_cons, List.not_mem_nil, or_false] at hx
  rcases hx with rfl; assumption
theorem ok3 {n : Nat} {a b c : D} (h1 : Mi.ok n a = true) (h2 : Mi.ok n b = true) (h3 : Mi.ok n c = true) : Mi.ok (n + 1) (.tup [a, b, c]) = true := ok_mk (by simp) fun x hx => by
  simp only [List.mem_cons, List.not_mem_nil, or_false] at hx
  rcases hx with rfl | rfl | rfl <;> assumption
end K32
namespace K32
open PySem PySem.Spec PyProof.Rows L2 Mi
variable {k : Nat} {S : Sto} {Q : KD} {X : KX} {pp : Addr} {m n : Nat} {i j : Int}
def Sz (n : Nat) (i : Int) : Prop := i.natAbs < 2 ^ n
theorem Sz.mul (h : Sz m i) (g : Sz n j) : Sz (m + n) (i * j) := by
  unfold Sz at *
  rw [Int.natAbs_mul, Nat.pow_add]
  exact Nat.mul_lt_mul'' h g
theorem Sz.add (h : Sz n i) (g : Sz n j) : Sz (n + 1) (i + j) := by
  unfold Sz at *
  rw [Nat.pow_succ]
  have := Int.natAbs_add_le i j
  omega
theorem Sz.sub (h : Sz n i) (g : Sz n j) : Sz (n + 1) (i - j) := by
  unfold Sz at *
  rw [Nat.pow_succ]
  have := Int.natAbs_sub_le i j
  omega
theorem Sz.neg (h : Sz n i) : Sz n (-i) := by
  unfold Sz at *
  rw [Int.natAbs_neg]
  exact h
theorem Sz.mono (h : Sz m i) (hn : m ≤ n) : Sz n i := Nat.lt_of_lt_of_le h (Nat.pow_le_pow_right (by decide) hn)
theorem Sz.log (h : Sz n i) : i.natAbs.log2 ≤ n := by
  by_cases h0 : i.natAbs = 0
  · rw [h0]; exact Nat.zero_le _
  · have := (Nat.log2_lt h0).mpr h
    omega
theorem Sz.cm (h : Sz m i) (g : Sz n j) (hm : m ≤ 4000 := by decide) (hn : n ≤ 4000 := by decide) : CMulW i j := by
  have := h.log
  have := g.log
  unfold CMulW
  omega
theorem Sz.cd (h : Sz n j) (hj : 0 < j) (hn : n ≤ 4000 := by decide) : CDivW i j := ⟨hj, by have := h.log; omega⟩
def nrm (n d : Int) : D := .tup [.int (n / (Int.gcd n d : Int)), .int (d / (Int.gcd n d : Int))]
theorem gcd_lt {n d : Int} (hd : 0 < d) : 0 < (Int.gcd n d : Int) ∧ (Int.gcd n d : Int) ≤ d := by
  obtain ⟨m, rfl⟩ : ∃ m : Nat, d = (m : Int) := ⟨d.toNat, by omega⟩
  have hm : 0 < m := by omega
  have g0 : 0 < Nat.gcd n.natAbs m := Nat.gcd_pos_of_pos_right _ hm
  have g1 : Nat.gcd n.natAbs m ≤ m := Nat.gcd_le_right _ hm
  have e : Int.gcd n (m : Int) = Nat.gcd n.natAbs m := rfl
  rw [e]
  omega
theorem gcd_sz {n d : Int} (hd : 0 < d) (s : Sz m d) : Sz m (Int.gcd n d : Int) := by
  have := gcd_lt (n := n) hd
  unfold Sz at *
  omega
theorem lfrac {n d : Int} (hk : 1 < k) (hd : 0 < d) (sd : Sz m d) (hm : m ≤ 4000) (hQ : Q (nrm n d) S) : Γ k "_law_fraction" [.int n, .int d] S Q X := by
  cases k with
  | zero => omega
  | succ k =>
  refine gam (np := 2) (nn := 3) (b := b__law_fraction) rfl rfl ?_
  simp only [b__law_fraction, wSs, wS, wT, wE, wEs, wO, wC, wI, wG, wGs, startD, List.map_cons, List.map_nil, List.length_cons, List.length_nil, List.replicate, List.cons_append, List.nil_append, List.append_nil, List.set_cons_zero, List.set_cons_succ, List.getElem?_cons_zero, List.getElem?_cons_succ, itT, wipeD, opAddI, opSubI, opMulI, opDivI, opModI, opPowI, opAddT, cmEq, cmNe, cmLt, cmLe, cmGt, cmGe, cmIn, eqI, eqS, inS2, truB, ixT0, ixT1, ixT2, ixT3, ixT4, ixT6, slcT, lenT, absI, intI, tupleT, listT, listRl, decide_true, decide_false, if_true, if_false, Bool.false_eq_true, reduceIte, decide_eq_true_eq, Bool.not_true, Bool.not_false, line, mI_int, mI_bool, mI_str, mI_tuple, mI_list, mB_int, mB_bool, mB_str, mB_tuple, mB_list, mS_int, mS_bool, mS_str, mS_tuple, mS_list, mT_int, mT_bool, mT_str, mT_tuple, mT_list, mN_int, mN_bool, mN_str, mN_tuple, mN_list, anyT, anyF, Nat.zero_add, Nat.reduceAdd, Nat.reduceLeDiff, true_and]
  have e1 : (if n < 0 then -n else n) = ((n.natAbs : Nat) : Int) := by split <;> omega
  have h := gcd_lt (n := n) hd
  have hs := gcd_sz (n := n) hd sd
  obtain ⟨q, rfl⟩ : ∃ q : Nat, d = (q : Int) := ⟨d.toNat, by omega⟩
  rw [e1]
  refine gcd_ok (by omega) ?_
  exact ⟨hs.cd h.1 hm, hs.cd h.1 hm, S, Sto.le_refl, hQ⟩
theorem frac {n d : Int} (hk : 0 < k) (hd : d ≠ 0) (sd : Sz m d) (hm : m ≤ 4000) (hQ : Q (if d < 0 then nrm (-n) (-d) else nrm n d) S) : Γ k "fraction" [.int n, .int d] S Q X := by
  cases k with
  | zero => omega
  | succ k =>
  refine gam (np := 2) (nn := 3) (b := b_fraction) rfl rfl ?_
  simp only [b_fraction, wSs, wS, wT, wE, wEs, wO, wC, wI, wG, wGs, startD, List.map_cons, List.map_nil, List.length_cons, List.length_nil, List.replicate, List.cons_append, List.nil_append, List.append_nil, List.set_cons_zero, List.set_cons_succ, List.getElem?_cons_zero, List.getElem?_cons_succ, itT, wipeD, opAddI, opSubI, opMulI, opDivI, opModI, opPowI, opAddT, cmEq, cmNe, cmLt, cmLe, cmGt, cmGe, cmIn, eqI, eqS, inS2, truB, ixT0, ixT1, ixT2, ixT3, ixT4, ixT6, slcT, lenT, absI, intI, tupleT, listT, listRl, decide_true, decide_false, if_true, if_false, Bool.false_eq_true, reduceIte, decide_eq_true_eq, Bool.not_true, Bool.not_false, line, mI_int, mI_bool, mI_str, mI_tuple, mI_list, mB_int, mB_bool, mB_str, mB_tuple, mB_list, mS_int, mS_bool, mS_str, mS_tuple, mS_list, mT_int, mT_bool, mT_str, mT_tuple, mT_list, mN_int, mN_bool, mN_str, mN_tuple, mN_list, anyT, anyF, Nat.zero_add, Nat.reduceAdd, Nat.reduceLeDiff, true_and, bltR]
  by_cases h0 : d < 0
  · rw [if_pos h0] at hQ ⊢
    have h := gcd_lt (n := -n) (d := -d) (by omega)
    have hs := gcd_sz (n := -n) (d := -d) (by omega) sd.neg
    exact ⟨hs.cd h.1 hm, hs.cd h.1 hm, S, Sto.le_refl, hQ⟩
  · rw [if_neg h0] at hQ ⊢
    have h := gcd_lt (n := n) (d := d) (by omega)
    have hs := gcd_sz (n := n) (d := d) (by omega) sd
    exact ⟨hs.cd h.1 hm, hs.cd h.1 hm, S, Sto.le_refl, hQ⟩
end K32
namespace K32
open PySem PySem.Spec PyProof.Rows L2 Mi
variable {k : Nat} {S : Sto} {Q : KD} {X : KX} {pp : Addr} {m n : Nat} {i j : Int}
def fr (n d : Int) : D := .tup [.int n, .int d]
structure Fr (n d : Int) : Prop where
  pos : 0 < d
  low : Int.gcd n d = 1
  sn : Sz 1500 n
  sd : Sz 1500 d
theorem nrm1 {x : Int} : nrm x 1 = fr x 1 := by unfold nrm fr; rw [Int.gcd_one_right]; simp
variable {a b c d : Int}
theorem plus_ok (hk : 1 < k) (f : Fr a b) (g : Fr c d) (hQ : Q (nrm (a * d + c * b) (b * d)) S) : Γ k "plus" [fr a b, fr c d] S Q X := by
  cases k with
  | zero => omega
  | succ k =>
  refine gam (np := 2) (nn := 2) (b := b_plus) rfl rfl ?_
  simp only [b_plus, fr, wSs, wS, wT, wE, wEs, wO, wC, wI, wG, wGs, startD, List.map_cons, List.map_nil, List.length_cons, List.length_nil, List.replicate, List.cons_append, List.nil_append, List.append_nil, List.set_cons_zero, List.set_cons_succ, List.getElem?_cons_zero, List.getElem?_cons_succ, itT, wipeD, opAddI, opSubI, opMulI, opDivI, opModI, opPowI, opAddT, cmEq, cmNe, cmLt, cmLe, cmGt, cmGe, cmIn, eqI, eqS, inS2, truB, ixT0, ixT1, ixT2, ixT3, ixT4, ixT6, slcT, lenT, absI, intI, tupleT, listT, listRl, decide_true, decide_false, if_true, if_false, Bool.false_eq_true, reduceIte, decide_eq_true_eq, Bool.not_true, Bool.not_false, line, mI_int, mI_bool, mI_str, mI_tuple, mI_list, mB_int, mB_bool, mB_str, mB_tuple, mB_list, mS_int, mS_bool, mS_str, mS_tuple, mS_list, mT_int, mT_bool, mT_str, mT_tuple, mT_list, mN_int, mN_bool, mN_str, mN_tuple, mN_list, anyT, anyF, Nat.zero_add, Nat.reduceAdd, Nat.reduceLeDiff, true_and]
  have h1 : 0 < b * d := Int.mul_pos f.pos g.pos
  have fin : CMulW a d ∧ CMulW c b ∧ CMulW b d ∧ Γ k "fraction" [D.int (a * d + c * b), D.int (b * d)] S (fun d S' => ∃ S0, S0.le S' ∧ Q d S0) (fun x S' => ∃ S0, S0.le S' ∧ X x S0) :=
    ⟨f.sn.cm g.sd, g.sn.cm f.sd, f.sd.cm g.sd, frac (by omega) (by omega) (f.sd.mul g.sd) (by decide) (by rw [if_neg (by omega)]; exact ⟨S, Sto.le_refl, hQ⟩)⟩
  by_cases hb : b = 1
  · subst hb
    rw [if_pos rfl]
    by_cases hd : d = 1
    · subst hd
      rw [if_pos rfl]
      refine ⟨S, Sto.le_refl, ?_⟩
      simp only [Int.mul_one] at hQ
      rw [nrm1] at hQ
      exact hQ
    · rw [if_neg hd]
      exact fin
  · rw [if_neg hb]
    exact fin
theorem minus_ok (hk : 1 < k) (f : Fr a b) (g : Fr c d) (hQ : Q (nrm (a * d - c * b) (b * d)) S) : Γ k "minus" [fr a b, fr c d] S Q X := by
  cases k with
  | zero => omega
  | succ k =>
  refine gam (np := 2) (nn := 2) (b := b_minus) rfl rfl ?_
  simp only [b_minus, fr, wSs, wS, wT, wE, wEs, wO, wC, wI, wG, wGs, startD, List.map_cons, List.map_nil, List.length_cons, List.length_nil, List.replicate, List.cons_append, List.nil_append, List.append_nil, List.set_cons_zero, List.set_cons_succ, List.getElem?_cons_zero, List.getElem?_cons_succ, itT, wipeD, opAddI, opSubI, opMulI, opDivI, opModI, opPowI, opAddT, cmEq, cmNe, cmLt, cmLe, cmGt, cmGe, cmIn, eqI, eqS, inS2, truB, ixT0, ixT1, ixT2, ixT3, ixT4, ixT6, slcT, lenT, absI, intI, tupleT, listT, listRl, decide_true, decide_false, if_true, if_false, Bool.false_eq_true, reduceIte, decide_eq_true_eq, Bool.not_true, Bool.not_false, line, mI_int, mI_bool, mI_str, mI_tuple, mI_list, mB_int, mB_bool, mB_str, mB_tuple, mB_list, mS_int, mS_bool, mS_str, mS_tuple, mS_list, mT_int, mT_bool, mT_str, mT_tuple, mT_list, mN_int, mN_bool, mN_str, mN_tuple, mN_list, anyT, anyF, Nat.zero_add, Nat.reduceAdd, Nat.reduceLeDiff, true_and]
  have h1 : 0 < b * d := Int.mul_pos f.pos g.pos
  exact ⟨f.sn.cm g.sd, g.sn.cm f.sd, f.sd.cm g.sd, frac (by omega) (by omega) (f.sd.mul g.sd) (by decide) (by rw [if_neg (by omega)]; exact ⟨S, Sto.le_refl, hQ⟩)⟩
theorem times_ok (hk : 1 < k) (f : Fr a b) (g : Fr c d) (hQ : Q (nrm (a * c) (b * d)) S) : Γ k "times" [fr a b, fr c d] S Q X := by
  cases k with
  | zero => omega
  | succ k =>
  refine gam (np := 2) (nn := 2) (b := b_times) rfl rfl ?_
  simp only [b_times, fr, wSs, wS, wT, wE, wEs, wO, wC, wI, wG, wGs, startD, List.map_cons, List.map_nil, List.length_cons, List.length_nil, List.replicate, List.cons_append, List.nil_append, List.append_nil, List.set_cons_zero, List.set_cons_succ, List.getElem?_cons_zero, List.getElem?_cons_succ, itT, wipeD, opAddI, opSubI, opMulI, opDivI, opModI, opPowI, opAddT, cmEq, cmNe, cmLt, cmLe, cmGt, cmGe, cmIn, eqI, eqS, inS2, truB, ixT0, ixT1, ixT2, ixT3, ixT4, ixT6, slcT, lenT, absI, intI, tupleT, listT, listRl, decide_true, decide_false, if_true, if_false, Bool.false_eq_true, reduceIte, decide_eq_true_eq, Bool.not_true, Bool.not_false, line, mI_int, mI_bool, mI_str, mI_tuple, mI_list, mB_int, mB_bool, mB_str, mB_tuple, mB_list, mS_int, mS_bool, mS_str, mS_tuple, mS_list, mT_int, mT_bool, mT_str, mT_tuple, mT_list, mN_int, mN_bool, mN_str, mN_tuple, mN_list, anyT, anyF, Nat.zero_add, Nat.reduceAdd, Nat.reduceLeDiff, true_and]
  have h1 : 0 < b * d := Int.mul_pos f.pos g.pos
  exact ⟨f.sn.cm g.sn, f.sd.cm g.sd, frac (by omega) (by omega) (f.sd.mul g.sd) (by decide) (by rw [if_neg (by omega)]; exact ⟨S, Sto.le_refl, hQ⟩)⟩
theorem lplus_ok (hk : 2 < k) (hb : 0 < b) (hd : 0 < d) (sa : Sz 1500 a) (sb : Sz 1500 b) (sc : Sz 1500 c) (sd : Sz 1500 d) (hQ : Q (nrm (a * d + c * b) (b * d)) S) : Γ k "_law_plus" [fr a b, fr c d] S Q X := by
  cases k with
  | zero => omega
  | succ k =>
  refine gam (np := 2) (nn := 2) (b := b__law_plus) rfl rfl ?_
  simp only [b__law_plus, fr, wSs, wS, wT, wE, wEs, wO, wC, wI, wG, wGs, startD, List.map_cons, List.map_nil, List.length_cons, List.length_nil, List.replicate, List.cons_append, List.nil_append, List.append_nil, List.set_cons_zero, List.set_cons_succ, List.getElem?_cons_zero, List.getElem?_cons_succ, itT, wipeD, opAddI, opSubI, opMulI, opDivI, opModI, opPowI, opAddT, cmEq, cmNe, cmLt, cmLe, cmGt, cmGe, cmIn, eqI, eqS, inS2, truB, ixT0, ixT1, ixT2, ixT3, ixT4, ixT6, slcT, lenT, absI, intI, tupleT, listT, listRl, decide_true, decide_false, if_true, if_false, Bool.false_eq_true, reduceIte, decide_eq_true_eq, Bool.not_true, Bool.not_false, line, mI_int, mI_bool, mI_str, mI_tuple, mI_list, mB_int, mB_bool, mB_str, mB_tuple, mB_list, mS_int, mS_bool, mS_str, mS_tuple, mS_list, mT_int, mT_bool, mT_str, mT_tuple, mT_list, mN_int, mN_bool, mN_str, mN_tuple, mN_list, anyT, anyF, Nat.zero_add, Nat.reduceAdd, Nat.reduceLeDiff, true_and]
  exact ⟨sa.cm sd, sc.cm sb, sb.cm sd, lfrac (by omega) (Int.mul_pos hb hd) (sb.mul sd) (by decide) ⟨S, Sto.le_refl, hQ⟩⟩
theorem ltimes_ok (hk : 2 < k) (f : Fr a b) (g : Fr c d) (hQ : Q (nrm (a * c) (b * d)) S) : Γ k "_law_times" [fr a b, fr c d] S Q X := by
  cases k with
  | zero => omega
  | succ k =>
  refine gam (np := 2) (nn := 2) (b := b__law_times) rfl rfl ?_
  simp only [b__law_times, fr, wSs, wS, wT, wE, wEs, wO, wC, wI, wG, wGs, startD, List.map_cons, List.map_nil, List.length_cons, List.length_nil, List.replicate, List.cons_append, List.nil_append, List.append_nil, List.set_cons_zero, List.set_cons_succ, List.getElem?_cons_zero, List.getElem?_cons_succ, itT, wipeD, opAddI, opSubI, opMulI, opDivI, opModI, opPowI, opAddT, cmEq, cmNe, cmLt, cmLe, cmGt, cmGe, cmIn, eqI, eqS, inS2, truB, ixT0, ixT1, ixT2, ixT3, ixT4, ixT6, slcT, lenT, absI, intI, tupleT, listT, listRl, decide_true, decide_false, if_true, if_false, Bool.false_eq_true, reduceIte, decide_eq_true_eq, Bool.not_true, Bool.not_false, line, mI_int, mI_bool, mI_str, mI_tuple, mI_list, mB_int, mB_bool, mB_str, mB_tuple, mB_list, mS_int, mS_bool, mS_str, mS_tuple, mS_list, mT_int, mT_bool, mT_str, mT_tuple, mT_list, mN_int, mN_bool, mN_str, mN_tuple, mN_list, anyT, anyF, Nat.zero_add, Nat.reduceAdd, Nat.reduceLeDiff, true_and]
  exact ⟨f.sn.cm g.sn, f.sd.cm g.sd, lfrac (by omega) (Int.mul_pos f.pos g.pos) (f.sd.mul g.sd) (by decide) ⟨S, Sto.le_refl, hQ⟩⟩
end K32
namespace K32
open PySem PySem.Spec PyProof.Rows L2 Mi
variable {k : Nat} {S : Sto} {Q : KD} {X : KX} {pp : Addr} {m n : Nat} {i j : Int}
variable {a b c d : Int}
theorem isint_i {x : Int} (hk : 0 < k) (hQ : Q (.bl true) S) : Γ k "is_integer" [.int x] S Q X := by
  cases k with
  | zero => omega
  | succ k =>
  refine gam (np := 1) (nn := 1) (b := b_is_integer) rfl rfl ?_
  simp only [b_is_integer, wSs, wS, wT, wE, wEs, wO, wC, wI, wG, wGs, startD, List.map_cons, List.map_nil, List.length_cons, List.length_nil, List.replicate, List.cons_append, List.nil_append, List.append_nil, List.set_cons_zero, List.set_cons_succ, List.getElem?_cons_zero, List.getElem?_cons_succ, itT, wipeD, opAddI, opSubI, opMulI, opDivI, opModI, opPowI, opAddT, cmEq, cmNe, cmLt, cmLe, cmGt, cmGe, cmIn, eqI, eqS, inS2, truB, ixT0, ixT1, ixT2, ixT3, ixT4, ixT6, slcT, lenT, absI, intI, tupleT, listT, listRl, decide_true, decide_false, if_true, if_false, Bool.false_eq_true, reduceIte, decide_eq_true_eq, Bool.not_true, Bool.not_false, line, mI_int, mI_bool, mI_str, mI_tuple, mI_list, mB_int, mB_bool, mB_str, mB_tuple, mB_list, mS_int, mS_bool, mS_str, mS_tuple, mS_list, mT_int, mT_bool, mT_str, mT_tuple, mT_list, mN_int, mN_bool, mN_str, mN_tuple, mN_list, anyT, anyF, Nat.zero_add, Nat.reduceAdd, Nat.reduceLeDiff, true_and]
  exact ⟨S, Sto.le_refl, hQ⟩
theorem isint_s {x : Str} (hk : 0 < k) (hQ : Q (.bl false) S) : Γ k "is_integer" [.str x] S Q X := by
  cases k with
  | zero => omega
  | succ k =>
  refine gam (np := 1) (nn := 1) (b := b_is_integer) rfl rfl ?_
  simp only [b_is_integer, wSs, wS, wT, wE, wEs, wO, wC, wI, wG, wGs, startD, List.map_cons, List.map_nil, List.length_cons, List.length_nil, List.replicate, List.cons_append, List.nil_append, List.append_nil, List.set_cons_zero, List.set_cons_succ, List.getElem?_cons_zero, List.getElem?_cons_succ, itT, wipeD, opAddI, opSubI, opMulI, opDivI, opModI, opPowI, opAddT, cmEq, cmNe, cmLt, cmLe, cmGt, cmGe, cmIn, eqI, eqS, inS2, truB, ixT0, ixT1, ixT2, ixT3, ixT4, ixT6, slcT, lenT, absI, intI, tupleT, listT, listRl, decide_true, decide_false, if_true, if_false, Bool.false_eq_true, reduceIte, decide_eq_true_eq, Bool.not_true, Bool.not_false, line, mI_int, mI_bool, mI_str, mI_tuple, mI_list, mB_int, mB_bool, mB_str, mB_tuple, mB_list, mS_int, mS_bool, mS_str, mS_tuple, mS_list, mT_int, mT_bool, mT_str, mT_tuple, mT_list, mN_int, mN_bool, mN_str, mN_tuple, mN_list, anyT, anyF, Nat.zero_add, Nat.reduceAdd, Nat.reduceLeDiff, true_and]
  exact ⟨S, Sto.le_refl, hQ⟩
theorem isint_t {x : List D} (hk : 0 < k) (hQ : Q (.bl false) S) : Γ k "is_integer" [.tup x] S Q X := by
  cases k with
  | zero => omega
  | succ k =>
  refine gam (np := 1) (nn := 1) (b := b_is_integer) rfl rfl ?_
  simp only [b_is_integer, wSs, wS, wT, wE, wEs, wO, wC, wI, wG, wGs, startD, List.map_cons, List.map_nil, List.length_cons, List.length_nil, List.replicate, List.cons_append, List.nil_append, List.append_nil, List.set_cons_zero, List.set_cons_succ, List.getElem?_cons_zero, List.getElem?_cons_succ, itT, wipeD, opAddI, opSubI, opMulI, opDivI, opModI, opPowI, opAddT, cmEq, cmNe, cmLt, cmLe, cmGt, cmGe, cmIn, eqI, eqS, inS2, truB, ixT0, ixT1, ixT2, ixT3, ixT4, ixT6, slcT, lenT, absI, intI, tupleT, listT, listRl, decide_true, decide_false, if_true, if_false, Bool.false_eq_true, reduceIte, decide_eq_true_eq, Bool.not_true, Bool.not_false, line, mI_int, mI_bool, mI_str, mI_tuple, mI_list, mB_int, mB_bool, mB_str, mB_tuple, mB_list, mS_int, mS_bool, mS_str, mS_tuple, mS_list, mT_int, mT_bool, mT_str, mT_tuple, mT_list, mN_int, mN_bool, mN_str, mN_tuple, mN_list, anyT, anyF, Nat.zero_add, Nat.reduceAdd, Nat.reduceLeDiff, true_and]
  exact ⟨S, Sto.le_refl, hQ⟩
theorem isf_ii {x y : Int} (hk : 1 < k) (hQ : Q (.bl (decide (1 ≤ y) && decide (Int.gcd x y = 1))) S) : Γ k "is_fraction" [fr x y] S Q X := by
  cases k with
  | zero => omega
  | succ k =>
  refine gam (np := 1) (nn := 3) (b := b_is_fraction) rfl rfl ?_
  simp only [b_is_fraction, fr, wSs, wS, wT, wE, wEs, wO, wC, wI, wG, wGs, startD, List.map_cons, List.map_nil, List.length_cons, List.length_nil, List.replicate, List.cons_append, List.nil_append, List.append_nil, List.set_cons_zero, List.set_cons_succ, List.getElem?_cons_zero, List.getElem?_cons_succ, itT, wipeD, opAddI, opSubI, opMulI, opDivI, opModI, opPowI, opAddT, cmEq, cmNe, cmLt, cmLe, cmGt, cmGe, cmIn, eqI, eqS, inS2, truB, ixT0, ixT1, ixT2, ixT3, ixT4, ixT6, slcT, lenT, absI, intI, tupleT, listT, listRl, decide_true, decide_false, if_true, if_false, Bool.false_eq_true, reduceIte, decide_eq_true_eq, Bool.not_true, Bool.not_false, line, mI_int, mI_bool, mI_str, mI_tuple, mI_list, mB_int, mB_bool, mB_str, mB_tuple, mB_list, mS_int, mS_bool, mS_str, mS_tuple, mS_list, mT_int, mT_bool, mT_str, mT_tuple, mT_list, mN_int, mN_bool, mN_str, mN_tuple, mN_list, anyT, anyF, Nat.zero_add, Nat.reduceAdd, Nat.reduceLeDiff, true_and]
  refine isint_i (by omega) ?_
  simp only [wSs, wS, wT, wE, wEs, wO, wC, wI, wG, wGs, startD, List.map_cons, List.map_nil, List.length_cons, List.length_nil, List.replicate, List.cons_append, List.nil_append, List.append_nil, List.set_cons_zero, List.set_cons_succ, List.getElem?_cons_zero, List.getElem?_cons_succ, itT, wipeD, opAddI, opSubI, opMulI, opDivI, opModI, opPowI, opAddT, cmEq, cmNe, cmLt, cmLe, cmGt, cmGe, cmIn, eqI, eqS, inS2, truB, ixT0, ixT1, ixT2, ixT3, ixT4, ixT6, slcT, lenT, absI, intI, tupleT, listT, listRl, decide_true, decide_false, if_true, if_false, Bool.false_eq_true, reduceIte, decide_eq_true_eq, Bool.not_true, Bool.not_false, line, mI_int, mI_bool, mI_str, mI_tuple, mI_list, mB_int, mB_bool, mB_str, mB_tuple, mB_list, mS_int, mS_bool, mS_str, mS_tuple, mS_list, mT_int, mT_bool, mT_str, mT_tuple, mT_list, mN_int, mN_bool, mN_str, mN_tuple, mN_list, anyT, anyF, Nat.zero_add, Nat.reduceAdd, Nat.reduceLeDiff, true_and]
  refine isint_i (by omega) ?_
  simp only [wSs, wS, wT, wE, wEs, wO, wC, wI, wG, wGs, startD, List.map_cons, List.map_nil, List.length_cons, List.length_nil, List.replicate, List.cons_append, List.nil_append, List.append_nil, List.set_cons_zero, List.set_cons_succ, List.getElem?_cons_zero, List.getElem?_cons_succ, itT, wipeD, opAddI, opSubI, opMulI, opDivI, opModI, opPowI, opAddT, cmEq, cmNe, cmLt, cmLe, cmGt, cmGe, cmIn, eqI, eqS, inS2, truB, ixT0, ixT1, ixT2, ixT3, ixT4, ixT6, slcT, lenT, absI, intI, tupleT, listT, listRl, decide_true, decide_false, if_true, if_false, Bool.false_eq_true, reduceIte, decide_eq_true_eq, Bool.not_true, Bool.not_false, line, mI_int, mI_bool, mI_str, mI_tuple, mI_list, mB_int, mB_bool, mB_str, mB_tuple, mB_list, mS_int, mS_bool, mS_str, mS_tuple, mS_list, mT_int, mT_bool, mT_str, mT_tuple, mT_list, mN_int, mN_bool, mN_str, mN_tuple, mN_list, anyT, anyF, Nat.zero_add, Nat.reduceAdd, Nat.reduceLeDiff, true_and, bltR]
  by_cases h : 1 ≤ y
  · have e : ((Nat.gcd x.natAbs y.natAbs : Nat) : Int) = 1 ↔ Int.gcd x y = 1 := by
      have : Int.gcd x y = Nat.gcd x.natAbs y.natAbs := rfl
      omega
    simp only [h, decide_true, Bool.true_and, if_true, e] at hQ ⊢
    exact ⟨S, Sto.le_refl, hQ⟩
  · simp only [h, decide_false, Bool.false_and, if_false, Bool.false_eq_true] at hQ ⊢
    exact ⟨S, Sto.le_refl, hQ⟩
def Bad (d : D) : Prop := ∀ (k : Nat) (S : Sto) (Q : KD) (X : KX), 1 < k → Q (.bl false) S → Γ k "is_fraction" [d] S Q X
theorem bad_ii {x y : Int} (h : ¬(1 ≤ y ∧ Int.gcd x y = 1)) : Bad (fr x y) := fun k S Q X hk hQ => isf_ii hk (by
  have e : (decide (1 ≤ y) && decide (Int.gcd x y = 1)) = false := by
    rw [Bool.eq_false_iff]
    intro z
    rw [Bool.and_eq_true, decide_eq_true_eq, decide_eq_true_eq] at z
    exact h z
  rw [e]
  exact hQ)
theorem bad_int {x : Int} : Bad (.int x) := fun k S Q X hk hQ => by
  cases k with
  | zero => omega
  | succ k =>
  refine gam (np := 1) (nn := 3) (b := b_is_fraction) rfl rfl ?_
  simp only [b_is_fraction, wSs, wS, wT, wE, wEs, wO, wC, wI, wG, wGs, startD, List.map_cons, List.map_nil, List.length_cons, List.length_nil, List.replicate, List.cons_append, List.nil_append, List.append_nil, List.set_cons_zero, List.set_cons_succ, List.getElem?_cons_zero, List.getElem?_cons_succ, itT, wipeD, opAddI, opSubI, opMulI, opDivI, opModI, opPowI, opAddT, cmEq, cmNe, cmLt, cmLe, cmGt, cmGe, cmIn, eqI, eqS, inS2, truB, ixT0, ixT1, ixT2, ixT3, ixT4, ixT6, slcT, lenT, absI, intI, tupleT, listT, listRl, decide_true, decide_false, if_true, if_false, Bool.false_eq_true, reduceIte, decide_eq_true_eq, Bool.not_true, Bool.not_false, line, mI_int, mI_bool, mI_str, mI_tuple, mI_list, mB_int, mB_bool, mB_str, mB_tuple, mB_list, mS_int, mS_bool, mS_str, mS_tuple, mS_list, mT_int, mT_bool, mT_str, mT_tuple, mT_list, mN_int, mN_bool, mN_str, mN_tuple, mN_list, anyT, anyF, Nat.zero_add, Nat.reduceAdd, Nat.reduceLeDiff, true_and]
  exact ⟨S, Sto.le_refl, hQ⟩
theorem bad_str {x : Str} : Bad (.str x) := fun k S Q X hk hQ => by
  cases k with
  | zero => omega
  | succ k =>
  refine gam (np := 1) (nn := 3) (b := b_is_fraction) rfl rfl ?_
  simp only [b_is_fraction, wSs, wS, wT, wE, wEs, wO, wC, wI, wG, wGs, startD, List.map_cons, List.map_nil, List.length_cons, List.length_nil, List.replicate, List.cons_append, List.nil_append, List.append_nil, List.set_cons_zero, List.set_cons_succ, List.getElem?_cons_zero, List.getElem?_cons_succ, itT, wipeD, opAddI, opSubI, opMulI, opDivI, opModI, opPowI, opAddT, cmEq, cmNe, cmLt, cmLe, cmGt, cmGe, cmIn, eqI, eqS, inS2, truB, ixT0, ixT1, ixT2, ixT3, ixT4, ixT6, slcT, lenT, absI, intI, tupleT, listT, listRl, decide_true, decide_false, if_true, if_false, Bool.false_eq_true, reduceIte, decide_eq_true_eq, Bool.not_true, Bool.not_false, line, mI_int, mI_bool, mI_str, mI_tuple, mI_list, mB_int, mB_bool, mB_str, mB_tuple, mB_list, mS_int, mS_bool, mS_str, mS_tuple, mS_list, mT_int, mT_bool, mT_str, mT_tuple, mT_list, mN_int, mN_bool, mN_str, mN_tuple, mN_list, anyT, anyF, Nat.zero_add, Nat.reduceAdd, Nat.reduceLeDiff, true_and]
  exact ⟨S, Sto.le_refl, hQ⟩
theorem bad_len {l : List D} (h : (l.length : Int) ≠ 2) : Bad (.tup l) := fun k S Q X hk hQ => by
  cases k with
  | zero => omega
  | succ k =>
  refine gam (np := 1) (nn := 3) (b := b_is_fraction) rfl rfl ?_
  simp only [b_is_fraction, wSs, wS, wT, wE, wEs, wO, wC, wI, wG, wGs, startD, List.map_cons, List.map_nil, List.length_cons, List.length_nil, List.replicate, List.cons_append, List.nil_append, List.append_nil, List.set_cons_zero, List.set_cons_succ, List.getElem?_cons_zero, List.getElem?_cons_succ, itT, wipeD, opAddI, opSubI, opMulI, opDivI, opModI, opPowI, opAddT, cmEq, cmNe, cmLt, cmLe, cmGt, cmGe, cmIn, eqI, eqS, inS2, truB, ixT0, ixT1, ixT2, ixT3, ixT4, ixT6, slcT, lenT, absI, intI, tupleT, listT, listRl, decide_true, decide_false, if_true, if_false, Bool.false_eq_true, reduceIte, decide_eq_true_eq, Bool.not_true, Bool.not_false, line, mI_int, mI_bool, mI_str, mI_tuple, mI_list, mB_int, mB_bool, mB_str, mB_tuple, mB_list, mS_int, mS_bool, mS_str, mS_tuple, mS_list, mT_int, mT_bool, mT_str, mT_tuple, mT_list, mN_int, mN_bool, mN_str, mN_tuple, mN_list, anyT, anyF, Nat.zero_add, Nat.reduceAdd, Nat.reduceLeDiff, true_and, h]
  exact ⟨S, Sto.le_refl, hQ⟩
theorem bad_s {x : Str} {y : D} : Bad (.tup [.str x, y]) := fun k S Q X hk hQ => by
  cases k with
  | zero => omega
  | succ k =>
  refine gam (np := 1) (nn := 3) (b := b_is_fraction) rfl rfl ?_
  simp only [b_is_fraction, wSs, wS, wT, wE, wEs, wO, wC, wI, wG, wGs, startD, List.map_cons, List.map_nil, List.length_cons, List.length_nil, List.replicate, List.cons_append, List.nil_append, List.append_nil, List.set_cons_zero, List.set_cons_succ, List.getElem?_cons_zero, List.getElem?_cons_succ, itT, wipeD, opAddI, opSubI, opMulI, opDivI, opModI, opPowI, opAddT, cmEq, cmNe, cmLt, cmLe, cmGt, cmGe, cmIn, eqI, eqS, inS2, truB, ixT0, ixT1, ixT2, ixT3, ixT4, ixT6, slcT, lenT, absI, intI, tupleT, listT, listRl, decide_true, decide_false, if_true, if_false, Bool.false_eq_true, reduceIte, decide_eq_true_eq, Bool.not_true, Bool.not_false, line, mI_int, mI_bool, mI_str, mI_tuple, mI_list, mB_int, mB_bool, mB_str, mB_tuple, mB_list, mS_int, mS_bool, mS_str, mS_tuple, mS_list, mT_int, mT_bool, mT_str, mT_tuple, mT_list, mN_int, mN_bool, mN_str, mN_tuple, mN_list, anyT, anyF, Nat.zero_add, Nat.reduceAdd, Nat.reduceLeDiff, true_and]
  refine isint_s (by omega) ?_
  exact ⟨S, Sto.le_refl, hQ⟩
theorem bad_t {x : List D} {y : D} : Bad (.tup [.tup x, y]) := fun k S Q X hk hQ => by
  cases k with
  | zero => omega
  | succ k =>
  refine gam (np := 1) (nn := 3) (b := b_is_fraction) rfl rfl ?_
  simp only [b_is_fraction, wSs, wS, wT, wE, wEs, wO, wC, wI, wG, wGs, startD, List.map_cons, List.map_nil, List.length_cons, List.length_nil, List.replicate, List.cons_append, List.nil_append, List.append_nil, List.set_cons_zero, List.set_cons_succ, List.getElem?_cons_zero, List.getElem?_cons_succ, itT, wipeD, opAddI, opSubI, opMulI, opDivI, opModI, opPowI, opAddT, cmEq, cmNe, cmLt, cmLe, cmGt, cmGe, cmIn, eqI, eqS, inS2, truB, ixT0, ixT1, ixT2, ixT3, ixT4, ixT6, slcT, lenT, absI, intI, tupleT, listT, listRl, decide_true, decide_false, if_true, if_false, Bool.false_eq_true, reduceIte, decide_eq_true_eq, Bool.not_true, Bool.not_false, line, mI_int, mI_bool, mI_str, mI_tuple, mI_list, mB_int, mB_bool, mB_str, mB_tuple, mB_list, mS_int, mS_bool, mS_str, mS_tuple, mS_list, mT_int, mT_bool, mT_str, mT_tuple, mT_list, mN_int, mN_bool, mN_str, mN_tuple, mN_list, anyT, anyF, Nat.zero_add, Nat.reduceAdd, Nat.reduceLeDiff, true_and]
  refine isint_t (by omega) ?_
  exact ⟨S, Sto.le_refl, hQ⟩
theorem bad_is {x : Int} {y : Str} : Bad (.tup [.int x, .str y]) := fun k S Q X hk hQ => by
  cases k with
  | zero => omega
  | succ k =>
  refine gam (np := 1) (nn := 3) (b := b_is_fraction) rfl rfl ?_
  simp only [b_is_fraction, wSs, wS, wT, wE, wEs, wO, wC, wI, wG, wGs, startD, List.map_cons, List.map_nil, List.length_cons, List.length_nil, List.replicate, List.cons_append, List.nil_append, List.append_nil, List.set_cons_zero, List.set_cons_succ, List.getElem?_cons_zero, List.getElem?_cons_succ, itT, wipeD, opAddI, opSubI, opMulI, opDivI, opModI, opPowI, opAddT, cmEq, cmNe, cmLt, cmLe, cmGt, cmGe, cmIn, eqI, eqS, inS2, truB, ixT0, ixT1, ixT2, ixT3, ixT4, ixT6, slcT, lenT, absI, intI, tupleT, listT, listRl, decide_true, decide_false, if_true, if_false, Bool.false_eq_true, reduceIte, decide_eq_true_eq, Bool.not_true, Bool.not_false, line, mI_int, mI_bool, mI_str, mI_tuple, mI_list, mB_int, mB_bool, mB_str, mB_tuple, mB_list, mS_int, mS_bool, mS_str, mS_tuple, mS_list, mT_int, mT_bool, mT_str, mT_tuple, mT_list, mN_int, mN_bool, mN_str, mN_tuple, mN_list, anyT, anyF, Nat.zero_add, Nat.reduceAdd, Nat.reduceLeDiff, true_and]
  refine isint_i (by omega) ?_
  simp only [wSs, wS, wT, wE, wEs, wO, wC, wI, wG, wGs, startD, List.map_cons, List.map_nil, List.length_cons, List.length_nil, List.replicate, List.cons_append, List.nil_append, List.append_nil, List.set_cons_zero, List.set_cons_succ, List.getElem?_cons_zero, List.getElem?_cons_succ, itT, wipeD, opAddI, opSubI, opMulI, opDivI, opModI, opPowI, opAddT, cmEq, cmNe, cmLt, cmLe, cmGt, cmGe, cmIn, eqI, eqS, inS2, truB, ixT0, ixT1, ixT2, ixT3, ixT4, ixT6, slcT, lenT, absI, intI, tupleT, listT, listRl, decide_true, decide_false, if_true, if_false, Bool.false_eq_true, reduceIte, decide_eq_true_eq, Bool.not_true, Bool.not_false, line, mI_int, mI_bool, mI_str, mI_tuple, mI_list, mB_int, mB_bool, mB_str, mB_tuple, mB_list, mS_int, mS_bool, mS_str, mS_tuple, mS_list, mT_int, mT_bool, mT_str, mT_tuple, mT_list, mN_int, mN_bool, mN_str, mN_tuple, mN_list, anyT, anyF, Nat.zero_add, Nat.reduceAdd, Nat.reduceLeDiff, true_and]
  refine isint_s (by omega) ?_
  exact ⟨S, Sto.le_refl, hQ⟩
end K32
namespace K32
open PySem PySem.Spec PyProof.Rows L2 Mi
variable {k : Nat} {S : Sto} {Q : KD} {X : KX} {B : Nat}
abbrev P2 := Int × Int
abbrev Tl := List (Int × P2)
def dq (p : P2) : D := fr p.1 p.2
def nq (n d : Int) : P2 := (n / (Int.gcd n d : Int), d / (Int.gcd n d : Int))
theorem nrm_dq {n d : Int} : nrm n d = dq (nq n d) := rfl
def addq (p q : P2) : P2 := nq (p.1 * q.2 + q.1 * p.2) (p.2 * q.2)
def lk (l : Tl) (e : Int) : Option P2 := (l.find? fun y => decide (y.1 = e)).map (·.2)
def pt (l : Tl) (e : Int) (v : P2) : Tl := if l.any (fun y => decide (y.1 = e)) then l.map fun y => if y.1 = e then (y.1, v) else y else l ++ [(e, v)]
def tD (l : Tl) : List (D × D) := l.map fun y => (D.int y.1, dq y.2)
def pD (l : Tl) : List D := l.map fun y => D.tup [.int y.1, dq y.2]
theorem int_eq {i j : Int} : decide (D.int i = D.int j) = decide (i = j) := decide_eq_decide.mpr ⟨fun h => by cases h; rfl, fun h => by rw [h]⟩
theorem dget_tD (l : Tl) (e : Int) : dget (tD l) (.int e) = (lk l e).map dq := by
  unfold dget lk tD
  induction l with
  | nil => rfl
  | cons y l ih =>
    simp only [List.map_cons, List.find?_cons, int_eq]
    cases h : decide (y.1 = e) with
    | true => rfl
    | false => exact ih
theorem any_tD (l : Tl) (e : Int) : ((tD l).any fun kv => decide (kv.1 = D.int e)) = l.any fun y => decide (y.1 = e) := by
  unfold tD
  rw [List.any_map]
  congr 1
  funext y
  exact int_eq
theorem dput_tD (l : Tl) (e : Int) (v : P2) : dput (tD l) (.int e) (dq v) = tD (pt l e v) := by
  unfold dput pt
  rw [any_tD]
  by_cases h : (l.any fun y => decide (y.1 = e)) = true
  · rw [if_pos h, if_pos h]
    unfold tD
    rw [List.map_map, List.map_map]
    refine List.map_congr_left fun y _ => ?_
    simp only [Function.comp_apply, D.int.injEq]
    split <;> rfl
  · rw [if_neg h, if_neg h]
    unfold tD
    rw [List.map_append]
    rfl
def stp (l : Tl) (y : Int × P2) : Tl := pt l y.1 (addq ((lk l y.1).getD (0, 1)) y.2)
def tb (P : Tl) : Tl := P.foldl stp []
def keyv (T : Tl) (e : Int) : Option (Int × P2) := match lk T e with
  | some v => if v = (0, 1) then none else some (e, v)
  | none => none
def coll (P : Tl) : Tl := (srt ((tb P).map (·.1))).filterMap (keyv (tb P))
structure Fq (B : Nat) (p : P2) : Prop where
  pos : 0 < p.2
  sn : Sz B p.1
  sd : Sz B p.2
theorem Fq.mono {B C : Nat} {p : P2} (h : Fq B p) (hc : B ≤ C) : Fq C p := ⟨h.pos, h.sn.mono hc, h.sd.mono hc⟩
theorem nq_ok {n d : Int} (hd : 0 < d) (sn : Sz B n) (sd : Sz B d) : Fq B (nq n d) := by
  have h := gcd_lt (n := n) hd
  have dv2 : (Int.gcd n d : Int) ∣ d := Int.gcd_dvd_right ..
  exact ⟨Int.ediv_pos_of_pos_of_dvd hd (by omega) dv2, Nat.lt_of_le_of_lt (Int.natAbs_ediv_le_natAbs _ _) sn, Nat.lt_of_le_of_lt (Int.natAbs_ediv_le_natAbs _ _) sd⟩
theorem addq_ok {C : Nat} {p q : P2} (hp : Fq B p) (hq : Fq C q) : Fq (B + C + 1) (addq p q) := by
  refine nq_ok (Int.mul_pos hp.pos hq.pos) ?_ ((hp.sd.mul hq.sd).mono (by omega))
  have h1 := hp.sn.mul hq.sd
  have h2 : Sz (B + C) (q.1 * p.2) := by rw [Nat.add_comm]; exact hq.sn.mul hp.sd
  exact h1.add h2
theorem lk_mem {l : Tl} {e : Int} {v : P2} (h : lk l e = some v) : (e, v) ∈ l := by
  unfold lk at h
  rw [Option.map_eq_some_iff] at h
  obtain ⟨y, h1, h2⟩ := h
  have h3 := List.mem_of_find?_eq_some h1
  have h4 := List.find?_some h1
  rw [decide_eq_true_eq] at h4
  obtain ⟨y1, y2⟩ := y
  simp only at h2 h4
  subst h2 h4
  exact h3
theorem pt_mem {l : Tl} {e : Int} {v : P2} {y : Int × P2} (h : y ∈ pt l e v) : y ∈ l ∨ y.2 = v := by
  unfold pt at h
  split at h
  · obtain ⟨x, h1, h2⟩ := List.mem_map.mp h
    split at h2
    · right; rw [← h2]
    · left; rw [← h2]; exact h1
  · rcases List.mem_append.mp h with h | h
    · exact .inl h
    · right; rw [List.mem_singleton.mp h]
theorem pt_len {l : Tl} {e : Int} {v : P2} : (pt l e v).length ≤ l.length + 1 := by
  unfold pt
  split
  · rw [List.length_map]; omega
  · rw [List.length_append]; exact Nat.le_refl _
theorem lk0_ok {T : Tl} {e : Int} {m : Nat} (hm : 1 ≤ m) (h : ∀ y ∈ T, Fq m y.2) : Fq m ((lk T e).getD (0, 1)) := by
  cases hl : lk T e with
  | none => exact (⟨by decide, by unfold Sz; decide, by unfold Sz; decide⟩ : Fq 1 (0, 1)).mono hm
  | some v => exact h _ (lk_mem hl)
theorem tb_ok {P : Tl} (h : ∀ y ∈ P, Fq B y.2) : ∀ i, i ≤ P.length → (∀ y ∈ tb (P.take i), Fq (1 + i * (B + 1)) y.2) ∧ (tb (P.take i)).length ≤ i := by
  intro i
  induction i with
  | zero => intro _; exact ⟨fun y hy => by simp [tb] at hy, by simp [tb]⟩
  | succ i ih =>
    intro hi
    obtain ⟨h1, h2⟩ := ih (by omega)
    have e : tb (P.take (i + 1)) = stp (tb (P.take i)) P[i] := by
      unfold tb
      rw [List.take_succ_eq_append_getElem (by omega), List.foldl_append]
      rfl
    rw [e]
    have hv := addq_ok (lk0_ok (e := (P[i]).1) (by omega) h1) (h _ (List.getElem_mem (by omega : i < P.length)))
    refine ⟨fun y hy => ?_, Nat.le_trans pt_len (by omega)⟩
    rcases pt_mem hy with hy | hy
    · exact (h1 y hy).mono (by rw [Nat.add_mul]; omega)
    · rw [hy]; exact hv.mono (by rw [Nat.add_mul]; omega)
end K32
namespace K32
open PySem PySem.Spec PyProof.Rows L2 Mi
variable {k : Nat} {S : Sto} {Q : KD} {X : KX} {B : Nat}
theorem Fq.fr {p : P2} (h : Fq B p) (hb : B ≤ 1500) : 0 < p.2 ∧ Sz 1500 p.1 ∧ Sz 1500 p.2 := ⟨h.pos, h.sn.mono hb, h.sd.mono hb⟩
theorem plusq {p q : P2} (hk : 1 < k) (hp : Fq 1500 p) (hq : Fq 1500 q) (hQ : Q (dq (addq p q)) S) : Γ k "plus" [dq p, dq q] S Q X := by
  cases k with
  | zero => omega
  | succ k =>
  obtain ⟨a, b⟩ := p
  obtain ⟨c, d⟩ := q
  have hb : 0 < b := hp.pos
  have hd : 0 < d := hq.pos
  have sa : Sz 1500 a := hp.sn
  have sb : Sz 1500 b := hp.sd
  have sc : Sz 1500 c := hq.sn
  have sd : Sz 1500 d := hq.sd
  refine gam (np := 2) (nn := 2) (b := b_plus) rfl rfl ?_
  simp only [b_plus, dq, fr, wSs, wS, wT, wE, wEs, wO, wC, wI, wG, wGs, startD, List.map_cons, List.map_nil, List.length_cons, List.length_nil, List.replicate, List.cons_append, List.nil_append, List.append_nil, List.set_cons_zero, List.set_cons_succ, List.getElem?_cons_zero, List.getElem?_cons_succ, itT, wipeD, opAddI, opSubI, opMulI, opDivI, opModI, opPowI, opAddT, cmEq, cmNe, cmLt, cmLe, cmGt, cmGe, cmIn, eqI, eqS, inS2, truB, ixT0, ixT1, ixT2, ixT3, ixT4, ixT6, slcT, lenT, absI, intI, tupleT, listT, listRl, decide_true, decide_false, if_true, if_false, Bool.false_eq_true, reduceIte, decide_eq_true_eq, Bool.not_true, Bool.not_false, line, mI_int, mI_bool, mI_str, mI_tuple, mI_list, mB_int, mB_bool, mB_str, mB_tuple, mB_list, mS_int, mS_bool, mS_str, mS_tuple, mS_list, mT_int, mT_bool, mT_str, mT_tuple, mT_list, mN_int, mN_bool, mN_str, mN_tuple, mN_list, anyT, anyF, Nat.zero_add, Nat.reduceAdd, Nat.reduceLeDiff, true_and]
  have h1 : 0 < b * d := Int.mul_pos hb hd
  have fin : CMulW a d ∧ CMulW c b ∧ CMulW b d ∧ Γ k "fraction" [D.int (a * d + c * b), D.int (b * d)] S (fun d S' => ∃ S0, S0.le S' ∧ Q d S0) (fun x S' => ∃ S0, S0.le S' ∧ X x S0) :=
    ⟨sa.cm sd, sc.cm sb, sb.cm sd, frac (by omega) (by omega) (sb.mul sd) (by decide) (by rw [if_neg (by omega)]; exact ⟨S, Sto.le_refl, hQ⟩)⟩
  by_cases hb1 : b = 1
  · subst hb1
    rw [if_pos rfl]
    by_cases hd1 : d = 1
    · subst hd1
      rw [if_pos rfl]
      refine ⟨S, Sto.le_refl, ?_⟩
      have e : dq (addq (a, 1) (c, 1)) = fr (a + c) 1 := by
        unfold addq
        simp only [Int.mul_one]
        exact nrm1
      rw [e] at hQ
      exact hQ
    · rw [if_neg hd1]
      exact fin
  · rw [if_neg hb1]
    exact fin
theorem lplusq {p q : P2} (hk : 2 < k) (hp : Fq 1500 p) (hq : Fq 1500 q) (hQ : Q (dq (addq p q)) S) : Γ k "_law_plus" [dq p, dq q] S Q X :=
  lplus_ok hk hp.pos hq.pos hp.sn hp.sd hq.sn hq.sd hQ
theorem eqF {a b c d : Int} {QB : Bool → Prop} : eqR (fr a b) (fr c d) S QB = QB (decide (a = c ∧ b = d)) := by
  simp only [fr, eqR, plainR, D.pure, D.pures, Bool.and_true, if_true, D.dep, D.deps, D.eqv]
  simp [Bool.beq_eq_decide_eq, D.eqvs, D.eqv, Bool.decide_and]
theorem keyI {e : Int} : (keyD (.int e)).isSome = true := rfl
theorem asInts_map (l : List Int) : asInts (l.map D.int) = some l := by
  induction l with
  | nil => rfl
  | cons a l ih => rw [List.map_cons, asInts, ih]; rfl
theorem keys_tD (T : Tl) : (tD T).map (·.1) = (T.map (·.1)).map D.int := by
  unfold tD
  rw [List.map_map, List.map_map]
  rfl
theorem sortedD {a : Addr} {T : Tl} (h : S a = some (.dct (tD T))) : bltR .sorted [.ref a] S Q = (T.length < 64 ∧ ∀ p, S p = none → Q (.ref p) (S.upd p (.lst ((srt (T.map (·.1))).map D.int)))) := by
  simp only [bltR, h, keys_tD, bllR, asInts_map, List.length_map]
theorem ins_mem {a x : Int} : ∀ {l : List Int}, x ∈ Mi.ins a l ↔ x = a ∨ x ∈ l
  | [] => by simp [Mi.ins]
  | b :: l => by
    unfold Mi.ins
    split
    · simp
    · rw [List.mem_cons, ins_mem, List.mem_cons]
      constructor
      · rintro (h | h | h)
        · exact .inr (.inl h)
        · exact .inl h
        · exact .inr (.inr h)
      · rintro (h | h | h)
        · exact .inr (.inl h)
        · exact .inl h
        · exact .inr (.inr h)
theorem srt_mem {x : Int} : ∀ {l : List Int}, x ∈ srt l ↔ x ∈ l
  | [] => by simp [srt]
  | b :: l => by
    unfold srt
    rw [ins_mem, srt_mem, List.mem_cons]
theorem lk_of {T : Tl} {e : Int} (h : e ∈ T.map (·.1)) : ∃ v, lk T e = some v := by
  obtain ⟨y, h1, h2⟩ := List.mem_map.mp h
  unfold lk
  cases hf : T.find? (fun y => decide (y.1 = e)) with
  | none =>
    have := List.find?_eq_none.mp hf y h1
    simp [h2] at this
  | some z => exact ⟨_, rfl⟩
theorem hZ : G0 "ZERO" = some (fr 0 1) := rfl
theorem le_upd {S S' : Sto} {t : Addr} {c : Cell} (h : S.le S') (ht : S t = none) : S.le (S'.upd t c) := fun a x e => by
  rw [Sto.upd_ne (Sto.ne_of e ht)]
  exact h a x e
theorem tb_succ {P : Tl} {i : Nat} (hi : i < P.length) : tb (P.take (i + 1)) = stp (tb (P.take i)) P[i] := by
  unfold tb
  rw [List.take_succ_eq_append_getElem hi, List.foldl_append]
  rfl
def gk (T : Tl) (d : D) : Option D := match d with
  | .int e => (keyv T e).map fun y => .tup [.int y.1, dq y.2]
  | _ => none
theorem gk_coll {P : Tl} : ((srt ((tb P).map (·.1))).map D.int).filterMap (gk (tb P)) = pD (coll P) := by
  unfold pD coll
  rw [List.filterMap_map, List.map_filterMap]
  rfl
theorem gk_some {T : Tl} {e : Int} {v : P2} (h : lk T e = some v) : gk T (.int e) = if v.1 = 0 ∧ v.2 = 1 then none else some (.tup [.int e, dq v]) := by
  unfold gk keyv
  simp only [h]
  have : (v = (0, 1)) ↔ (v.1 = 0 ∧ v.2 = 1) := by
    obtain ⟨a, b⟩ := v
    simp
  simp only [this]
  split <;> rfl
theorem collected_ok {P : Tl} {arg : D} (hk : 3 < k) (hP : ∀ y ∈ P, Fq B y.2) (hn : 1 + P.length * (B + 1) ≤ 1500) (hl : P.length < 60) (ha : arg = .tup (pD P) ∨ ∃ p, arg = .ref p ∧ S p = some (.lst (pD P))) (hQ : Q (.tup (pD (coll P))) S) : Γ k "collected" [arg] S Q X := by
  cases k with
  | zero => omega
  | succ k =>
  refine gam (np := 1) (nn := 4) (b := b_collected) rfl rfl ?_
  simp only [b_collected, wSs, wS, wT, wE, wEs, wO, wC, wI, wG, wGs, startD, List.map_cons, List.map_nil, List.length_cons, List.length_nil, List.replicate, List.cons_append, List.nil_append, List.append_nil, List.set_cons_zero, List.set_cons_succ, List.getElem?_cons_zero, List.getElem?_cons_succ, itT, wipeD, opAddI, opSubI, opMulI, opDivI, opModI, opPowI, opAddT, cmEq, cmNe, cmLt, cmLe, cmGt, cmGe, cmIn, eqI, eqS, inS2, truB, ixT0, ixT1, ixT2, ixT3, ixT4, ixT6, slcT, lenT, absI, intI, tupleT, listT, listRl, decide_true, decide_false, if_true, if_false, Bool.false_eq_true, reduceIte, decide_eq_true_eq, Bool.not_true, Bool.not_false, line, mI_int, mI_bool, mI_str, mI_tuple, mI_list, mB_int, mB_bool, mB_str, mB_tuple, mB_list, mS_int, mS_bool, mS_str, mS_tuple, mS_list, mT_int, mT_bool, mT_str, mT_tuple, mT_list, mN_int, mN_bool, mN_str, mN_tuple, mN_list, anyT, anyF, Nat.zero_add, Nat.reduceAdd, Nat.reduceLeDiff, true_and]
  intro t ht
  have loop : ∀ (N : De) chk (y2 y3 : Option D), (∀ S', S.le S' → chk S') → (∀ (S' : Sto) z2 z3, S.le S' → S' t = some (.dct (tD (tb P))) → N.nx [some arg, some (.ref t), z2, z3] S') → forL (.tup (.cons (.nm 2) (.cons (.nm 3) .nil))) (wSs (Gam bd G0 k) G0 s_collected_1) chk (pD P) N [some arg, some (.ref t), y2, y3] (S.upd t (.dct [])) := by
    intro N chk y2 y3 hchk hN
    refine forL_inv (pD P) (fun i σ S' => ∃ z2 z3, σ = [some arg, some (.ref t), z2, z3] ∧ S.le S' ∧ S' t = some (.dct (tD (tb (P.take i))))) ?_ ?_ ?_ ⟨_, _, rfl, Sto.le_new ht, Sto.upd_same⟩
    · rintro i σ S' ⟨z2, z3, rfl, h1, h2⟩
      exact hchk S' h1
    · rintro i d σ S' NX hd ⟨z2, z3, rfl, h1, h2⟩ hX
      have hi : i < P.length := by
        have := (List.getElem?_eq_some_iff.mp hd).1
        unfold pD at this
        rwa [List.length_map] at this
      have e0 : d = .tup [.int (P[i]).1, dq (P[i]).2] := by
        unfold pD at hd
        rw [List.getElem?_map, List.getElem?_eq_getElem hi] at hd
        exact (Option.some.inj hd).symm
      subst e0
      obtain ⟨t1, t2⟩ := tb_ok hP i (by omega)
      simp only [s_collected_1, wSs, wS, wT, wE, wEs, wO, wC, wI, wG, wGs, startD, List.map_cons, List.map_nil, List.length_cons, List.length_nil, List.replicate, List.cons_append, List.nil_append, List.append_nil, List.set_cons_zero, List.set_cons_succ, List.getElem?_cons_zero, List.getElem?_cons_succ, itT, wipeD, opAddI, opSubI, opMulI, opDivI, opModI, opPowI, opAddT, cmEq, cmNe, cmLt, cmLe, cmGt, cmGe, cmIn, eqI, eqS, inS2, truB, ixT0, ixT1, ixT2, ixT3, ixT4, ixT6, slcT, lenT, absI, intI, tupleT, listT, listRl, decide_true, decide_false, if_true, if_false, Bool.false_eq_true, reduceIte, decide_eq_true_eq, Bool.not_true, Bool.not_false, line, mI_int, mI_bool, mI_str, mI_tuple, mI_list, mB_int, mB_bool, mB_str, mB_tuple, mB_list, mS_int, mS_bool, mS_str, mS_tuple, mS_list, mT_int, mT_bool, mT_str, mT_tuple, mT_list, mN_int, mN_bool, mN_str, mN_tuple, mN_list, anyT, anyF, Nat.zero_add, Nat.reduceAdd, Nat.reduceLeDiff, true_and, mtyG h2, getDt h2 keyI, dget_tD, hZ]
      have eD : (Option.map dq (lk (tb (P.take i)) P[i].fst)).getD (fr 0 1) = dq ((lk (tb (P.take i)) P[i].fst).getD (0, 1)) := by cases lk (tb (P.take i)) P[i].fst <;> rfl
      have hm : i * (B + 1) ≤ P.length * (B + 1) := Nat.mul_le_mul_right _ (by omega)
      have hm1 : 1 * (B + 1) ≤ P.length * (B + 1) := Nat.mul_le_mul_right _ (by omega)
      rw [eD]
      refine plusq (by omega) ((lk0_ok (by omega) t1).mono (by omega)) ((hP _ (List.getElem_mem hi)).mono (by omega)) ?_
      rw [setD h2 keyI, dput_tD]
      refine ⟨by unfold tD; rw [List.length_map]; have := Mi.line; omega, hX _ _ ⟨_, _, rfl, le_upd h1 ht, ?_⟩⟩
      rw [Sto.upd_same, tb_succ hi]
      rfl
    · rintro σ S' ⟨z2, z3, rfl, h1, h2⟩
      unfold pD at h2
      rw [List.length_map, List.take_length] at h2
      exact hN S' _ _ h1 h2
  have fin : ∀ (S' : Sto) (z2 z3 : Option D), S.le S' → S' t = some (.dct (tD (tb P))) → bltR .sorted [.ref t] S' fun d S1 => itR d S1 fun l chk S1 => l.length ≤ 16777216 ∧ cmpL (Tg.nm 2)
      (fun σ' S' Q' => match σ'[1]? with
        | some (some d) => (match σ'[2]? with
          | some (some d_1) => ixR d d_1 S' fun x S1 => eqR x (fr 0 1) S1 fun b => Q' (!b) S1
          | _ => False)
        | _ => False)
      (fun σ' S' Q' => wE (Gam bd G0 k) G0 e_collected_2 σ' S' Q' fun x x_2 => False) chk l [some arg, some (.ref t), none, z3] S1 fun ds S2 => bllR Bl.tuple ds S2 fun d S' => ∃ S0 : Sto, S0.le S' ∧ Q d S0 := by
    intro S' z2 z3 h1 h2
    obtain ⟨_, t2⟩ := tb_ok hP P.length (Nat.le_refl _)
    rw [List.take_length] at t2
    rw [sortedD h2]
    refine ⟨by omega, fun p hp => ?_⟩
    have hpt : t ≠ p := Sto.ne_of h2 hp
    rw [itL Sto.upd_same]
    refine ⟨?_, cmpL_pure (gk (tb P)) Sto.upd_same ?_ ?_⟩
    · rw [List.length_map]
      have e : ∀ l : List Int, (srt l).length = l.length := by
        intro l
        have e2 : ∀ (a : Int) (l : List Int), (Mi.ins a l).length = l.length + 1 := by
          intro a l
          induction l with
          | nil => rfl
          | cons b l ih => unfold Mi.ins; split <;> simp [ih]
        induction l with
        | nil => rfl
        | cons a l ih => unfold srt; rw [e2, ih]; rfl
      rw [e, List.length_map]
      omega
    · intro d hd PP hPP
      obtain ⟨e, he, rfl⟩ := List.mem_map.mp hd
      obtain ⟨v, hv⟩ := lk_of (srt_mem.mp he)
      have h2' : (S'.upd p (.lst ((srt ((tb P).map (·.1))).map D.int))) t = some (.dct (tD (tb P))) := by rw [Sto.upd_ne hpt]; exact h2
      have hg : dget (tD (tb P)) (.int e) = some (dq v) := by rw [dget_tD, hv]; rfl
      rw [gk_some hv] at hPP
      simp only [wSs, wS, wT, wE, wEs, wO, wC, wI, wG, wGs, startD, List.map_cons, List.map_nil, List.length_cons, List.length_nil, List.replicate, List.cons_append, List.nil_append, List.append_nil, List.set_cons_zero, List.set_cons_succ, List.getElem?_cons_zero, List.getElem?_cons_succ, itT, wipeD, opAddI, opSubI, opMulI, opDivI, opModI, opPowI, opAddT, cmEq, cmNe, cmLt, cmLe, cmGt, cmGe, cmIn, eqI, eqS, inS2, truB, ixT0, ixT1, ixT2, ixT3, ixT4, ixT6, slcT, lenT, absI, intI, tupleT, listT, listRl, decide_true, decide_false, if_true, if_false, Bool.false_eq_true, reduceIte, decide_eq_true_eq, Bool.not_true, Bool.not_false, line, mI_int, mI_bool, mI_str, mI_tuple, mI_list, mB_int, mB_bool, mB_str, mB_tuple, mB_list, mS_int, mS_bool, mS_str, mS_tuple, mS_list, mT_int, mT_bool, mT_str, mT_tuple, mT_list, mN_int, mN_bool, mN_str, mN_tuple, mN_list, anyT, anyF, Nat.zero_add, Nat.reduceAdd, Nat.reduceLeDiff, true_and, e_collected_2, ixD h2' keyI hg, dq, eqF]
      by_cases hz : v.1 = 0 ∧ v.2 = 1
      · simp only [hz, and_self, if_true, decide_true, Bool.not_true, Bool.false_eq_true, if_false] at hPP ⊢
        exact hPP
      · rw [if_neg hz] at hPP
        simp only [hz, decide_false, Bool.not_false, if_true]
        exact hPP
    · rw [gk_coll]
      exact ⟨S, le_upd h1 (by
        cases q : S p with
        | none => rfl
        | some c => have := h1 _ _ q; rw [hp] at this; cases this), hQ⟩
  rcases ha with rfl | ⟨q, rfl, hq⟩
  · exact loop _ _ _ _ (fun _ _ => trivial) fun S' z2 z3 h1 h2 => fin S' z2 z3 h1 h2
  · have hqt : q ≠ t := Sto.ne_of hq ht
    rw [itL (l := pD P) (by rw [Sto.upd_ne hqt]; exact hq)]
    exact loop _ _ _ _ (fun S' h => h _ _ hq) fun S' z2 z3 h1 h2 => fin S' z2 z3 h1 h2
end K32
namespace K32
open PySem PySem.Spec PyProof.Rows L2 Mi
variable {k : Nat} {S : Sto} {Q : KD} {X : KX} {B : Nat}
theorem nq_nz {n d : Int} (hd : 0 < d) (h : (nq n d).1 = 0) : (nq n d).2 = 1 := by
  have hg := gcd_lt (n := n) hd
  have dv1 : (Int.gcd n d : Int) ∣ n := Int.gcd_dvd_left ..
  have h : n / (Int.gcd n d : Int) = 0 := h
  have h0 : n = 0 := by
    have := Int.ediv_mul_cancel dv1
    rw [h] at this
    omega
  subst h0
  show d / (Int.gcd 0 d : Int) = 1
  rw [Int.gcd_zero_left, Int.natAbs_of_nonneg (Int.le_of_lt hd)]
  exact Int.ediv_self (by omega)
theorem nq_pos {n d : Int} (hd : 0 < d) : 0 < (nq n d).2 := by
  have hg := gcd_lt (n := n) hd
  have dv2 : (Int.gcd n d : Int) ∣ d := Int.gcd_dvd_right ..
  exact Int.ediv_pos_of_pos_of_dvd hd (by omega) dv2
theorem tb_nz' {P : Tl} (h : ∀ y ∈ P, 0 < y.2.2) : ∀ i, i ≤ P.length → ∀ y ∈ tb (P.take i), 0 < y.2.2 ∧ (y.2.1 = 0 → y.2.2 = 1) := by
  intro i
  induction i with
  | zero => intro _ y hy; simp [tb] at hy
  | succ i ih =>
    intro hi y hy
    have h1 := ih (by omega)
    rw [tb_succ (by omega)] at hy
    have hp : 0 < ((lk (tb (P.take i)) (P[i]).1).getD (0, 1)).2 := by
      cases hl : lk (tb (P.take i)) (P[i]).1 with
      | none => exact (by decide : (0 : Int) < 1)
      | some v => exact (h1 _ (lk_mem hl)).1
    have hq := h _ (List.getElem_mem (by omega : i < P.length))
    rcases pt_mem hy with hy | hy
    · exact h1 y hy
    · rw [hy]
      exact ⟨nq_pos (Int.mul_pos hp hq), nq_nz (Int.mul_pos hp hq)⟩
theorem tb_nz {P : Tl} (h : ∀ y ∈ P, 0 < y.2.2) (y : Int × P2) (hy : y ∈ tb P) : y.2.1 = 0 → y.2.2 = 1 := by
  have := tb_nz' h P.length (Nat.le_refl _) y
  rw [List.take_length] at this
  exact (this hy).2
theorem lcollected_ok {P : Tl} {arg : D} (hk : 3 < k) (hP : ∀ y ∈ P, Fq B y.2) (hn : 1 + P.length * (B + 1) ≤ 1500) (hl : P.length < 60) (ha : arg = .tup (pD P) ∨ ∃ p, arg = .ref p ∧ S p = some (.lst (pD P))) (hQ : Q (.tup (pD (coll P))) S) : Γ k "_law_collected" [arg] S Q X := by
  cases k with
  | zero => omega
  | succ k =>
  refine gam (np := 1) (nn := 4) (b := b__law_collected) rfl rfl ?_
  simp only [b__law_collected, wSs, wS, wT, wE, wEs, wO, wC, wI, wG, wGs, startD, List.map_cons, List.map_nil, List.length_cons, List.length_nil, List.replicate, List.cons_append, List.nil_append, List.append_nil, List.set_cons_zero, List.set_cons_succ, List.getElem?_cons_zero, List.getElem?_cons_succ, itT, wipeD, opAddI, opSubI, opMulI, opDivI, opModI, opPowI, opAddT, cmEq, cmNe, cmLt, cmLe, cmGt, cmGe, cmIn, eqI, eqS, inS2, truB, ixT0, ixT1, ixT2, ixT3, ixT4, ixT6, slcT, lenT, absI, intI, tupleT, listT, listRl, decide_true, decide_false, if_true, if_false, Bool.false_eq_true, reduceIte, decide_eq_true_eq, Bool.not_true, Bool.not_false, line, mI_int, mI_bool, mI_str, mI_tuple, mI_list, mB_int, mB_bool, mB_str, mB_tuple, mB_list, mS_int, mS_bool, mS_str, mS_tuple, mS_list, mT_int, mT_bool, mT_str, mT_tuple, mT_list, mN_int, mN_bool, mN_str, mN_tuple, mN_list, anyT, anyF, Nat.zero_add, Nat.reduceAdd, Nat.reduceLeDiff, true_and]
  intro t ht
  have loop : ∀ (N : De) chk (y2 y3 : Option D), (∀ S', S.le S' → chk S') → (∀ (S' : Sto) z2 z3, S.le S' → S' t = some (.dct (tD (tb P))) → N.nx [some arg, some (.ref t), z2, z3] S') → forL (.tup (.cons (.nm 2) (.cons (.nm 3) .nil))) (wSs (Gam bd G0 k) G0 s__law_collected_1) chk (pD P) N [some arg, some (.ref t), y2, y3] (S.upd t (.dct [])) := by
    intro N chk y2 y3 hchk hN
    refine forL_inv (pD P) (fun i σ S' => ∃ z2 z3, σ = [some arg, some (.ref t), z2, z3] ∧ S.le S' ∧ S' t = some (.dct (tD (tb (P.take i))))) ?_ ?_ ?_ ⟨_, _, rfl, Sto.le_new ht, Sto.upd_same⟩
    · rintro i σ S' ⟨z2, z3, rfl, h1, h2⟩
      exact hchk S' h1
    · rintro i d σ S' NX hd ⟨z2, z3, rfl, h1, h2⟩ hX
      have hi : i < P.length := by
        have := (List.getElem?_eq_some_iff.mp hd).1
        unfold pD at this
        rwa [List.length_map] at this
      have e0 : d = .tup [.int (P[i]).1, dq (P[i]).2] := by
        unfold pD at hd
        rw [List.getElem?_map, List.getElem?_eq_getElem hi] at hd
        exact (Option.some.inj hd).symm
      subst e0
      obtain ⟨t1, t2⟩ := tb_ok hP i (by omega)
      simp only [s__law_collected_1, wSs, wS, wT, wE, wEs, wO, wC, wI, wG, wGs, startD, List.map_cons, List.map_nil, List.length_cons, List.length_nil, List.replicate, List.cons_append, List.nil_append, List.append_nil, List.set_cons_zero, List.set_cons_succ, List.getElem?_cons_zero, List.getElem?_cons_succ, itT, wipeD, opAddI, opSubI, opMulI, opDivI, opModI, opPowI, opAddT, cmEq, cmNe, cmLt, cmLe, cmGt, cmGe, cmIn, eqI, eqS, inS2, truB, ixT0, ixT1, ixT2, ixT3, ixT4, ixT6, slcT, lenT, absI, intI, tupleT, listT, listRl, decide_true, decide_false, if_true, if_false, Bool.false_eq_true, reduceIte, decide_eq_true_eq, Bool.not_true, Bool.not_false, line, mI_int, mI_bool, mI_str, mI_tuple, mI_list, mB_int, mB_bool, mB_str, mB_tuple, mB_list, mS_int, mS_bool, mS_str, mS_tuple, mS_list, mT_int, mT_bool, mT_str, mT_tuple, mT_list, mN_int, mN_bool, mN_str, mN_tuple, mN_list, anyT, anyF, Nat.zero_add, Nat.reduceAdd, Nat.reduceLeDiff, true_and, mtyG h2, getDt h2 keyI, dget_tD]
      rw [show D.tup [D.int 0, D.int 1] = fr 0 1 from rfl]
      have eD : (Option.map dq (lk (tb (P.take i)) P[i].fst)).getD (fr 0 1) = dq ((lk (tb (P.take i)) P[i].fst).getD (0, 1)) := by cases lk (tb (P.take i)) P[i].fst <;> rfl
      have hm : i * (B + 1) ≤ P.length * (B + 1) := Nat.mul_le_mul_right _ (by omega)
      have hm1 : 1 * (B + 1) ≤ P.length * (B + 1) := Nat.mul_le_mul_right _ (by omega)
      rw [eD]
      refine lplusq (by omega) ((lk0_ok (by omega) t1).mono (by omega)) ((hP _ (List.getElem_mem hi)).mono (by omega)) ?_
      rw [setD h2 keyI, dput_tD]
      refine ⟨by unfold tD; rw [List.length_map]; have := Mi.line; omega, hX _ _ ⟨_, _, rfl, le_upd h1 ht, ?_⟩⟩
      rw [Sto.upd_same, tb_succ hi]
      rfl
    · rintro σ S' ⟨z2, z3, rfl, h1, h2⟩
      unfold pD at h2
      rw [List.length_map, List.take_length] at h2
      exact hN S' _ _ h1 h2
  have fin : ∀ (S' : Sto) (z2 z3 : Option D), S.le S' → S' t = some (.dct (tD (tb P))) → bltR .sorted [.ref t] S' fun d S1 => itR d S1 fun l chk S1 => l.length ≤ 16777216 ∧ cmpL (Tg.nm 2)
      (fun σ' S' Q' => match σ'[1]? with
        | some (some d) => (match σ'[2]? with
          | some (some d_1) => ixR d d_1 S' fun x S1 => ixR x (.int 0) S1 fun x S1 => eqR x (.int 0) S1 fun b => Q' (!b) S1
          | _ => False)
        | _ => False)
      (fun σ' S' Q' => wE (Gam bd G0 k) G0 e__law_collected_2 σ' S' Q' fun x x_2 => False) chk l [some arg, some (.ref t), none, z3] S1 fun ds S2 => bllR Bl.tuple ds S2 fun d S' => ∃ S0 : Sto, S0.le S' ∧ Q d S0 := by
    intro S' z2 z3 h1 h2
    obtain ⟨_, t2⟩ := tb_ok hP P.length (Nat.le_refl _)
    rw [List.take_length] at t2
    rw [sortedD h2]
    refine ⟨by omega, fun p hp => ?_⟩
    have hpt : t ≠ p := Sto.ne_of h2 hp
    rw [itL Sto.upd_same]
    refine ⟨?_, cmpL_pure (gk (tb P)) Sto.upd_same ?_ ?_⟩
    · rw [List.length_map]
      have e : ∀ l : List Int, (srt l).length = l.length := by
        intro l
        have e2 : ∀ (a : Int) (l : List Int), (Mi.ins a l).length = l.length + 1 := by
          intro a l
          induction l with
          | nil => rfl
          | cons b l ih => unfold Mi.ins; split <;> simp [ih]
        induction l with
        | nil => rfl
        | cons a l ih => unfold srt; rw [e2, ih]; rfl
      rw [e, List.length_map]
      omega
    · intro d hd PP hPP
      obtain ⟨e, he, rfl⟩ := List.mem_map.mp hd
      obtain ⟨v, hv⟩ := lk_of (srt_mem.mp he)
      have h2' : (S'.upd p (.lst ((srt ((tb P).map (·.1))).map D.int))) t = some (.dct (tD (tb P))) := by rw [Sto.upd_ne hpt]; exact h2
      have hg : dget (tD (tb P)) (.int e) = some (dq v) := by rw [dget_tD, hv]; rfl
      rw [gk_some hv] at hPP
      simp only [wSs, wS, wT, wE, wEs, wO, wC, wI, wG, wGs, startD, List.map_cons, List.map_nil, List.length_cons, List.length_nil, List.replicate, List.cons_append, List.nil_append, List.append_nil, List.set_cons_zero, List.set_cons_succ, List.getElem?_cons_zero, List.getElem?_cons_succ, itT, wipeD, opAddI, opSubI, opMulI, opDivI, opModI, opPowI, opAddT, cmEq, cmNe, cmLt, cmLe, cmGt, cmGe, cmIn, eqI, eqS, inS2, truB, ixT0, ixT1, ixT2, ixT3, ixT4, ixT6, slcT, lenT, absI, intI, tupleT, listT, listRl, decide_true, decide_false, if_true, if_false, Bool.false_eq_true, reduceIte, decide_eq_true_eq, Bool.not_true, Bool.not_false, line, mI_int, mI_bool, mI_str, mI_tuple, mI_list, mB_int, mB_bool, mB_str, mB_tuple, mB_list, mS_int, mS_bool, mS_str, mS_tuple, mS_list, mT_int, mT_bool, mT_str, mT_tuple, mT_list, mN_int, mN_bool, mN_str, mN_tuple, mN_list, anyT, anyF, Nat.zero_add, Nat.reduceAdd, Nat.reduceLeDiff, true_and, e__law_collected_2, ixD h2' keyI hg, dq, fr, opAddI, opSubI, opMulI, opDivI, opModI, opPowI, opAddT, cmEq, cmNe, cmLt, cmLe, cmGt, cmGe, cmIn, eqI, eqS, inS2, truB, ixT0, ixT1, ixT2, ixT3, ixT4, ixT6, slcT, lenT, absI, intI, tupleT, listT, listRl, decide_true, decide_false, if_true, if_false, Bool.false_eq_true, reduceIte, decide_eq_true_eq, Bool.not_true, Bool.not_false, line, mI_int, mI_bool, mI_str, mI_tuple, mI_list, mB_int, mB_bool, mB_str, mB_tuple, mB_list, mS_int, mS_bool, mS_str, mS_tuple, mS_list, mT_int, mT_bool, mT_str, mT_tuple, mT_list, mN_int, mN_bool, mN_str, mN_tuple, mN_list, anyT, anyF, Nat.zero_add, Nat.reduceAdd, Nat.reduceLeDiff, true_and]
      have hnz := tb_nz (P := P) (fun y hy => (hP y hy).pos) _ (lk_mem hv)
      by_cases hz : v.1 = 0
      · rw [if_pos ⟨hz, hnz hz⟩] at hPP
        simp only [hz, decide_true, Bool.not_true, Bool.false_eq_true, if_false]
        exact hPP
      · rw [if_neg (fun z => hz z.1)] at hPP
        simp only [hz, decide_false, Bool.not_false, if_true]
        exact hPP
    · rw [gk_coll]
      exact ⟨S, le_upd h1 (by
        cases q : S p with
        | none => rfl
        | some c => have := h1 _ _ q; rw [hp] at this; cases this), hQ⟩
  rcases ha with rfl | ⟨q, rfl, hq⟩
  · exact loop _ _ _ _ (fun _ _ => trivial) fun S' z2 z3 h1 h2 => fin S' z2 z3 h1 h2
  · have hqt : q ≠ t := Sto.ne_of hq ht
    rw [itL (l := pD P) (by rw [Sto.upd_ne hqt]; exact hq)]
    exact loop _ _ _ _ (fun S' h => h _ _ hq) fun S' z2 z3 h1 h2 => fin S' z2 z3 h1 h2
end K32
namespace K32
open PySem PySem.Spec PyProof.Rows L2 Mi
variable {k : Nat} {S : Sto} {Q : KD} {X : KX} {B : Nat}
def mulq (p q : P2) : P2 := nq (p.1 * q.1) (p.2 * q.2)
def ngq (p : P2) : P2 := (-p.1, p.2)
structure Nm (B : Nat) (p : P2) : Prop extends Fq B p where
  low : Int.gcd p.1 p.2 = 1
theorem nq_id {n d : Int} (h : Int.gcd n d = 1) : nq n d = (n, d) := by unfold nq; rw [h]; simp
theorem Nm.neg {p : P2} (h : Nm B p) : Nm B (ngq p) := ⟨⟨h.pos, h.sn.neg, h.sd⟩, by show Int.gcd (-p.1) p.2 = 1; rw [Int.neg_gcd]; exact h.low⟩
theorem minus0 {p : P2} (hk : 1 < k) (hp : Nm 1500 p) (hQ : Q (dq (ngq p)) S) : Γ k "minus" [fr 0 1, dq p] S Q X := by
  cases k with
  | zero => omega
  | succ k =>
  obtain ⟨c, d⟩ := p
  have hd : 0 < d := hp.pos
  have sc : Sz 1500 c := hp.sn
  have sd : Sz 1500 d := hp.sd
  have s0 : Sz 1500 0 := by unfold Sz; exact Nat.two_pow_pos 1500
  have s1 : Sz 1500 1 := by unfold Sz; exact Nat.one_lt_two_pow (n := 1500) (by omega)
  refine gam (np := 2) (nn := 2) (b := b_minus) rfl rfl ?_
  simp only [b_minus, dq, fr, wSs, wS, wT, wE, wEs, wO, wC, wI, wG, wGs, startD, List.map_cons, List.map_nil, List.length_cons, List.length_nil, List.replicate, List.cons_append, List.nil_append, List.append_nil, List.set_cons_zero, List.set_cons_succ, List.getElem?_cons_zero, List.getElem?_cons_succ, itT, wipeD, opAddI, opSubI, opMulI, opDivI, opModI, opPowI, opAddT, cmEq, cmNe, cmLt, cmLe, cmGt, cmGe, cmIn, eqI, eqS, inS2, truB, ixT0, ixT1, ixT2, ixT3, ixT4, ixT6, slcT, lenT, absI, intI, tupleT, listT, listRl, decide_true, decide_false, if_true, if_false, Bool.false_eq_true, reduceIte, decide_eq_true_eq, Bool.not_true, Bool.not_false, line, mI_int, mI_bool, mI_str, mI_tuple, mI_list, mB_int, mB_bool, mB_str, mB_tuple, mB_list, mS_int, mS_bool, mS_str, mS_tuple, mS_list, mT_int, mT_bool, mT_str, mT_tuple, mT_list, mN_int, mN_bool, mN_str, mN_tuple, mN_list, anyT, anyF, Nat.zero_add, Nat.reduceAdd, Nat.reduceLeDiff, true_and]
  refine ⟨s0.cm sd, sc.cm s1, s1.cm sd, frac (m := 3000) (by omega) (by omega) (by rw [Int.one_mul]; exact sd.mono (by decide)) (by decide) ?_⟩
  rw [if_neg (by omega), Int.zero_mul, Int.mul_one, Int.one_mul, Int.zero_sub, nrm_dq, nq_id (show Int.gcd (-c) d = 1 from hp.neg.low)]
  exact ⟨S, Sto.le_refl, hQ⟩
theorem timesq {p q : P2} (hk : 1 < k) (hp : Fq 1500 p) (hq : Fq 1500 q) (hQ : Q (dq (mulq p q)) S) : Γ k "times" [dq p, dq q] S Q X := by
  cases k with
  | zero => omega
  | succ k =>
  refine gam (np := 2) (nn := 2) (b := b_times) rfl rfl ?_
  simp only [b_times, dq, fr, wSs, wS, wT, wE, wEs, wO, wC, wI, wG, wGs, startD, List.map_cons, List.map_nil, List.length_cons, List.length_nil, List.replicate, List.cons_append, List.nil_append, List.append_nil, List.set_cons_zero, List.set_cons_succ, List.getElem?_cons_zero, List.getElem?_cons_succ, itT, wipeD, opAddI, opSubI, opMulI, opDivI, opModI, opPowI, opAddT, cmEq, cmNe, cmLt, cmLe, cmGt, cmGe, cmIn, eqI, eqS, inS2, truB, ixT0, ixT1, ixT2, ixT3, ixT4, ixT6, slcT, lenT, absI, intI, tupleT, listT, listRl, decide_true, decide_false, if_true, if_false, Bool.false_eq_true, reduceIte, decide_eq_true_eq, Bool.not_true, Bool.not_false, line, mI_int, mI_bool, mI_str, mI_tuple, mI_list, mB_int, mB_bool, mB_str, mB_tuple, mB_list, mS_int, mS_bool, mS_str, mS_tuple, mS_list, mT_int, mT_bool, mT_str, mT_tuple, mT_list, mN_int, mN_bool, mN_str, mN_tuple, mN_list, anyT, anyF, Nat.zero_add, Nat.reduceAdd, Nat.reduceLeDiff, true_and]
  have h1 : 0 < p.2 * q.2 := Int.mul_pos hp.pos hq.pos
  exact ⟨hp.sn.cm hq.sn, hp.sd.cm hq.sd, frac (by omega) (by omega) (hp.sd.mul hq.sd) (by decide) (by rw [if_neg (by omega)]; exact ⟨S, Sto.le_refl, hQ⟩)⟩
theorem ltimesq {p q : P2} (hk : 2 < k) (hp : Fq 1500 p) (hq : Fq 1500 q) (hQ : Q (dq (mulq p q)) S) : Γ k "_law_times" [dq p, dq q] S Q X := by
  cases k with
  | zero => omega
  | succ k =>
  refine gam (np := 2) (nn := 2) (b := b__law_times) rfl rfl ?_
  simp only [b__law_times, dq, fr, wSs, wS, wT, wE, wEs, wO, wC, wI, wG, wGs, startD, List.map_cons, List.map_nil, List.length_cons, List.length_nil, List.replicate, List.cons_append, List.nil_append, List.append_nil, List.set_cons_zero, List.set_cons_succ, List.getElem?_cons_zero, List.getElem?_cons_succ, itT, wipeD, opAddI, opSubI, opMulI, opDivI, opModI, opPowI, opAddT, cmEq, cmNe, cmLt, cmLe, cmGt, cmGe, cmIn, eqI, eqS, inS2, truB, ixT0, ixT1, ixT2, ixT3, ixT4, ixT6, slcT, lenT, absI, intI, tupleT, listT, listRl, decide_true, decide_false, if_true, if_false, Bool.false_eq_true, reduceIte, decide_eq_true_eq, Bool.not_true, Bool.not_false, line, mI_int, mI_bool, mI_str, mI_tuple, mI_list, mB_int, mB_bool, mB_str, mB_tuple, mB_list, mS_int, mS_bool, mS_str, mS_tuple, mS_list, mT_int, mT_bool, mT_str, mT_tuple, mT_list, mN_int, mN_bool, mN_str, mN_tuple, mN_list, anyT, anyF, Nat.zero_add, Nat.reduceAdd, Nat.reduceLeDiff, true_and]
  exact ⟨hp.sn.cm hq.sn, hp.sd.cm hq.sd, lfrac (by omega) (Int.mul_pos hp.pos hq.pos) (hp.sd.mul hq.sd) (by decide) ⟨S, Sto.le_refl, hQ⟩⟩
theorem pD_app {P R : Tl} : pD P ++ pD R = pD (P ++ R) := by unfold pD; rw [List.map_append]
theorem pD_len {P : Tl} : (pD P).length = P.length := by unfold pD; rw [List.length_map]
structure Pl (B n : Nat) (P : Tl) : Prop where
  el : ∀ y ∈ P, Nm B y.2
  len : P.length ≤ n
theorem Pl.app {n m : Nat} {P R : Tl} (h : Pl B n P) (g : Pl B m R) : Pl B (n + m) (P ++ R) := ⟨fun y hy => by
  rcases List.mem_append.mp hy with hy | hy
  · exact h.el y hy
  · exact g.el y hy, by rw [List.length_append]; have := h.len; have := g.len; omega⟩
theorem size_ok {n l B : Nat} (h : l ≤ n) (hs : 1 + n * (B + 1) ≤ 1500) : 1 + l * (B + 1) ≤ 1500 := by
  have := Nat.mul_le_mul_right (B + 1) h
  omega
theorem sum_ok {P R : Tl} (hk : 5 < k) (hP : Pl 30 4 P) (hR : Pl 30 4 R) (hQ : Q (.tup (pD (coll (P ++ R)))) S) : Γ k "chance_sum" [.tup (pD P), .tup (pD R)] S Q X := by
  cases k with
  | zero => omega
  | succ k =>
  refine gam (np := 2) (nn := 2) (b := b_chance_sum) rfl rfl ?_
  have h1 := hP.len
  have h2 := hR.len
  simp only [b_chance_sum, wSs, wS, wT, wE, wEs, wO, wC, wI, wG, wGs, startD, List.map_cons, List.map_nil, List.length_cons, List.length_nil, List.replicate, List.cons_append, List.nil_append, List.append_nil, List.set_cons_zero, List.set_cons_succ, List.getElem?_cons_zero, List.getElem?_cons_succ, itT, wipeD, opAddI, opSubI, opMulI, opDivI, opModI, opPowI, opAddT, cmEq, cmNe, cmLt, cmLe, cmGt, cmGe, cmIn, eqI, eqS, inS2, truB, ixT0, ixT1, ixT2, ixT3, ixT4, ixT6, slcT, lenT, absI, intI, tupleT, listT, listRl, decide_true, decide_false, if_true, if_false, Bool.false_eq_true, reduceIte, decide_eq_true_eq, Bool.not_true, Bool.not_false, line, mI_int, mI_bool, mI_str, mI_tuple, mI_list, mB_int, mB_bool, mB_str, mB_tuple, mB_list, mS_int, mS_bool, mS_str, mS_tuple, mS_list, mT_int, mT_bool, mT_str, mT_tuple, mT_list, mN_int, mN_bool, mN_str, mN_tuple, mN_list, anyT, anyF, Nat.zero_add, Nat.reduceAdd, Nat.reduceLeDiff, true_and, pD_len, pD_app]
  refine ⟨by omega, collected_ok (B := 30) (by omega) (fun y hy => ((hP.app hR).el y hy).toFq) (size_ok (hP.app hR).len (by decide)) (by rw [List.length_append]; omega) (.inl rfl) ⟨S, Sto.le_refl, hQ⟩⟩
theorem less_ok' {P R : Tl} (hk : 5 < k) (hP : Pl 30 4 P) (hR : Pl 30 4 R) (hQ : Q (.tup (pD (coll (P ++ R.map fun y => (y.1, ngq y.2))))) S) : Γ k "chance_less" [.tup (pD P), .tup (pD R)] S Q X := by
  cases k with
  | zero => omega
  | succ k =>
  refine gam (np := 2) (nn := 4) (b := b_chance_less) rfl rfl ?_
  have h1 := hP.len
  have h2 := hR.len
  have hN : Pl 30 4 (R.map fun y => (y.1, ngq y.2)) := ⟨fun y hy => by
    obtain ⟨x, hx, rfl⟩ := List.mem_map.mp hy
    exact (hR.el x hx).neg, by rw [List.length_map]; exact h2⟩
  simp only [b_chance_less, wSs, wS, wT, wE, wEs, wO, wC, wI, wG, wGs, startD, List.map_cons, List.map_nil, List.length_cons, List.length_nil, List.replicate, List.cons_append, List.nil_append, List.append_nil, List.set_cons_zero, List.set_cons_succ, List.getElem?_cons_zero, List.getElem?_cons_succ, itT, wipeD, opAddI, opSubI, opMulI, opDivI, opModI, opPowI, opAddT, cmEq, cmNe, cmLt, cmLe, cmGt, cmGe, cmIn, eqI, eqS, inS2, truB, ixT0, ixT1, ixT2, ixT3, ixT4, ixT6, slcT, lenT, absI, intI, tupleT, listT, listRl, decide_true, decide_false, if_true, if_false, Bool.false_eq_true, reduceIte, decide_eq_true_eq, Bool.not_true, Bool.not_false, line, mI_int, mI_bool, mI_str, mI_tuple, mI_list, mB_int, mB_bool, mB_str, mB_tuple, mB_list, mS_int, mS_bool, mS_str, mS_tuple, mS_list, mT_int, mT_bool, mT_str, mT_tuple, mT_list, mN_int, mN_bool, mN_str, mN_tuple, mN_list, anyT, anyF, Nat.zero_add, Nat.reduceAdd, Nat.reduceLeDiff, true_and, pD_len]
  refine ⟨by omega, cmpL_pure (fun d => match d with | .tup [.int e, .tup [.int n, .int d]] => some (.tup [.int e, dq (ngq (n, d))]) | _ => none) trivial ?_ ?_⟩
  · intro d hd PP hPP
    unfold pD at hd
    obtain ⟨y, hy, rfl⟩ := List.mem_map.mp hd
    simp only [e_chance_less_1, wSs, wS, wT, wE, wEs, wO, wC, wI, wG, wGs, startD, List.map_cons, List.map_nil, List.length_cons, List.length_nil, List.replicate, List.cons_append, List.nil_append, List.append_nil, List.set_cons_zero, List.set_cons_succ, List.getElem?_cons_zero, List.getElem?_cons_succ, itT, wipeD, opAddI, opSubI, opMulI, opDivI, opModI, opPowI, opAddT, cmEq, cmNe, cmLt, cmLe, cmGt, cmGe, cmIn, eqI, eqS, inS2, truB, ixT0, ixT1, ixT2, ixT3, ixT4, ixT6, slcT, lenT, absI, intI, tupleT, listT, listRl, decide_true, decide_false, if_true, if_false, Bool.false_eq_true, reduceIte, decide_eq_true_eq, Bool.not_true, Bool.not_false, line, mI_int, mI_bool, mI_str, mI_tuple, mI_list, mB_int, mB_bool, mB_str, mB_tuple, mB_list, mS_int, mS_bool, mS_str, mS_tuple, mS_list, mT_int, mT_bool, mT_str, mT_tuple, mT_list, mN_int, mN_bool, mN_str, mN_tuple, mN_list, anyT, anyF, Nat.zero_add, Nat.reduceAdd, Nat.reduceLeDiff, true_and, hZ]
    refine minus0 (by omega) ⟨(hR.el y hy).toFq.mono (by decide), (hR.el y hy).low⟩ ?_
    exact hPP
  · have e : (pD R).filterMap (fun d => match d with | .tup [.int e, .tup [.int n, .int d]] => some (D.tup [.int e, dq (ngq (n, d))]) | _ => none) = pD (R.map fun y => (y.1, ngq y.2)) := by
      unfold pD
      rw [List.filterMap_map, List.map_map, ← List.filterMap_eq_map]
      rfl
    rw [e]
    simp only [bllR, opAddI, opSubI, opMulI, opDivI, opModI, opPowI, opAddT, cmEq, cmNe, cmLt, cmLe, cmGt, cmGe, cmIn, eqI, eqS, inS2, truB, ixT0, ixT1, ixT2, ixT3, ixT4, ixT6, slcT, lenT, absI, intI, tupleT, listT, listRl, decide_true, decide_false, if_true, if_false, Bool.false_eq_true, reduceIte, decide_eq_true_eq, Bool.not_true, Bool.not_false, line, mI_int, mI_bool, mI_str, mI_tuple, mI_list, mB_int, mB_bool, mB_str, mB_tuple, mB_list, mS_int, mS_bool, mS_str, mS_tuple, mS_list, mT_int, mT_bool, mT_str, mT_tuple, mT_list, mN_int, mN_bool, mN_str, mN_tuple, mN_list, anyT, anyF, Nat.zero_add, Nat.reduceAdd, Nat.reduceLeDiff, true_and, pD_len, pD_app, List.length_map]
    refine ⟨by omega, collected_ok (B := 30) (by omega) (fun y hy => ((hP.app hN).el y hy).toFq) (size_ok (hP.app hN).len (by decide)) (by rw [List.length_append, List.length_map]; omega) (.inl rfl) ⟨S, Sto.le_refl, hQ⟩⟩
theorem told_ok {p : P2} (hk : 5 < k) (hp : Fq 30 p) (hQ : Q (.tup (pD (coll [(0, p)]))) S) : Γ k "told_chance" [dq p] S Q X := by
  cases k with
  | zero => omega
  | succ k =>
  refine gam (np := 1) (nn := 1) (b := b_told_chance) rfl rfl ?_
  simp only [b_told_chance, wSs, wS, wT, wE, wEs, wO, wC, wI, wG, wGs, startD, List.map_cons, List.map_nil, List.length_cons, List.length_nil, List.replicate, List.cons_append, List.nil_append, List.append_nil, List.set_cons_zero, List.set_cons_succ, List.getElem?_cons_zero, List.getElem?_cons_succ, itT, wipeD, opAddI, opSubI, opMulI, opDivI, opModI, opPowI, opAddT, cmEq, cmNe, cmLt, cmLe, cmGt, cmGe, cmIn, eqI, eqS, inS2, truB, ixT0, ixT1, ixT2, ixT3, ixT4, ixT6, slcT, lenT, absI, intI, tupleT, listT, listRl, decide_true, decide_false, if_true, if_false, Bool.false_eq_true, reduceIte, decide_eq_true_eq, Bool.not_true, Bool.not_false, line, mI_int, mI_bool, mI_str, mI_tuple, mI_list, mB_int, mB_bool, mB_str, mB_tuple, mB_list, mS_int, mS_bool, mS_str, mS_tuple, mS_list, mT_int, mT_bool, mT_str, mT_tuple, mT_list, mN_int, mN_bool, mN_str, mN_tuple, mN_list, anyT, anyF, Nat.zero_add, Nat.reduceAdd, Nat.reduceLeDiff, true_and]
  intro q hq
  refine collected_ok (P := [(0, p)]) (B := 30) (by omega) (fun y hy => by rw [List.mem_singleton.mp hy]; exact hp) (show 1 + 1 * 31 ≤ 1500 by decide) (show 1 < 60 by decide) (.inr ⟨q, rfl, Sto.upd_same⟩) ⟨S, Sto.le_new hq, hQ⟩
theorem hO : G0 "ONE" = some (fr 1 1) := rfl
theorem letter_ok (hk : 0 < k) (hQ : Q (.tup (pD [(1, (1, 1))])) S) : Γ k "letter_chance" [] S Q X := by
  cases k with
  | zero => omega
  | succ k =>
  refine gam (np := 0) (nn := 0) (b := b_letter_chance) rfl rfl ?_
  simp only [b_letter_chance, hO, wSs, wS, wT, wE, wEs, wO, wC, wI, wG, wGs, startD, List.map_cons, List.map_nil, List.length_cons, List.length_nil, List.replicate, List.cons_append, List.nil_append, List.append_nil, List.set_cons_zero, List.set_cons_succ, List.getElem?_cons_zero, List.getElem?_cons_succ, itT, wipeD, opAddI, opSubI, opMulI, opDivI, opModI, opPowI, opAddT, cmEq, cmNe, cmLt, cmLe, cmGt, cmGe, cmIn, eqI, eqS, inS2, truB, ixT0, ixT1, ixT2, ixT3, ixT4, ixT6, slcT, lenT, absI, intI, tupleT, listT, listRl, decide_true, decide_false, if_true, if_false, Bool.false_eq_true, reduceIte, decide_eq_true_eq, Bool.not_true, Bool.not_false, line, mI_int, mI_bool, mI_str, mI_tuple, mI_list, mB_int, mB_bool, mB_str, mB_tuple, mB_list, mS_int, mS_bool, mS_str, mS_tuple, mS_list, mT_int, mT_bool, mT_str, mT_tuple, mT_list, mN_int, mN_bool, mN_str, mN_tuple, mN_list, anyT, anyF, Nat.zero_add, Nat.reduceAdd, Nat.reduceLeDiff, true_and]
  exact ⟨S, Sto.le_refl, hQ⟩
theorem turned_ok {R : Tl} (hk : 1 < k) (hR : R.length ≤ 100) (hQ : ∀ p, S p = none → Q (.ref p) (S.upd p (.lst (pD (R.map fun y => (y.1, ngq y.2)))))) : Γ k "_law_turned" [.tup (pD R)] S Q X := by
  cases k with
  | zero => omega
  | succ k =>
  refine gam (np := 1) (nn := 3) (b := b__law_turned) rfl rfl ?_
  simp only [b__law_turned, wSs, wS, wT, wE, wEs, wO, wC, wI, wG, wGs, startD, List.map_cons, List.map_nil, List.length_cons, List.length_nil, List.replicate, List.cons_append, List.nil_append, List.append_nil, List.set_cons_zero, List.set_cons_succ, List.getElem?_cons_zero, List.getElem?_cons_succ, itT, wipeD, opAddI, opSubI, opMulI, opDivI, opModI, opPowI, opAddT, cmEq, cmNe, cmLt, cmLe, cmGt, cmGe, cmIn, eqI, eqS, inS2, truB, ixT0, ixT1, ixT2, ixT3, ixT4, ixT6, slcT, lenT, absI, intI, tupleT, listT, listRl, decide_true, decide_false, if_true, if_false, Bool.false_eq_true, reduceIte, decide_eq_true_eq, Bool.not_true, Bool.not_false, line, mI_int, mI_bool, mI_str, mI_tuple, mI_list, mB_int, mB_bool, mB_str, mB_tuple, mB_list, mS_int, mS_bool, mS_str, mS_tuple, mS_list, mT_int, mT_bool, mT_str, mT_tuple, mT_list, mN_int, mN_bool, mN_str, mN_tuple, mN_list, anyT, anyF, Nat.zero_add, Nat.reduceAdd, Nat.reduceLeDiff, true_and, pD_len]
  refine ⟨by omega, cmpL_pure (fun d => match d with | .tup [.int e, .tup [.int n, .int d]] => some (.tup [.int e, dq (ngq (n, d))]) | _ => none) trivial ?_ ?_⟩
  · intro d hd PP hPP
    unfold pD at hd
    obtain ⟨y, hy, rfl⟩ := List.mem_map.mp hd
    simp only [e__law_turned_1, dq, fr, wSs, wS, wT, wE, wEs, wO, wC, wI, wG, wGs, startD, List.map_cons, List.map_nil, List.length_cons, List.length_nil, List.replicate, List.cons_append, List.nil_append, List.append_nil, List.set_cons_zero, List.set_cons_succ, List.getElem?_cons_zero, List.getElem?_cons_succ, itT, wipeD, opAddI, opSubI, opMulI, opDivI, opModI, opPowI, opAddT, cmEq, cmNe, cmLt, cmLe, cmGt, cmGe, cmIn, eqI, eqS, inS2, truB, ixT0, ixT1, ixT2, ixT3, ixT4, ixT6, slcT, lenT, absI, intI, tupleT, listT, listRl, decide_true, decide_false, if_true, if_false, Bool.false_eq_true, reduceIte, decide_eq_true_eq, Bool.not_true, Bool.not_false, line, mI_int, mI_bool, mI_str, mI_tuple, mI_list, mB_int, mB_bool, mB_str, mB_tuple, mB_list, mS_int, mS_bool, mS_str, mS_tuple, mS_list, mT_int, mT_bool, mT_str, mT_tuple, mT_list, mN_int, mN_bool, mN_str, mN_tuple, mN_list, anyT, anyF, Nat.zero_add, Nat.reduceAdd, Nat.reduceLeDiff, true_and]
    exact hPP
  · have e : (pD R).filterMap (fun d => match d with | .tup [.int e, .tup [.int n, .int d]] => some (D.tup [.int e, dq (ngq (n, d))]) | _ => none) = pD (R.map fun y => (y.1, ngq y.2)) := by
      unfold pD
      rw [List.filterMap_map, List.map_map, ← List.filterMap_eq_map]
      rfl
    rw [e]
    intro p hp
    exact ⟨_, Sto.le_refl, hQ p hp⟩
def prod (P R : Tl) : Tl := P.flatMap fun y => R.map fun x => (y.1 + x.1, mulq y.2 x.2)
theorem mulq_ok {C : Nat} {p q : P2} (hp : Fq B p) (hq : Fq C q) : Fq (B + C) (mulq p q) := nq_ok (Int.mul_pos hp.pos hq.pos) (hp.sn.mul hq.sn) (hp.sd.mul hq.sd)
theorem prod_flat {P R : Tl} (i : Nat) (hi : i < P.length) : prod (P.take (i + 1)) R = prod (P.take i) R ++ R.map fun x => ((P[i]).1 + x.1, mulq (P[i]).2 x.2) := by
  unfold prod
  rw [List.take_succ_eq_append_getElem hi, List.flatMap_append]
  simp
theorem prod_len {P R : Tl} : (prod P R).length = P.length * R.length := by
  unfold prod
  induction P with
  | nil => simp
  | cons y P ih => rw [List.flatMap_cons, List.length_append, ih, List.length_map, List.length_cons, Nat.add_mul]; omega
theorem prod_el {P R : Tl} (hP : ∀ y ∈ P, Fq B y.2) (hR : ∀ y ∈ R, Fq B y.2) : ∀ y ∈ prod P R, Fq (B + B) y.2 := by
  intro y hy
  unfold prod at hy
  obtain ⟨a, ha, hy⟩ := List.mem_flatMap.mp hy
  obtain ⟨b, hb, rfl⟩ := List.mem_map.mp hy
  exact mulq_ok (hP a ha) (hR b hb)
theorem pD_get {P : Tl} {i : Nat} {d : D} (h : (pD P)[i]? = some d) : ∃ hi : i < P.length, d = .tup [.int (P[i]).1, dq (P[i]).2] := by
  have hi : i < P.length := by
    have := (List.getElem?_eq_some_iff.mp h).1
    rwa [pD_len] at this
  refine ⟨hi, ?_⟩
  unfold pD at h
  rw [List.getElem?_map, List.getElem?_eq_getElem hi] at h
  exact (Option.some.inj h).symm
theorem product_ok {P R : Tl} (hk : 5 < k) (hP : Pl 30 4 P) (hR : Pl 30 4 R) (hQ : Q (.tup (pD (coll (prod P R)))) S) : Γ k "chance_product" [.tup (pD P), .tup (pD R)] S Q X := by
  cases k with
  | zero => omega
  | succ k =>
  refine gam (np := 2) (nn := 7) (b := b_chance_product) rfl rfl ?_
  have h1 := hP.len
  have h2 := hR.len
  simp only [b_chance_product, wSs, wS, wT, wE, wEs, wO, wC, wI, wG, wGs, startD, List.map_cons, List.map_nil, List.length_cons, List.length_nil, List.replicate, List.cons_append, List.nil_append, List.append_nil, List.set_cons_zero, List.set_cons_succ, List.getElem?_cons_zero, List.getElem?_cons_succ, itT, wipeD, opAddI, opSubI, opMulI, opDivI, opModI, opPowI, opAddT, cmEq, cmNe, cmLt, cmLe, cmGt, cmGe, cmIn, eqI, eqS, inS2, truB, ixT0, ixT1, ixT2, ixT3, ixT4, ixT6, slcT, lenT, absI, intI, tupleT, listT, listRl, decide_true, decide_false, if_true, if_false, Bool.false_eq_true, reduceIte, decide_eq_true_eq, Bool.not_true, Bool.not_false, line, mI_int, mI_bool, mI_str, mI_tuple, mI_list, mB_int, mB_bool, mB_str, mB_tuple, mB_list, mS_int, mS_bool, mS_str, mS_tuple, mS_list, mT_int, mT_bool, mT_str, mT_tuple, mT_list, mN_int, mN_bool, mN_str, mN_tuple, mN_list, anyT, anyF, Nat.zero_add, Nat.reduceAdd, Nat.reduceLeDiff, true_and]
  intro p hp
  refine forL_inv (pD P) (fun i σ S' => ∃ z3 z4 z5 z6, σ = [some (.tup (pD P)), some (.tup (pD R)), some (.ref p), z3, z4, z5, z6] ∧ S.le S' ∧ S' p = some (.lst (pD (prod (P.take i) R)))) (fun _ _ _ _ => trivial) ?_ ?_ ⟨_, _, _, _, rfl, Sto.le_new hp, Sto.upd_same⟩
  · rintro i d σ S' NX hd ⟨z3, z4, z5, z6, rfl, g1, g2⟩ hX
    obtain ⟨hi, rfl⟩ := pD_get hd
    simp only [s_chance_product_2, wSs, wS, wT, wE, wEs, wO, wC, wI, wG, wGs, startD, List.map_cons, List.map_nil, List.length_cons, List.length_nil, List.replicate, List.cons_append, List.nil_append, List.append_nil, List.set_cons_zero, List.set_cons_succ, List.getElem?_cons_zero, List.getElem?_cons_succ, itT, wipeD, opAddI, opSubI, opMulI, opDivI, opModI, opPowI, opAddT, cmEq, cmNe, cmLt, cmLe, cmGt, cmGe, cmIn, eqI, eqS, inS2, truB, ixT0, ixT1, ixT2, ixT3, ixT4, ixT6, slcT, lenT, absI, intI, tupleT, listT, listRl, decide_true, decide_false, if_true, if_false, Bool.false_eq_true, reduceIte, decide_eq_true_eq, Bool.not_true, Bool.not_false, line, mI_int, mI_bool, mI_str, mI_tuple, mI_list, mB_int, mB_bool, mB_str, mB_tuple, mB_list, mS_int, mS_bool, mS_str, mS_tuple, mS_list, mT_int, mT_bool, mT_str, mT_tuple, mT_list, mN_int, mN_bool, mN_str, mN_tuple, mN_list, anyT, anyF, Nat.zero_add, Nat.reduceAdd, Nat.reduceLeDiff, true_and]
    refine forL_inv (pD R) (fun j σ S2 => ∃ z5 z6, σ = [some (.tup (pD P)), some (.tup (pD R)), some (.ref p), some (.int (P[i]).1), some (dq (P[i]).2), z5, z6] ∧ S.le S2 ∧ S2 p = some (.lst (pD (prod (P.take i) R ++ (R.take j).map fun x => ((P[i]).1 + x.1, mulq (P[i]).2 x.2))))) (fun _ _ _ _ => trivial) ?_ ?_ ⟨_, _, rfl, g1, by simpa using g2⟩
    · rintro j d2 σ S2 NX2 hd2 ⟨z5, z6, rfl, f1, f2⟩ hX2
      obtain ⟨hj, rfl⟩ := pD_get hd2
      simp only [s_chance_product_1, wSs, wS, wT, wE, wEs, wO, wC, wI, wG, wGs, startD, List.map_cons, List.map_nil, List.length_cons, List.length_nil, List.replicate, List.cons_append, List.nil_append, List.append_nil, List.set_cons_zero, List.set_cons_succ, List.getElem?_cons_zero, List.getElem?_cons_succ, itT, wipeD, opAddI, opSubI, opMulI, opDivI, opModI, opPowI, opAddT, cmEq, cmNe, cmLt, cmLe, cmGt, cmGe, cmIn, eqI, eqS, inS2, truB, ixT0, ixT1, ixT2, ixT3, ixT4, ixT6, slcT, lenT, absI, intI, tupleT, listT, listRl, decide_true, decide_false, if_true, if_false, Bool.false_eq_true, reduceIte, decide_eq_true_eq, Bool.not_true, Bool.not_false, line, mI_int, mI_bool, mI_str, mI_tuple, mI_list, mB_int, mB_bool, mB_str, mB_tuple, mB_list, mS_int, mS_bool, mS_str, mS_tuple, mS_list, mT_int, mT_bool, mT_str, mT_tuple, mT_list, mN_int, mN_bool, mN_str, mN_tuple, mN_list, anyT, anyF, Nat.zero_add, Nat.reduceAdd, Nat.reduceLeDiff, true_and, mtyA f2]
      refine timesq (by omega) ((hP.el _ (List.getElem_mem hi)).toFq.mono (by decide)) ((hR.el _ (List.getElem_mem hj)).toFq.mono (by decide)) ?_
      rw [appL f2]
      have hl : (pD (prod (P.take i) R ++ (R.take j).map fun x => ((P[i]).1 + x.1, mulq (P[i]).2 x.2))).length < 100 := by
        rw [pD_len, List.length_append, prod_len, List.length_map, List.length_take, List.length_take]
        have : min i P.length * R.length ≤ 4 * 4 := Nat.mul_le_mul (by omega) h2
        omega
      refine ⟨by have := Mi.line; omega, hX2 _ _ ⟨_, _, rfl, le_upd f1 hp, ?_⟩⟩
      rw [Sto.upd_same, List.take_succ_eq_append_getElem hj, List.map_append, ← List.append_assoc, ← pD_app (P := prod (P.take i) R ++ _)]
      rfl
    · rintro σ S2 ⟨z5, z6, rfl, f1, f2⟩
      rw [pD_len, List.take_length, ← prod_flat i hi] at f2
      exact hX _ _ ⟨_, _, _, _, rfl, f1, f2⟩
  · rintro σ S' ⟨z3, z4, z5, z6, rfl, g1, g2⟩
    rw [pD_len, List.take_length] at g2
    simp only [wSs, wS, wT, wE, wEs, wO, wC, wI, wG, wGs, startD, List.map_cons, List.map_nil, List.length_cons, List.length_nil, List.replicate, List.cons_append, List.nil_append, List.append_nil, List.set_cons_zero, List.set_cons_succ, List.getElem?_cons_zero, List.getElem?_cons_succ, itT, wipeD, opAddI, opSubI, opMulI, opDivI, opModI, opPowI, opAddT, cmEq, cmNe, cmLt, cmLe, cmGt, cmGe, cmIn, eqI, eqS, inS2, truB, ixT0, ixT1, ixT2, ixT3, ixT4, ixT6, slcT, lenT, absI, intI, tupleT, listT, listRl, decide_true, decide_false, if_true, if_false, Bool.false_eq_true, reduceIte, decide_eq_true_eq, Bool.not_true, Bool.not_false, line, mI_int, mI_bool, mI_str, mI_tuple, mI_list, mB_int, mB_bool, mB_str, mB_tuple, mB_list, mS_int, mS_bool, mS_str, mS_tuple, mS_list, mT_int, mT_bool, mT_str, mT_tuple, mT_list, mN_int, mN_bool, mN_str, mN_tuple, mN_list, anyT, anyF, Nat.zero_add, Nat.reduceAdd, Nat.reduceLeDiff, true_and]
    have hl : (prod P R).length ≤ 16 := by rw [prod_len]; exact Nat.mul_le_mul h1 h2
    refine collected_ok (P := prod P R) (B := 60) (by omega) (prod_el (fun y hy => (hP.el y hy).toFq) fun y hy => (hR.el y hy).toFq) (size_ok hl (by decide)) (by omega) (.inr ⟨p, rfl, g2⟩) ⟨S, g1, hQ⟩
end K32
namespace K32
open PySem PySem.Spec PyProof.Rows L2 Mi
variable {k : Nat} {S : Sto} {Q : KD} {X : KX} {B : Nat}
theorem lproduct_ok {P R : Tl} (hk : 5 < k) (hP : Pl 30 4 P) (hR : Pl 30 4 R) (hQ : Q (.tup (pD (coll (prod P R)))) S) : Γ k "_law_product" [.tup (pD P), .tup (pD R)] S Q X := by
  cases k with
  | zero => omega
  | succ k =>
  refine gam (np := 2) (nn := 7) (b := b__law_product) rfl rfl ?_
  have h1 := hP.len
  have h2 := hR.len
  simp only [b__law_product, wSs, wS, wT, wE, wEs, wO, wC, wI, wG, wGs, startD, List.map_cons, List.map_nil, List.length_cons, List.length_nil, List.replicate, List.cons_append, List.nil_append, List.append_nil, List.set_cons_zero, List.set_cons_succ, List.getElem?_cons_zero, List.getElem?_cons_succ, itT, wipeD, opAddI, opSubI, opMulI, opDivI, opModI, opPowI, opAddT, cmEq, cmNe, cmLt, cmLe, cmGt, cmGe, cmIn, eqI, eqS, inS2, truB, ixT0, ixT1, ixT2, ixT3, ixT4, ixT6, slcT, lenT, absI, intI, tupleT, listT, listRl, decide_true, decide_false, if_true, if_false, Bool.false_eq_true, reduceIte, decide_eq_true_eq, Bool.not_true, Bool.not_false, line, mI_int, mI_bool, mI_str, mI_tuple, mI_list, mB_int, mB_bool, mB_str, mB_tuple, mB_list, mS_int, mS_bool, mS_str, mS_tuple, mS_list, mT_int, mT_bool, mT_str, mT_tuple, mT_list, mN_int, mN_bool, mN_str, mN_tuple, mN_list, anyT, anyF, Nat.zero_add, Nat.reduceAdd, Nat.reduceLeDiff, true_and]
  intro p hp
  refine forL_inv (pD P) (fun i σ S' => ∃ z3 z4 z5 z6, σ = [some (.tup (pD P)), some (.tup (pD R)), some (.ref p), z3, z4, z5, z6] ∧ S.le S' ∧ S' p = some (.lst (pD (prod (P.take i) R)))) (fun _ _ _ _ => trivial) ?_ ?_ ⟨_, _, _, _, rfl, Sto.le_new hp, Sto.upd_same⟩
  · rintro i d σ S' NX hd ⟨z3, z4, z5, z6, rfl, g1, g2⟩ hX
    obtain ⟨hi, rfl⟩ := pD_get hd
    simp only [s__law_product_2, wSs, wS, wT, wE, wEs, wO, wC, wI, wG, wGs, startD, List.map_cons, List.map_nil, List.length_cons, List.length_nil, List.replicate, List.cons_append, List.nil_append, List.append_nil, List.set_cons_zero, List.set_cons_succ, List.getElem?_cons_zero, List.getElem?_cons_succ, itT, wipeD, opAddI, opSubI, opMulI, opDivI, opModI, opPowI, opAddT, cmEq, cmNe, cmLt, cmLe, cmGt, cmGe, cmIn, eqI, eqS, inS2, truB, ixT0, ixT1, ixT2, ixT3, ixT4, ixT6, slcT, lenT, absI, intI, tupleT, listT, listRl, decide_true, decide_false, if_true, if_false, Bool.false_eq_true, reduceIte, decide_eq_true_eq, Bool.not_true, Bool.not_false, line, mI_int, mI_bool, mI_str, mI_tuple, mI_list, mB_int, mB_bool, mB_str, mB_tuple, mB_list, mS_int, mS_bool, mS_str, mS_tuple, mS_list, mT_int, mT_bool, mT_str, mT_tuple, mT_list, mN_int, mN_bool, mN_str, mN_tuple, mN_list, anyT, anyF, Nat.zero_add, Nat.reduceAdd, Nat.reduceLeDiff, true_and]
    refine forL_inv (pD R) (fun j σ S2 => ∃ z5 z6, σ = [some (.tup (pD P)), some (.tup (pD R)), some (.ref p), some (.int (P[i]).1), some (dq (P[i]).2), z5, z6] ∧ S.le S2 ∧ S2 p = some (.lst (pD (prod (P.take i) R ++ (R.take j).map fun x => ((P[i]).1 + x.1, mulq (P[i]).2 x.2))))) (fun _ _ _ _ => trivial) ?_ ?_ ⟨_, _, rfl, g1, by simpa using g2⟩
    · rintro j d2 σ S2 NX2 hd2 ⟨z5, z6, rfl, f1, f2⟩ hX2
      obtain ⟨hj, rfl⟩ := pD_get hd2
      simp only [s__law_product_1, wSs, wS, wT, wE, wEs, wO, wC, wI, wG, wGs, startD, List.map_cons, List.map_nil, List.length_cons, List.length_nil, List.replicate, List.cons_append, List.nil_append, List.append_nil, List.set_cons_zero, List.set_cons_succ, List.getElem?_cons_zero, List.getElem?_cons_succ, itT, wipeD, opAddI, opSubI, opMulI, opDivI, opModI, opPowI, opAddT, cmEq, cmNe, cmLt, cmLe, cmGt, cmGe, cmIn, eqI, eqS, inS2, truB, ixT0, ixT1, ixT2, ixT3, ixT4, ixT6, slcT, lenT, absI, intI, tupleT, listT, listRl, decide_true, decide_false, if_true, if_false, Bool.false_eq_true, reduceIte, decide_eq_true_eq, Bool.not_true, Bool.not_false, line, mI_int, mI_bool, mI_str, mI_tuple, mI_list, mB_int, mB_bool, mB_str, mB_tuple, mB_list, mS_int, mS_bool, mS_str, mS_tuple, mS_list, mT_int, mT_bool, mT_str, mT_tuple, mT_list, mN_int, mN_bool, mN_str, mN_tuple, mN_list, anyT, anyF, Nat.zero_add, Nat.reduceAdd, Nat.reduceLeDiff, true_and, mtyA f2]
      refine ltimesq (by omega) ((hP.el _ (List.getElem_mem hi)).toFq.mono (by decide)) ((hR.el _ (List.getElem_mem hj)).toFq.mono (by decide)) ?_
      rw [appL f2]
      have hl : (pD (prod (P.take i) R ++ (R.take j).map fun x => ((P[i]).1 + x.1, mulq (P[i]).2 x.2))).length < 100 := by
        rw [pD_len, List.length_append, prod_len, List.length_map, List.length_take, List.length_take]
        have : min i P.length * R.length ≤ 4 * 4 := Nat.mul_le_mul (by omega) h2
        omega
      refine ⟨by have := Mi.line; omega, hX2 _ _ ⟨_, _, rfl, le_upd f1 hp, ?_⟩⟩
      rw [Sto.upd_same, List.take_succ_eq_append_getElem hj, List.map_append, ← List.append_assoc, ← pD_app (P := prod (P.take i) R ++ _)]
      rfl
    · rintro σ S2 ⟨z5, z6, rfl, f1, f2⟩
      rw [pD_len, List.take_length, ← prod_flat i hi] at f2
      exact hX _ _ ⟨_, _, _, _, rfl, f1, f2⟩
  · rintro σ S' ⟨z3, z4, z5, z6, rfl, g1, g2⟩
    rw [pD_len, List.take_length] at g2
    simp only [wSs, wS, wT, wE, wEs, wO, wC, wI, wG, wGs, startD, List.map_cons, List.map_nil, List.length_cons, List.length_nil, List.replicate, List.cons_append, List.nil_append, List.append_nil, List.set_cons_zero, List.set_cons_succ, List.getElem?_cons_zero, List.getElem?_cons_succ, itT, wipeD, opAddI, opSubI, opMulI, opDivI, opModI, opPowI, opAddT, cmEq, cmNe, cmLt, cmLe, cmGt, cmGe, cmIn, eqI, eqS, inS2, truB, ixT0, ixT1, ixT2, ixT3, ixT4, ixT6, slcT, lenT, absI, intI, tupleT, listT, listRl, decide_true, decide_false, if_true, if_false, Bool.false_eq_true, reduceIte, decide_eq_true_eq, Bool.not_true, Bool.not_false, line, mI_int, mI_bool, mI_str, mI_tuple, mI_list, mB_int, mB_bool, mB_str, mB_tuple, mB_list, mS_int, mS_bool, mS_str, mS_tuple, mS_list, mT_int, mT_bool, mT_str, mT_tuple, mT_list, mN_int, mN_bool, mN_str, mN_tuple, mN_list, anyT, anyF, Nat.zero_add, Nat.reduceAdd, Nat.reduceLeDiff, true_and]
    have hl : (prod P R).length ≤ 16 := by rw [prod_len]; exact Nat.mul_le_mul h1 h2
    refine lcollected_ok (P := prod P R) (B := 60) (by omega) (prod_el (fun y hy => (hP.el y hy).toFq) fun y hy => (hR.el y hy).toFq) (size_ok hl (by decide)) (by omega) (.inr ⟨p, rfl, g2⟩) ⟨S, g1, hQ⟩
theorem nq_scale {g n d : Int} (hg : 0 < g) : nq (g * n) (g * d) = nq n d := by
  unfold nq
  rw [Int.gcd_mul_left, Int.natCast_mul, Int.natAbs_of_nonneg (Int.le_of_lt hg), Int.mul_ediv_mul_of_pos _ _ hg, Int.mul_ediv_mul_of_pos _ _ hg]
theorem mulq_nq {n d : Int} {q : P2} (hd : 0 < d) : mulq (nq n d) q = nq (n * q.1) (d * q.2) := by
  have hg := gcd_lt (n := n) hd
  have e1 : (Int.gcd n d : Int) * (nq n d).1 = n := Int.mul_ediv_cancel' (Int.gcd_dvd_left ..)
  have e2 : (Int.gcd n d : Int) * (nq n d).2 = d := Int.mul_ediv_cancel' (Int.gcd_dvd_right ..)
  unfold mulq
  rw [← nq_scale (g := (Int.gcd n d : Int)) hg.1, ← Int.mul_assoc, ← Int.mul_assoc, e1, e2]
def powq (a f : P2) : Nat → P2
  | 0 => a
  | e + 1 => mulq (powq a f e) f
theorem powq_eq {a f : P2} (ha : Nm B a) (hf : 0 < f.2) : ∀ e, powq a f e = nq (a.1 * f.1 ^ e) (a.2 * f.2 ^ e)
  | 0 => by rw [Int.pow_zero, Int.pow_zero, Int.mul_one, Int.mul_one, nq_id ha.low]; rfl
  | e + 1 => by
    show mulq (powq a f e) f = _
    rw [powq_eq ha hf e, mulq_nq (Int.mul_pos ha.pos (Int.pow_pos hf)), Int.pow_succ, Int.pow_succ, Int.mul_assoc, Int.mul_assoc]
theorem powq_ok {a f : P2} (ha : Fq 30 a) (hf : Fq 5 f) : ∀ e, Fq (30 + 5 * e) (powq a f e)
  | 0 => ha
  | e + 1 => (mulq_ok (B := 30 + 5 * e) (powq_ok ha hf e) hf).mono (by omega)
def valq (f : P2) (P : Tl) : P2 := P.foldl (fun t y => addq t (powq y.2 f y.1.toNat)) (0, 1)
theorem val_take {f : P2} {P : Tl} {i : Nat} (hi : i < P.length) : valq f (P.take (i + 1)) = addq (valq f (P.take i)) (powq (P[i]).2 f (P[i]).1.toNat) := by
  unfold valq
  rw [List.take_succ_eq_append_getElem hi, List.foldl_append]
  rfl
theorem val_ok {f : P2} {P : Tl} (hf : Fq 5 f) (hP : ∀ y ∈ P, Fq 30 y.2) (he : ∀ y ∈ P, 0 ≤ y.1 ∧ y.1 ≤ 6) : ∀ i, i ≤ P.length → Fq (1 + i * 61) (valq f (P.take i)) := by
  intro i
  induction i with
  | zero => intro _; exact (⟨by decide, by unfold Sz; decide, by unfold Sz; decide⟩ : Fq 1 (0, 1))
  | succ i ih =>
    intro hi
    rw [val_take (by omega)]
    have h1 := hP _ (List.getElem_mem (by omega : i < P.length))
    have h2 := he _ (List.getElem_mem (by omega : i < P.length))
    refine (addq_ok (ih (by omega)) ((powq_ok h1 hf _).mono (C := 60) (by omega))).mono (by omega)
theorem value_ok {f : P2} {P : Tl} (hk : 5 < k) (hf : Fq 5 f) (hP : Pl 30 4 P) (he : ∀ y ∈ P, 0 ≤ y.1 ∧ y.1 ≤ 6) (hQ : Q (dq (valq f P)) S) : Γ k "chance_value" [.tup (pD P), dq f] S Q X := by
  cases k with
  | zero => omega
  | succ k =>
  refine gam (np := 2) (nn := 6) (b := b_chance_value) rfl rfl ?_
  have h1 := hP.len
  simp only [b_chance_value, wSs, wS, wT, wE, wEs, wO, wC, wI, wG, wGs, startD, List.map_cons, List.map_nil, List.length_cons, List.length_nil, List.replicate, List.cons_append, List.nil_append, List.append_nil, List.set_cons_zero, List.set_cons_succ, List.getElem?_cons_zero, List.getElem?_cons_succ, itT, wipeD, opAddI, opSubI, opMulI, opDivI, opModI, opPowI, opAddT, cmEq, cmNe, cmLt, cmLe, cmGt, cmGe, cmIn, eqI, eqS, inS2, truB, ixT0, ixT1, ixT2, ixT3, ixT4, ixT6, slcT, lenT, absI, intI, tupleT, listT, listRl, decide_true, decide_false, if_true, if_false, Bool.false_eq_true, reduceIte, decide_eq_true_eq, Bool.not_true, Bool.not_false, line, mI_int, mI_bool, mI_str, mI_tuple, mI_list, mB_int, mB_bool, mB_str, mB_tuple, mB_list, mS_int, mS_bool, mS_str, mS_tuple, mS_list, mT_int, mT_bool, mT_str, mT_tuple, mT_list, mN_int, mN_bool, mN_str, mN_tuple, mN_list, anyT, anyF, Nat.zero_add, Nat.reduceAdd, Nat.reduceLeDiff, true_and, hZ]
  refine forL_inv (pD P) (fun i σ S' => ∃ z3 z4 z5, σ = [some (.tup (pD P)), some (dq f), some (dq (valq f (P.take i))), z3, z4, z5] ∧ S' = S) (fun _ _ _ _ => trivial) ?_ ?_ ⟨_, _, _, rfl, rfl⟩
  · rintro i d σ S' NX hd ⟨z3, z4, z5, rfl, rfl⟩ hX
    obtain ⟨hi, rfl⟩ := pD_get hd
    have hy := he _ (List.getElem_mem hi)
    have hfq := (hP.el _ (List.getElem_mem hi)).toFq
    simp only [s_chance_value_2, wSs, wS, wT, wE, wEs, wO, wC, wI, wG, wGs, startD, List.map_cons, List.map_nil, List.length_cons, List.length_nil, List.replicate, List.cons_append, List.nil_append, List.append_nil, List.set_cons_zero, List.set_cons_succ, List.getElem?_cons_zero, List.getElem?_cons_succ, itT, wipeD, opAddI, opSubI, opMulI, opDivI, opModI, opPowI, opAddT, cmEq, cmNe, cmLt, cmLe, cmGt, cmGe, cmIn, eqI, eqS, inS2, truB, ixT0, ixT1, ixT2, ixT3, ixT4, ixT6, slcT, lenT, absI, intI, tupleT, listT, listRl, decide_true, decide_false, if_true, if_false, Bool.false_eq_true, reduceIte, decide_eq_true_eq, Bool.not_true, Bool.not_false, line, mI_int, mI_bool, mI_str, mI_tuple, mI_list, mB_int, mB_bool, mB_str, mB_tuple, mB_list, mS_int, mS_bool, mS_str, mS_tuple, mS_list, mT_int, mT_bool, mT_str, mT_tuple, mT_list, mN_int, mN_bool, mN_str, mN_tuple, mN_list, anyT, anyF, Nat.zero_add, Nat.reduceAdd, Nat.reduceLeDiff, true_and]
    refine ⟨⟨by omega, by omega⟩, ?_⟩
    refine forL_inv (rngD 0 (P[i]).1.toNat) (fun j σ S2 => ∃ z5, σ = [some (.tup (pD P)), some (dq f), some (dq (valq f (P.take i))), some (.int (P[i]).1), some (dq (powq (P[i]).2 f j)), z5] ∧ S2 = S') (fun _ _ _ _ => trivial) ?_ ?_ ⟨_, rfl, rfl⟩
    · rintro j d2 σ S2 NX2 hd2 ⟨z5, rfl, rfl⟩ hX2
      have hj : j < (P[i]).1.toNat := by
        have := (List.getElem?_eq_some_iff.mp hd2).1
        simpa [rngD] using this
      simp only [s_chance_value_1, wSs, wS, wT, wE, wEs, wO, wC, wI, wG, wGs, startD, List.map_cons, List.map_nil, List.length_cons, List.length_nil, List.replicate, List.cons_append, List.nil_append, List.append_nil, List.set_cons_zero, List.set_cons_succ, List.getElem?_cons_zero, List.getElem?_cons_succ, itT, wipeD, opAddI, opSubI, opMulI, opDivI, opModI, opPowI, opAddT, cmEq, cmNe, cmLt, cmLe, cmGt, cmGe, cmIn, eqI, eqS, inS2, truB, ixT0, ixT1, ixT2, ixT3, ixT4, ixT6, slcT, lenT, absI, intI, tupleT, listT, listRl, decide_true, decide_false, if_true, if_false, Bool.false_eq_true, reduceIte, decide_eq_true_eq, Bool.not_true, Bool.not_false, line, mI_int, mI_bool, mI_str, mI_tuple, mI_list, mB_int, mB_bool, mB_str, mB_tuple, mB_list, mS_int, mS_bool, mS_str, mS_tuple, mS_list, mT_int, mT_bool, mT_str, mT_tuple, mT_list, mN_int, mN_bool, mN_str, mN_tuple, mN_list, anyT, anyF, Nat.zero_add, Nat.reduceAdd, Nat.reduceLeDiff, true_and]
      refine timesq (by omega) ((powq_ok hfq hf j).mono (by omega)) (hf.mono (by decide)) ?_
      exact hX2 _ _ ⟨_, rfl, rfl⟩
    · rintro σ S2 ⟨z5, rfl, rfl⟩
      have e : (rngD 0 (P[i]).1.toNat).length = (P[i]).1.toNat := by simp [rngD]
      rw [e]
      simp only [wSs, wS, wT, wE, wEs, wO, wC, wI, wG, wGs, startD, List.map_cons, List.map_nil, List.length_cons, List.length_nil, List.replicate, List.cons_append, List.nil_append, List.append_nil, List.set_cons_zero, List.set_cons_succ, List.getElem?_cons_zero, List.getElem?_cons_succ, itT, wipeD, opAddI, opSubI, opMulI, opDivI, opModI, opPowI, opAddT, cmEq, cmNe, cmLt, cmLe, cmGt, cmGe, cmIn, eqI, eqS, inS2, truB, ixT0, ixT1, ixT2, ixT3, ixT4, ixT6, slcT, lenT, absI, intI, tupleT, listT, listRl, decide_true, decide_false, if_true, if_false, Bool.false_eq_true, reduceIte, decide_eq_true_eq, Bool.not_true, Bool.not_false, line, mI_int, mI_bool, mI_str, mI_tuple, mI_list, mB_int, mB_bool, mB_str, mB_tuple, mB_list, mS_int, mS_bool, mS_str, mS_tuple, mS_list, mT_int, mT_bool, mT_str, mT_tuple, mT_list, mN_int, mN_bool, mN_str, mN_tuple, mN_list, anyT, anyF, Nat.zero_add, Nat.reduceAdd, Nat.reduceLeDiff, true_and]
      have hv := val_ok hf (fun y hy => (hP.el y hy).toFq) he i (by omega)
      refine plusq (by omega) (hv.mono (by omega)) ((powq_ok hfq hf _).mono (by omega)) ?_
      rw [← val_take hi]
      exact hX _ _ ⟨_, _, _, rfl, rfl⟩
  · rintro σ S' ⟨z3, z4, z5, rfl, rfl⟩
    rw [pD_len, List.take_length]
    simp only [wSs, wS, wT, wE, wEs, wO, wC, wI, wG, wGs, startD, List.map_cons, List.map_nil, List.length_cons, List.length_nil, List.replicate, List.cons_append, List.nil_append, List.append_nil, List.set_cons_zero, List.set_cons_succ, List.getElem?_cons_zero, List.getElem?_cons_succ, itT, wipeD, opAddI, opSubI, opMulI, opDivI, opModI, opPowI, opAddT, cmEq, cmNe, cmLt, cmLe, cmGt, cmGe, cmIn, eqI, eqS, inS2, truB, ixT0, ixT1, ixT2, ixT3, ixT4, ixT6, slcT, lenT, absI, intI, tupleT, listT, listRl, decide_true, decide_false, if_true, if_false, Bool.false_eq_true, reduceIte, decide_eq_true_eq, Bool.not_true, Bool.not_false, line, mI_int, mI_bool, mI_str, mI_tuple, mI_list, mB_int, mB_bool, mB_str, mB_tuple, mB_list, mS_int, mS_bool, mS_str, mS_tuple, mS_list, mT_int, mT_bool, mT_str, mT_tuple, mT_list, mN_int, mN_bool, mN_str, mN_tuple, mN_list, anyT, anyF, Nat.zero_add, Nat.reduceAdd, Nat.reduceLeDiff, true_and]
    exact ⟨S', Sto.le_refl, hQ⟩
end K32
namespace K32
open PySem PySem.Spec PyProof.Rows L2 Mi
variable {k : Nat} {S : Sto} {Q : KD} {X : KX} {B : Nat}
theorem pow_sz {x : Int} (h : Sz B x) : ∀ e : Nat, Sz (1 + B * e) (x ^ e)
  | 0 => by unfold Sz; simp
  | e + 1 => by
    rw [Int.pow_succ]
    exact ((pow_sz h e).mul h).mono (by rw [Nat.mul_succ]; omega)
theorem power_ok {f : P2} {e : Int} (hk : 0 < k) (hf : Fq 5 f) (h0 : 0 ≤ e) (h6 : e ≤ 6) (hQ : Q (fr (f.1 ^ e.toNat) (f.2 ^ e.toNat)) S) : Γ k "_law_power" [dq f, .int e] S Q X := by
  cases k with
  | zero => omega
  | succ k =>
  refine gam (np := 2) (nn := 5) (b := b__law_power) rfl rfl ?_
  simp only [b__law_power, wSs, wS, wT, wE, wEs, wO, wC, wI, wG, wGs, startD, List.map_cons, List.map_nil, List.length_cons, List.length_nil, List.replicate, List.cons_append, List.nil_append, List.append_nil, List.set_cons_zero, List.set_cons_succ, List.getElem?_cons_zero, List.getElem?_cons_succ, itT, wipeD, opAddI, opSubI, opMulI, opDivI, opModI, opPowI, opAddT, cmEq, cmNe, cmLt, cmLe, cmGt, cmGe, cmIn, eqI, eqS, inS2, truB, ixT0, ixT1, ixT2, ixT3, ixT4, ixT6, slcT, lenT, absI, intI, tupleT, listT, listRl, decide_true, decide_false, if_true, if_false, Bool.false_eq_true, reduceIte, decide_eq_true_eq, Bool.not_true, Bool.not_false, line, mI_int, mI_bool, mI_str, mI_tuple, mI_list, mB_int, mB_bool, mB_str, mB_tuple, mB_list, mS_int, mS_bool, mS_str, mS_tuple, mS_list, mT_int, mT_bool, mT_str, mT_tuple, mT_list, mN_int, mN_bool, mN_str, mN_tuple, mN_list, anyT, anyF, Nat.zero_add, Nat.reduceAdd, Nat.reduceLeDiff, true_and]
  refine ⟨⟨by omega, by omega⟩, ?_⟩
  refine forL_inv (rngD 0 e.toNat) (fun j σ S2 => ∃ z, σ = [some (dq f), some (.int e), some (.int (f.1 ^ j)), some (.int (f.2 ^ j)), z] ∧ S2 = S) (fun _ _ _ _ => trivial) ?_ ?_ ⟨none, by rw [Int.pow_zero, Int.pow_zero], rfl⟩
  · rintro j d2 σ S2 NX2 hd2 ⟨z, rfl, rfl⟩ hX2
    have hj : j < e.toNat := by
      have := (List.getElem?_eq_some_iff.mp hd2).1
      simpa [rngD] using this
    simp only [s__law_power_1, dq, fr, wSs, wS, wT, wE, wEs, wO, wC, wI, wG, wGs, startD, List.map_cons, List.map_nil, List.length_cons, List.length_nil, List.replicate, List.cons_append, List.nil_append, List.append_nil, List.set_cons_zero, List.set_cons_succ, List.getElem?_cons_zero, List.getElem?_cons_succ, itT, wipeD, opAddI, opSubI, opMulI, opDivI, opModI, opPowI, opAddT, cmEq, cmNe, cmLt, cmLe, cmGt, cmGe, cmIn, eqI, eqS, inS2, truB, ixT0, ixT1, ixT2, ixT3, ixT4, ixT6, slcT, lenT, absI, intI, tupleT, listT, listRl, decide_true, decide_false, if_true, if_false, Bool.false_eq_true, reduceIte, decide_eq_true_eq, Bool.not_true, Bool.not_false, line, mI_int, mI_bool, mI_str, mI_tuple, mI_list, mB_int, mB_bool, mB_str, mB_tuple, mB_list, mS_int, mS_bool, mS_str, mS_tuple, mS_list, mT_int, mT_bool, mT_str, mT_tuple, mT_list, mN_int, mN_bool, mN_str, mN_tuple, mN_list, anyT, anyF, Nat.zero_add, Nat.reduceAdd, Nat.reduceLeDiff, true_and]
    have m1 := pow_sz hf.sn j
    have m2 := pow_sz hf.sd j
    refine ⟨(m1.mono (n := 100) (by omega)).cm hf.sn, (m2.mono (n := 100) (by omega)).cm hf.sd, ?_⟩
    rw [← Int.pow_succ, ← Int.pow_succ]
    exact hX2 _ _ ⟨_, rfl, rfl⟩
  · rintro σ S2 ⟨z, rfl, rfl⟩
    have e1 : (rngD 0 e.toNat).length = e.toNat := by simp [rngD]
    rw [e1]
    simp only [wSs, wS, wT, wE, wEs, wO, wC, wI, wG, wGs, startD, List.map_cons, List.map_nil, List.length_cons, List.length_nil, List.replicate, List.cons_append, List.nil_append, List.append_nil, List.set_cons_zero, List.set_cons_succ, List.getElem?_cons_zero, List.getElem?_cons_succ, itT, wipeD, opAddI, opSubI, opMulI, opDivI, opModI, opPowI, opAddT, cmEq, cmNe, cmLt, cmLe, cmGt, cmGe, cmIn, eqI, eqS, inS2, truB, ixT0, ixT1, ixT2, ixT3, ixT4, ixT6, slcT, lenT, absI, intI, tupleT, listT, listRl, decide_true, decide_false, if_true, if_false, Bool.false_eq_true, reduceIte, decide_eq_true_eq, Bool.not_true, Bool.not_false, line, mI_int, mI_bool, mI_str, mI_tuple, mI_list, mB_int, mB_bool, mB_str, mB_tuple, mB_list, mS_int, mS_bool, mS_str, mS_tuple, mS_list, mT_int, mT_bool, mT_str, mT_tuple, mT_list, mN_int, mN_bool, mN_str, mN_tuple, mN_list, anyT, anyF, Nat.zero_add, Nat.reduceAdd, Nat.reduceLeDiff, true_and]
    exact ⟨S2, Sto.le_refl, hQ⟩
theorem lvalue_ok {f : P2} {P : Tl} (hk : 5 < k) (hf : Fq 5 f) (hP : Pl 30 4 P) (he : ∀ y ∈ P, 0 ≤ y.1 ∧ y.1 ≤ 6) (hQ : Q (dq (valq f P)) S) : Γ k "_law_chance" [.tup (pD P), dq f] S Q X := by
  cases k with
  | zero => omega
  | succ k =>
  refine gam (np := 2) (nn := 5) (b := b__law_chance) rfl rfl ?_
  have h1 := hP.len
  simp only [b__law_chance, wSs, wS, wT, wE, wEs, wO, wC, wI, wG, wGs, startD, List.map_cons, List.map_nil, List.length_cons, List.length_nil, List.replicate, List.cons_append, List.nil_append, List.append_nil, List.set_cons_zero, List.set_cons_succ, List.getElem?_cons_zero, List.getElem?_cons_succ, itT, wipeD, opAddI, opSubI, opMulI, opDivI, opModI, opPowI, opAddT, cmEq, cmNe, cmLt, cmLe, cmGt, cmGe, cmIn, eqI, eqS, inS2, truB, ixT0, ixT1, ixT2, ixT3, ixT4, ixT6, slcT, lenT, absI, intI, tupleT, listT, listRl, decide_true, decide_false, if_true, if_false, Bool.false_eq_true, reduceIte, decide_eq_true_eq, Bool.not_true, Bool.not_false, line, mI_int, mI_bool, mI_str, mI_tuple, mI_list, mB_int, mB_bool, mB_str, mB_tuple, mB_list, mS_int, mS_bool, mS_str, mS_tuple, mS_list, mT_int, mT_bool, mT_str, mT_tuple, mT_list, mN_int, mN_bool, mN_str, mN_tuple, mN_list, anyT, anyF, Nat.zero_add, Nat.reduceAdd, Nat.reduceLeDiff, true_and]
  refine forL_inv (pD P) (fun i σ S' => ∃ z3 z4, σ = [some (.tup (pD P)), some (dq f), some (dq (valq f (P.take i))), z3, z4] ∧ S' = S) (fun _ _ _ _ => trivial) ?_ ?_ ⟨_, _, rfl, rfl⟩
  · rintro i d σ S' NX hd ⟨z3, z4, rfl, rfl⟩ hX
    obtain ⟨hi, rfl⟩ := pD_get hd
    have hy := he _ (List.getElem_mem hi)
    have hfq := (hP.el _ (List.getElem_mem hi)).toFq
    simp only [s__law_chance_1, wSs, wS, wT, wE, wEs, wO, wC, wI, wG, wGs, startD, List.map_cons, List.map_nil, List.length_cons, List.length_nil, List.replicate, List.cons_append, List.nil_append, List.append_nil, List.set_cons_zero, List.set_cons_succ, List.getElem?_cons_zero, List.getElem?_cons_succ, itT, wipeD, opAddI, opSubI, opMulI, opDivI, opModI, opPowI, opAddT, cmEq, cmNe, cmLt, cmLe, cmGt, cmGe, cmIn, eqI, eqS, inS2, truB, ixT0, ixT1, ixT2, ixT3, ixT4, ixT6, slcT, lenT, absI, intI, tupleT, listT, listRl, decide_true, decide_false, if_true, if_false, Bool.false_eq_true, reduceIte, decide_eq_true_eq, Bool.not_true, Bool.not_false, line, mI_int, mI_bool, mI_str, mI_tuple, mI_list, mB_int, mB_bool, mB_str, mB_tuple, mB_list, mS_int, mS_bool, mS_str, mS_tuple, mS_list, mT_int, mT_bool, mT_str, mT_tuple, mT_list, mN_int, mN_bool, mN_str, mN_tuple, mN_list, anyT, anyF, Nat.zero_add, Nat.reduceAdd, Nat.reduceLeDiff, true_and]
    refine power_ok (by omega) hf hy.1 hy.2 ?_
    have hpw : Fq 100 (f.1 ^ (P[i]).1.toNat, f.2 ^ (P[i]).1.toNat) := ⟨Int.pow_pos hf.pos, (pow_sz hf.sn _).mono (by omega), (pow_sz hf.sd _).mono (by omega)⟩
    refine ltimesq (q := (f.1 ^ (P[i]).1.toNat, f.2 ^ (P[i]).1.toNat)) (by omega) (hfq.mono (by decide)) (hpw.mono (by decide)) ?_
    have e1 : mulq (P[i]).2 (f.1 ^ (P[i]).1.toNat, f.2 ^ (P[i]).1.toNat) = powq (P[i]).2 f (P[i]).1.toNat := (powq_eq (hP.el _ (List.getElem_mem hi)) hf.pos _).symm
    rw [e1]
    have hv := val_ok hf (fun y hy => (hP.el y hy).toFq) he i (by omega)
    refine lplusq (by omega) (hv.mono (by omega)) ((powq_ok hfq hf _).mono (by omega)) ?_
    rw [← val_take hi]
    exact hX _ _ ⟨_, _, rfl, rfl⟩
  · rintro σ S' ⟨z3, z4, rfl, rfl⟩
    rw [pD_len, List.take_length]
    simp only [wSs, wS, wT, wE, wEs, wO, wC, wI, wG, wGs, startD, List.map_cons, List.map_nil, List.length_cons, List.length_nil, List.replicate, List.cons_append, List.nil_append, List.append_nil, List.set_cons_zero, List.set_cons_succ, List.getElem?_cons_zero, List.getElem?_cons_succ, itT, wipeD, opAddI, opSubI, opMulI, opDivI, opModI, opPowI, opAddT, cmEq, cmNe, cmLt, cmLe, cmGt, cmGe, cmIn, eqI, eqS, inS2, truB, ixT0, ixT1, ixT2, ixT3, ixT4, ixT6, slcT, lenT, absI, intI, tupleT, listT, listRl, decide_true, decide_false, if_true, if_false, Bool.false_eq_true, reduceIte, decide_eq_true_eq, Bool.not_true, Bool.not_false, line, mI_int, mI_bool, mI_str, mI_tuple, mI_list, mB_int, mB_bool, mB_str, mB_tuple, mB_list, mS_int, mS_bool, mS_str, mS_tuple, mS_list, mT_int, mT_bool, mT_str, mT_tuple, mT_list, mN_int, mN_bool, mN_str, mN_tuple, mN_list, anyT, anyF, Nat.zero_add, Nat.reduceAdd, Nat.reduceLeDiff, true_and]
    exact ⟨S', Sto.le_refl, hQ⟩
end K32
namespace K32
open PySem PySem.Spec PyProof.Rows L2 Mi
variable {k : Nat} {S : Sto} {Q : KD} {X : KX} {B : Nat}
theorem coll_mem {P : Tl} {y : Int × P2} (h : y ∈ coll P) : y ∈ tb P ∧ y.2 ≠ (0, 1) := by
  unfold coll at h
  obtain ⟨e, he, hk⟩ := List.mem_filterMap.mp h
  unfold keyv at hk
  split at hk
  case h_1 v hv =>
    split at hk
    case isTrue => cases hk
    case isFalse hn =>
      cases hk
      exact ⟨lk_mem hv, hn⟩
  case h_2 => cases hk
theorem nq_low {n d : Int} (hd : 0 < d) : Int.gcd (nq n d).1 (nq n d).2 = 1 := by
  have hg := gcd_lt (n := n) hd
  exact Int.gcd_ediv_gcd_ediv_gcd (by omega)
theorem tb_low {P : Tl} (h : ∀ y ∈ P, 0 < y.2.2) : ∀ i, i ≤ P.length → ∀ y ∈ tb (P.take i), Int.gcd y.2.1 y.2.2 = 1 := by
  intro i
  induction i with
  | zero => intro _ y hy; simp [tb] at hy
  | succ i ih =>
    intro hi y hy
    have h1 := ih (by omega)
    rw [tb_succ (by omega)] at hy
    have hp : 0 < ((lk (tb (P.take i)) (P[i]).1).getD (0, 1)).2 := by
      cases hl : lk (tb (P.take i)) (P[i]).1 with
      | none => exact (by decide : (0 : Int) < 1)
      | some v => exact (tb_nz' h i (by omega) _ (lk_mem hl)).1
    have hq := h _ (List.getElem_mem (by omega : i < P.length))
    rcases pt_mem hy with hy | hy
    · exact h1 y hy
    · rw [hy]
      exact nq_low (Int.mul_pos hp hq)
def kys (T : Tl) : List Int := T.map (·.1)
theorem kys_pt {T : Tl} {e : Int} {v : P2} : kys (pt T e v) = if e ∈ kys T then kys T else kys T ++ [e] := by
  have hany : (T.any fun y => decide (y.1 = e)) = true ↔ e ∈ kys T := by
    rw [List.any_eq_true]
    unfold kys
    rw [List.mem_map]
    simp
  unfold pt
  by_cases h : (T.any fun y => decide (y.1 = e)) = true
  · rw [if_pos h, if_pos (hany.mp h)]
    unfold kys
    rw [List.map_map]
    refine List.map_congr_left fun y _ => ?_
    simp only [Function.comp_apply]
    split <;> rfl
  · rw [if_neg h, if_neg (fun z => h (hany.mpr z))]
    unfold kys
    rw [List.map_append]
    rfl
theorem kys_tb {P : Tl} : ∀ i, i ≤ P.length → (kys (tb (P.take i))).Nodup ∧ ∀ e ∈ kys (tb (P.take i)), e ∈ kys P := by
  intro i
  induction i with
  | zero => intro _; simp [tb, kys]
  | succ i ih =>
    intro hi
    obtain ⟨h1, h2⟩ := ih (by omega)
    rw [tb_succ (by omega)]
    unfold stp
    rw [kys_pt]
    split
    · exact ⟨h1, h2⟩
    · rename_i hn
      refine ⟨?_, fun e he => ?_⟩
      · rw [List.nodup_append]
        refine ⟨h1, by simp, fun a ha b hb => ?_⟩
        rw [List.mem_singleton.mp hb]
        intro q
        subst q
        exact hn ha
      · rcases List.mem_append.mp he with he | he
        · exact h2 e he
        · rw [List.mem_singleton.mp he]
          exact List.mem_map_of_mem (List.getElem_mem (by omega : i < P.length))
theorem ins_srt {a : Int} : ∀ {l : List Int}, l.Pairwise (· < ·) → a ∉ l → (Mi.ins a l).Pairwise (· < ·)
  | [], _, _ => by simp [Mi.ins]
  | b :: l, h, hn => by
    rw [List.mem_cons, not_or] at hn
    unfold Mi.ins
    split
    · rename_i hab
      refine List.pairwise_cons.mpr ⟨fun x hx => ?_, h⟩
      rcases List.mem_cons.mp hx with rfl | hx
      · omega
      · have := (List.pairwise_cons.mp h).1 x hx
        omega
    · rename_i hab
      refine List.pairwise_cons.mpr ⟨fun x hx => ?_, ins_srt (List.pairwise_cons.mp h).2 hn.2⟩
      rcases ins_mem.mp hx with rfl | hx
      · omega
      · exact (List.pairwise_cons.mp h).1 x hx
theorem srt_srt : ∀ {l : List Int}, l.Nodup → (srt l).Pairwise (· < ·)
  | [], _ => by simp [srt]
  | a :: l, h => by
    unfold srt
    rw [List.nodup_cons] at h
    exact ins_srt (srt_srt h.2) (fun z => h.1 (srt_mem.mp z))
theorem coll_srt {P : Tl} : (kys (coll P)).Pairwise (· < ·) := by
  have h := (kys_tb (P := P) P.length (Nat.le_refl _)).1
  rw [List.take_length] at h
  have hs := srt_srt h
  have sub : ∀ l : List Int, List.Sublist (kys (l.filterMap (keyv (tb P)))) l := by
    intro l
    induction l with
    | nil => exact List.Sublist.slnil
    | cons e l ih =>
      rw [List.filterMap_cons]
      cases hk : keyv (tb P) e with
      | none => exact ih.cons _
      | some y =>
        have e1 : y.1 = e := by
          unfold keyv at hk
          split at hk
          · split at hk
            · cases hk
            · cases hk; rfl
          · cases hk
        show List.Sublist (y.1 :: _) _
        rw [e1]
        exact ih.cons_cons _
  exact List.Pairwise.sublist (sub _) hs
end K32
namespace K32
open PySem PySem.Spec PyProof.Rows L2 Mi
variable {k : Nat} {S : Sto} {Q : KD} {X : KX} {B : Nat}
def isP : D → Bool
  | .tup [.int e, .tup [.int a, .int b]] => decide (0 ≤ e) && (decide (1 ≤ b) && decide (Int.gcd a b = 1)) && !decide (a = 0 ∧ b = 1)
  | _ => false
inductive Sh : D → Prop
  | i {x : Int} : Sh (.int x)
  | p {e a b : Int} : Sh (.tup [.int e, .tup [.int a, .int b]])
  | q {e a : Int} : Sh (.tup [.int e, .int a])
  | l {l : List D} : (l.length : Int) ≠ 2 → Sh (.tup l)
theorem isP_len {l : List D} (h : (l.length : Int) ≠ 2) : isP (.tup l) = false := by
  unfold isP
  split
  case h_1 e a b q =>
    exfalso
    cases q
    exact h rfl
  case h_2 => rfl
theorem pair_ok {d : D} (hk : 4 < k) (sh : Sh d) (hQ : Q (.bl (isP d)) S) : Γ k "is_pair" [d] S Q X := by
  cases k with
  | zero => omega
  | succ k =>
  refine gam (np := 1) (nn := 3) (b := b_is_pair) rfl rfl ?_
  cases sh with
  | i =>
    simp only [b_is_pair, wSs, wS, wT, wE, wEs, wO, wC, wI, wG, wGs, startD, List.map_cons, List.map_nil, List.length_cons, List.length_nil, List.replicate, List.cons_append, List.nil_append, List.append_nil, List.set_cons_zero, List.set_cons_succ, List.getElem?_cons_zero, List.getElem?_cons_succ, itT, wipeD, opAddI, opSubI, opMulI, opDivI, opModI, opPowI, opAddT, cmEq, cmNe, cmLt, cmLe, cmGt, cmGe, cmIn, eqI, eqS, inS2, truB, ixT0, ixT1, ixT2, ixT3, ixT4, ixT6, slcT, lenT, absI, intI, tupleT, listT, listRl, decide_true, decide_false, if_true, if_false, Bool.false_eq_true, reduceIte, decide_eq_true_eq, Bool.not_true, Bool.not_false, line, mI_int, mI_bool, mI_str, mI_tuple, mI_list, mB_int, mB_bool, mB_str, mB_tuple, mB_list, mS_int, mS_bool, mS_str, mS_tuple, mS_list, mT_int, mT_bool, mT_str, mT_tuple, mT_list, mN_int, mN_bool, mN_str, mN_tuple, mN_list, anyT, anyF, Nat.zero_add, Nat.reduceAdd, Nat.reduceLeDiff, true_and]
    exact ⟨S, Sto.le_refl, hQ⟩
  | l h =>
    rw [isP_len h] at hQ
    simp only [b_is_pair, wSs, wS, wT, wE, wEs, wO, wC, wI, wG, wGs, startD, List.map_cons, List.map_nil, List.length_cons, List.length_nil, List.replicate, List.cons_append, List.nil_append, List.append_nil, List.set_cons_zero, List.set_cons_succ, List.getElem?_cons_zero, List.getElem?_cons_succ, itT, wipeD, opAddI, opSubI, opMulI, opDivI, opModI, opPowI, opAddT, cmEq, cmNe, cmLt, cmLe, cmGt, cmGe, cmIn, eqI, eqS, inS2, truB, ixT0, ixT1, ixT2, ixT3, ixT4, ixT6, slcT, lenT, absI, intI, tupleT, listT, listRl, decide_true, decide_false, if_true, if_false, Bool.false_eq_true, reduceIte, decide_eq_true_eq, Bool.not_true, Bool.not_false, line, mI_int, mI_bool, mI_str, mI_tuple, mI_list, mB_int, mB_bool, mB_str, mB_tuple, mB_list, mS_int, mS_bool, mS_str, mS_tuple, mS_list, mT_int, mT_bool, mT_str, mT_tuple, mT_list, mN_int, mN_bool, mN_str, mN_tuple, mN_list, anyT, anyF, Nat.zero_add, Nat.reduceAdd, Nat.reduceLeDiff, true_and, h]
    exact ⟨S, Sto.le_refl, hQ⟩
  | @q e a =>
    simp only [b_is_pair, wSs, wS, wT, wE, wEs, wO, wC, wI, wG, wGs, startD, List.map_cons, List.map_nil, List.length_cons, List.length_nil, List.replicate, List.cons_append, List.nil_append, List.append_nil, List.set_cons_zero, List.set_cons_succ, List.getElem?_cons_zero, List.getElem?_cons_succ, itT, wipeD, opAddI, opSubI, opMulI, opDivI, opModI, opPowI, opAddT, cmEq, cmNe, cmLt, cmLe, cmGt, cmGe, cmIn, eqI, eqS, inS2, truB, ixT0, ixT1, ixT2, ixT3, ixT4, ixT6, slcT, lenT, absI, intI, tupleT, listT, listRl, decide_true, decide_false, if_true, if_false, Bool.false_eq_true, reduceIte, decide_eq_true_eq, Bool.not_true, Bool.not_false, line, mI_int, mI_bool, mI_str, mI_tuple, mI_list, mB_int, mB_bool, mB_str, mB_tuple, mB_list, mS_int, mS_bool, mS_str, mS_tuple, mS_list, mT_int, mT_bool, mT_str, mT_tuple, mT_list, mN_int, mN_bool, mN_str, mN_tuple, mN_list, anyT, anyF, Nat.zero_add, Nat.reduceAdd, Nat.reduceLeDiff, true_and]
    by_cases he : e < 0
    · rw [if_pos he]
      exact ⟨S, Sto.le_refl, hQ⟩
    · rw [if_neg he]
      refine bad_int _ _ _ _ (by omega) ?_
      exact ⟨S, Sto.le_refl, hQ⟩
  | @p e a b =>
    simp only [b_is_pair, wSs, wS, wT, wE, wEs, wO, wC, wI, wG, wGs, startD, List.map_cons, List.map_nil, List.length_cons, List.length_nil, List.replicate, List.cons_append, List.nil_append, List.append_nil, List.set_cons_zero, List.set_cons_succ, List.getElem?_cons_zero, List.getElem?_cons_succ, itT, wipeD, opAddI, opSubI, opMulI, opDivI, opModI, opPowI, opAddT, cmEq, cmNe, cmLt, cmLe, cmGt, cmGe, cmIn, eqI, eqS, inS2, truB, ixT0, ixT1, ixT2, ixT3, ixT4, ixT6, slcT, lenT, absI, intI, tupleT, listT, listRl, decide_true, decide_false, if_true, if_false, Bool.false_eq_true, reduceIte, decide_eq_true_eq, Bool.not_true, Bool.not_false, line, mI_int, mI_bool, mI_str, mI_tuple, mI_list, mB_int, mB_bool, mB_str, mB_tuple, mB_list, mS_int, mS_bool, mS_str, mS_tuple, mS_list, mT_int, mT_bool, mT_str, mT_tuple, mT_list, mN_int, mN_bool, mN_str, mN_tuple, mN_list, anyT, anyF, Nat.zero_add, Nat.reduceAdd, Nat.reduceLeDiff, true_and]
    by_cases he : e < 0
    · rw [if_pos he]
      refine ⟨S, Sto.le_refl, ?_⟩
      have : decide (0 ≤ e) = false := by simp; omega
      simp only [isP, this, Bool.false_and] at hQ
      exact hQ
    · rw [if_neg he]
      have h0 : decide (0 ≤ e) = true := by simp; omega
      simp only [isP, h0, Bool.true_and] at hQ
      refine isf_ii (by omega) ?_
      cases hf : (decide (1 ≤ b) && decide (Int.gcd a b = 1)) with
      | false =>
        rw [hf, Bool.false_and] at hQ
        simp only [opAddI, opSubI, opMulI, opDivI, opModI, opPowI, opAddT, cmEq, cmNe, cmLt, cmLe, cmGt, cmGe, cmIn, eqI, eqS, inS2, truB, ixT0, ixT1, ixT2, ixT3, ixT4, ixT6, slcT, lenT, absI, intI, tupleT, listT, listRl, decide_true, decide_false, if_true, if_false, Bool.false_eq_true, reduceIte, decide_eq_true_eq, Bool.not_true, Bool.not_false, line, mI_int, mI_bool, mI_str, mI_tuple, mI_list, mB_int, mB_bool, mB_str, mB_tuple, mB_list, mS_int, mS_bool, mS_str, mS_tuple, mS_list, mT_int, mT_bool, mT_str, mT_tuple, mT_list, mN_int, mN_bool, mN_str, mN_tuple, mN_list, anyT, anyF, Nat.zero_add, Nat.reduceAdd, Nat.reduceLeDiff, true_and]
        exact ⟨S, Sto.le_refl, hQ⟩
      | true =>
        rw [hf, Bool.true_and] at hQ
        simp only [wSs, wS, wT, wE, wEs, wO, wC, wI, wG, wGs, startD, List.map_cons, List.map_nil, List.length_cons, List.length_nil, List.replicate, List.cons_append, List.nil_append, List.append_nil, List.set_cons_zero, List.set_cons_succ, List.getElem?_cons_zero, List.getElem?_cons_succ, itT, wipeD, opAddI, opSubI, opMulI, opDivI, opModI, opPowI, opAddT, cmEq, cmNe, cmLt, cmLe, cmGt, cmGe, cmIn, eqI, eqS, inS2, truB, ixT0, ixT1, ixT2, ixT3, ixT4, ixT6, slcT, lenT, absI, intI, tupleT, listT, listRl, decide_true, decide_false, if_true, if_false, Bool.false_eq_true, reduceIte, decide_eq_true_eq, Bool.not_true, Bool.not_false, line, mI_int, mI_bool, mI_str, mI_tuple, mI_list, mB_int, mB_bool, mB_str, mB_tuple, mB_list, mS_int, mS_bool, mS_str, mS_tuple, mS_list, mT_int, mT_bool, mT_str, mT_tuple, mT_list, mN_int, mN_bool, mN_str, mN_tuple, mN_list, anyT, anyF, Nat.zero_add, Nat.reduceAdd, Nat.reduceLeDiff, true_and, hZ]
        rw [show D.tup [D.int a, D.int b] = fr a b from rfl, eqF]
        exact ⟨S, Sto.le_refl, hQ⟩
end K32
namespace K32
open PySem PySem.Spec PyProof.Rows L2 Mi
variable {k : Nat} {S : Sto} {Q : KD} {X : KX} {B : Nat}
def kyD : D → Int
  | .tup (.int e :: _) => e
  | _ => 0
def ordB (l : List D) : Bool := (List.range (l.length - 1)).all fun j => decide (kyD (l.getD j .non) < kyD (l.getD (j + 1) .non))
theorem asBls_map {f : D → Bool} : ∀ l : List D, asBls (l.filterMap fun x => some (D.bl (f x))) = some (l.map f)
  | [] => rfl
  | a :: l => by
    have h := asBls_map (f := f) l
    simp only [List.filterMap_cons, asBls, h, List.map_cons]
    rfl
theorem asBls_rng {f : Int → Bool} (n : Nat) : asBls ((rngD 0 n).filterMap fun d => match d with | .int j => some (D.bl (f j)) | _ => none) = some ((List.range n).map fun (j : Nat) => f j) := by
  unfold rngD
  rw [List.filterMap_map]
  generalize List.range n = L
  induction L with
  | nil => rfl
  | cons j L ih =>
    simp only [List.filterMap_cons, Function.comp_apply, Int.zero_add, List.map_cons] at ih ⊢
    simp only [asBls, ih]
    rfl
theorem isP_ky {d : D} (h : isP d = true) : ∃ v, d = .tup [.int (kyD d), v] := by
  unfold isP at h
  split at h
  case h_1 e a b => exact ⟨_, rfl⟩
  case h_2 => cases h
theorem chance_ok {l : List D} (hk : 6 < k) (hl : l.length ≤ 100) (sh : ∀ d ∈ l, Sh d) (hQ : Q (.bl (l.all isP && ordB l)) S) : Γ k "is_chance" [.tup l] S Q X := by
  cases k with
  | zero => omega
  | succ k =>
  refine gam (np := 1) (nn := 3) (b := b_is_chance) rfl rfl ?_
  simp only [b_is_chance, wSs, wS, wT, wE, wEs, wO, wC, wI, wG, wGs, startD, List.map_cons, List.map_nil, List.length_cons, List.length_nil, List.replicate, List.cons_append, List.nil_append, List.append_nil, List.set_cons_zero, List.set_cons_succ, List.getElem?_cons_zero, List.getElem?_cons_succ, itT, wipeD, opAddI, opSubI, opMulI, opDivI, opModI, opPowI, opAddT, cmEq, cmNe, cmLt, cmLe, cmGt, cmGe, cmIn, eqI, eqS, inS2, truB, ixT0, ixT1, ixT2, ixT3, ixT4, ixT6, slcT, lenT, absI, intI, tupleT, listT, listRl, decide_true, decide_false, if_true, if_false, Bool.false_eq_true, reduceIte, decide_eq_true_eq, Bool.not_true, Bool.not_false, line, mI_int, mI_bool, mI_str, mI_tuple, mI_list, mB_int, mB_bool, mB_str, mB_tuple, mB_list, mS_int, mS_bool, mS_str, mS_tuple, mS_list, mT_int, mT_bool, mT_str, mT_tuple, mT_list, mN_int, mN_bool, mN_str, mN_tuple, mN_list, anyT, anyF, Nat.zero_add, Nat.reduceAdd, Nat.reduceLeDiff, true_and]
  refine ⟨by omega, cmpL_pure (fun d => some (.bl (isP d))) trivial ?_ ?_⟩
  · intro d hd PP hPP
    simp only [e_is_chance_1, wSs, wS, wT, wE, wEs, wO, wC, wI, wG, wGs, startD, List.map_cons, List.map_nil, List.length_cons, List.length_nil, List.replicate, List.cons_append, List.nil_append, List.append_nil, List.set_cons_zero, List.set_cons_succ, List.getElem?_cons_zero, List.getElem?_cons_succ, itT, wipeD, opAddI, opSubI, opMulI, opDivI, opModI, opPowI, opAddT, cmEq, cmNe, cmLt, cmLe, cmGt, cmGe, cmIn, eqI, eqS, inS2, truB, ixT0, ixT1, ixT2, ixT3, ixT4, ixT6, slcT, lenT, absI, intI, tupleT, listT, listRl, decide_true, decide_false, if_true, if_false, Bool.false_eq_true, reduceIte, decide_eq_true_eq, Bool.not_true, Bool.not_false, line, mI_int, mI_bool, mI_str, mI_tuple, mI_list, mB_int, mB_bool, mB_str, mB_tuple, mB_list, mS_int, mS_bool, mS_str, mS_tuple, mS_list, mT_int, mT_bool, mT_str, mT_tuple, mT_list, mN_int, mN_bool, mN_str, mN_tuple, mN_list, anyT, anyF, Nat.zero_add, Nat.reduceAdd, Nat.reduceLeDiff, true_and]
    refine pair_ok (by omega) (sh d hd) hPP
  · simp only [bllR, asBls_map]
    have e1 : (l.map isP).all id = l.all isP := by rw [List.all_map]; rfl
    rw [e1]
    cases hP : l.all isP with
    | false =>
      rw [hP, Bool.false_and] at hQ
      simp only [opAddI, opSubI, opMulI, opDivI, opModI, opPowI, opAddT, cmEq, cmNe, cmLt, cmLe, cmGt, cmGe, cmIn, eqI, eqS, inS2, truB, ixT0, ixT1, ixT2, ixT3, ixT4, ixT6, slcT, lenT, absI, intI, tupleT, listT, listRl, decide_true, decide_false, if_true, if_false, Bool.false_eq_true, reduceIte, decide_eq_true_eq, Bool.not_true, Bool.not_false, line, mI_int, mI_bool, mI_str, mI_tuple, mI_list, mB_int, mB_bool, mB_str, mB_tuple, mB_list, mS_int, mS_bool, mS_str, mS_tuple, mS_list, mT_int, mT_bool, mT_str, mT_tuple, mT_list, mN_int, mN_bool, mN_str, mN_tuple, mN_list, anyT, anyF, Nat.zero_add, Nat.reduceAdd, Nat.reduceLeDiff, true_and]
      exact ⟨S, Sto.le_refl, hQ⟩
    | true =>
      rw [hP, Bool.true_and] at hQ
      simp only [wSs, wS, wT, wE, wEs, wO, wC, wI, wG, wGs, startD, List.map_cons, List.map_nil, List.length_cons, List.length_nil, List.replicate, List.cons_append, List.nil_append, List.append_nil, List.set_cons_zero, List.set_cons_succ, List.getElem?_cons_zero, List.getElem?_cons_succ, itT, wipeD, opAddI, opSubI, opMulI, opDivI, opModI, opPowI, opAddT, cmEq, cmNe, cmLt, cmLe, cmGt, cmGe, cmIn, eqI, eqS, inS2, truB, ixT0, ixT1, ixT2, ixT3, ixT4, ixT6, slcT, lenT, absI, intI, tupleT, listT, listRl, decide_true, decide_false, if_true, if_false, Bool.false_eq_true, reduceIte, decide_eq_true_eq, Bool.not_true, Bool.not_false, line, mI_int, mI_bool, mI_str, mI_tuple, mI_list, mB_int, mB_bool, mB_str, mB_tuple, mB_list, mS_int, mS_bool, mS_str, mS_tuple, mS_list, mT_int, mT_bool, mT_str, mT_tuple, mT_list, mN_int, mN_bool, mN_str, mN_tuple, mN_list, anyT, anyF, Nat.zero_add, Nat.reduceAdd, Nat.reduceLeDiff, true_and]
      refine ⟨⟨by omega, by omega⟩, by simp [rngD]; omega, ?_⟩
      have e2 : ((l.length : Int) - 1).toNat = l.length - 1 := by omega
      rw [e2]
      refine cmpL_pure (fun d => match d with | .int j => some (.bl (decide (kyD (l.getD j.toNat .non) < kyD (l.getD (j.toNat + 1) .non)))) | _ => none) trivial ?_ ?_
      · intro d hd PP hPP
        unfold rngD at hd
        obtain ⟨j, hj, rfl⟩ := List.mem_map.mp hd
        have hj : j < l.length - 1 := by simpa using hj
        have g1 : l[j]? = some l[j] := List.getElem?_eq_getElem (by omega)
        have g2 : l[j + 1]? = some l[j + 1] := List.getElem?_eq_getElem (by omega)
        have p1 := List.all_eq_true.mp hP _ (List.getElem_mem (by omega : j < l.length))
        have p2 := List.all_eq_true.mp hP _ (List.getElem_mem (by omega : j + 1 < l.length))
        obtain ⟨v1, w1⟩ := isP_ky p1
        obtain ⟨v2, w2⟩ := isP_ky p2
        simp only [e_is_chance_2, wSs, wS, wT, wE, wEs, wO, wC, wI, wG, wGs, startD, List.map_cons, List.map_nil, List.length_cons, List.length_nil, List.replicate, List.cons_append, List.nil_append, List.append_nil, List.set_cons_zero, List.set_cons_succ, List.getElem?_cons_zero, List.getElem?_cons_succ, itT, wipeD, opAddI, opSubI, opMulI, opDivI, opModI, opPowI, opAddT, cmEq, cmNe, cmLt, cmLe, cmGt, cmGe, cmIn, eqI, eqS, inS2, truB, ixT0, ixT1, ixT2, ixT3, ixT4, ixT6, slcT, lenT, absI, intI, tupleT, listT, listRl, decide_true, decide_false, if_true, if_false, Bool.false_eq_true, reduceIte, decide_eq_true_eq, Bool.not_true, Bool.not_false, line, mI_int, mI_bool, mI_str, mI_tuple, mI_list, mB_int, mB_bool, mB_str, mB_tuple, mB_list, mS_int, mS_bool, mS_str, mS_tuple, mS_list, mT_int, mT_bool, mT_str, mT_tuple, mT_list, mN_int, mN_bool, mN_str, mN_tuple, mN_list, anyT, anyF, Nat.zero_add, Nat.reduceAdd, Nat.reduceLeDiff, true_and, Int.zero_add]
        rw [ixT (atIk j rfl g1), w1, ixT0, ixT (atIk (j + 1) (by omega) g2), w2, ixT0]
        simp only [opAddI, opSubI, opMulI, opDivI, opModI, opPowI, opAddT, cmEq, cmNe, cmLt, cmLe, cmGt, cmGe, cmIn, eqI, eqS, inS2, truB, ixT0, ixT1, ixT2, ixT3, ixT4, ixT6, slcT, lenT, absI, intI, tupleT, listT, listRl, decide_true, decide_false, if_true, if_false, Bool.false_eq_true, reduceIte, decide_eq_true_eq, Bool.not_true, Bool.not_false, line, mI_int, mI_bool, mI_str, mI_tuple, mI_list, mB_int, mB_bool, mB_str, mB_tuple, mB_list, mS_int, mS_bool, mS_str, mS_tuple, mS_list, mT_int, mT_bool, mT_str, mT_tuple, mT_list, mN_int, mN_bool, mN_str, mN_tuple, mN_list, anyT, anyF, Nat.zero_add, Nat.reduceAdd, Nat.reduceLeDiff, true_and]
        have q1 : l.getD j .non = l[j] := by rw [List.getD_eq_getElem?_getD, g1]; rfl
        have q2 : l.getD (j + 1) .non = l[j + 1] := by rw [List.getD_eq_getElem?_getD, g2]; rfl
        simp only [Int.zero_add, Int.toNat_natCast, q1, q2] at hPP
        exact hPP
      · simp only [bllR, asBls_rng (f := fun j => decide (kyD (l.getD j.toNat .non) < kyD (l.getD (j.toNat + 1) .non)))]
        refine ⟨S, Sto.le_refl, ?_⟩
        have e3 : ((List.range (l.length - 1)).map fun (j : Nat) => decide (kyD (l.getD (j : Int).toNat .non) < kyD (l.getD ((j : Int).toNat + 1) .non))).all id = ordB l := by
          rw [List.all_map]
          rfl
        rw [e3]
        exact hQ
end K32
namespace K32
open PySem PySem.Spec PyProof.Rows L2 Mi
variable {k : Nat} {S : Sto} {Q : KD} {X : KX} {B : Nat}
theorem pD_pure : ∀ P : Tl, D.pures (pD P) = true
  | [] => rfl
  | y :: P => by
    have h := pD_pure P
    show (D.pure (.tup [.int y.1, dq y.2]) && D.pures (pD P)) = true
    rw [h]
    rfl
theorem eqNil {l : List D} {QB : Bool → Prop} (h : D.pures l = true) : eqR (.tup l) (.tup []) S QB = QB (decide (l = [])) := by
  have h1 : D.pure (.tup l) = true := h
  have h2 : D.pure (.tup []) = true := rfl
  have e : ∀ d, plainR S (.tup d) = if D.pure (.tup d) = true then some (false, .tup d) else none := fun d => rfl
  unfold eqR
  rw [e, e, if_pos h1, if_pos h2]
  have d1 : min (D.tup l).dep (D.tup []).dep ≤ 60 := Nat.le_trans (Nat.min_le_right _ _) (by simp [D.dep, D.deps])
  have e1 : D.eqv (.tup l) (.tup []) = decide (l = []) := by
    cases l with
    | nil => rfl
    | cons a l => simp [D.eqv, D.eqvs]
  show (_ ∧ QB _) = _
  rw [e1]
  simp [d1]
def lastE (P : Tl) : Int := match P.getLast? with
  | some y => y.1
  | none => 0
theorem ixLast {l : List D} {d : D} (h : l.getLast? = some d) : ixR (.tup l) (.int (-1)) S Q = Q d S := by
  refine ixT ?_
  have hl : 0 < l.length := by
    cases l with
    | nil => cases h
    | cons a l => simp
  have hi : ixN l.length (-1) = some (l.length - 1) := by
    unfold ixN
    rw [if_neg (by omega), if_pos (by omega)]
    congr 1
    omega
  unfold atI
  rw [hi]
  rw [List.getLast?_eq_getElem?] at h
  exact h
theorem pD_last {P : Tl} {y : Int × P2} (h : P.getLast? = some y) : (pD P).getLast? = some (.tup [.int y.1, dq y.2]) := by
  unfold pD
  rw [List.getLast?_map, h]
  rfl
theorem fof_ok {P : Tl} (hk : 3 < k) (h0 : P = [] → Q (fr 0 1) S) (h1 : ∀ y, P.getLast? = some y → 0 < y.1 → X ⟨"NotFit", [("word", .str "letter")]⟩ S) (h2 : ∀ y z R, P = z :: R → P.getLast? = some y → ¬0 < y.1 → Q (dq z.2) S) : Γ k "fraction_of" [.tup (pD P)] S Q X := by
  cases k with
  | zero => omega
  | succ k =>
  refine gam (np := 1) (nn := 1) (b := b_fraction_of) rfl rfl ?_
  simp only [b_fraction_of, wSs, wS, wT, wE, wEs, wO, wC, wI, wG, wGs, startD, List.map_cons, List.map_nil, List.length_cons, List.length_nil, List.replicate, List.cons_append, List.nil_append, List.append_nil, List.set_cons_zero, List.set_cons_succ, List.getElem?_cons_zero, List.getElem?_cons_succ, itT, wipeD, opAddI, opSubI, opMulI, opDivI, opModI, opPowI, opAddT, cmEq, cmNe, cmLt, cmLe, cmGt, cmGe, cmIn, eqI, eqS, inS2, truB, ixT0, ixT1, ixT2, ixT3, ixT4, ixT6, slcT, lenT, absI, intI, tupleT, listT, listRl, decide_true, decide_false, if_true, if_false, Bool.false_eq_true, reduceIte, decide_eq_true_eq, Bool.not_true, Bool.not_false, line, mI_int, mI_bool, mI_str, mI_tuple, mI_list, mB_int, mB_bool, mB_str, mB_tuple, mB_list, mS_int, mS_bool, mS_str, mS_tuple, mS_list, mT_int, mT_bool, mT_str, mT_tuple, mT_list, mN_int, mN_bool, mN_str, mN_tuple, mN_list, anyT, anyF, Nat.zero_add, Nat.reduceAdd, Nat.reduceLeDiff, true_and, hZ]
  rw [eqNil (pD_pure P)]
  cases P with
  | nil =>
    simp only [pD, List.map_nil, decide_true, if_true]
    exact ⟨S, Sto.le_refl, h0 rfl⟩
  | cons z R =>
    have hn : ¬(pD (z :: R) = []) := by simp [pD]
    simp only [hn, if_false, decide_false, Bool.false_eq_true]
    obtain ⟨y, hy⟩ : ∃ y, (z :: R).getLast? = some y := ⟨_, List.getLast?_eq_some_getLast (by simp)⟩
    rw [ixLast (pD_last hy), ixT0]
    simp only [opAddI, opSubI, opMulI, opDivI, opModI, opPowI, opAddT, cmEq, cmNe, cmLt, cmLe, cmGt, cmGe, cmIn, eqI, eqS, inS2, truB, ixT0, ixT1, ixT2, ixT3, ixT4, ixT6, slcT, lenT, absI, intI, tupleT, listT, listRl, decide_true, decide_false, if_true, if_false, Bool.false_eq_true, reduceIte, decide_eq_true_eq, Bool.not_true, Bool.not_false, line, mI_int, mI_bool, mI_str, mI_tuple, mI_list, mB_int, mB_bool, mB_str, mB_tuple, mB_list, mS_int, mS_bool, mS_str, mS_tuple, mS_list, mT_int, mT_bool, mT_str, mT_tuple, mT_list, mN_int, mN_bool, mN_str, mN_tuple, mN_list, anyT, anyF, Nat.zero_add, Nat.reduceAdd, Nat.reduceLeDiff, true_and]
    by_cases hp : 0 < y.1
    · rw [if_pos hp]
      exact ⟨by decide, S, Sto.le_refl, h1 y hy hp⟩
    · rw [if_neg hp]
      have e : pD (z :: R) = .tup [.int z.1, dq z.2] :: pD R := rfl
      rw [e, ixT0, ixT1]
      exact ⟨S, Sto.le_refl, h2 y z R rfl hy hp⟩
theorem refuses_ok {P : Tl} {y : Int × P2} (hk : 5 < k) (hy : P.getLast? = some y) (hp : 0 < y.1) (hQ : Q (.bl true) S) : Γ k "_law_refuses" [.tup (pD P)] S Q X := by
  cases k with
  | zero => omega
  | succ k =>
  refine gam (np := 1) (nn := 2) (b := b__law_refuses) rfl rfl ?_
  simp only [b__law_refuses, wSs, wS, wT, wE, wEs, wO, wC, wI, wG, wGs, startD, List.map_cons, List.map_nil, List.length_cons, List.length_nil, List.replicate, List.cons_append, List.nil_append, List.append_nil, List.set_cons_zero, List.set_cons_succ, List.getElem?_cons_zero, List.getElem?_cons_succ, itT, wipeD, opAddI, opSubI, opMulI, opDivI, opModI, opPowI, opAddT, cmEq, cmNe, cmLt, cmLe, cmGt, cmGe, cmIn, eqI, eqS, inS2, truB, ixT0, ixT1, ixT2, ixT3, ixT4, ixT6, slcT, lenT, absI, intI, tupleT, listT, listRl, decide_true, decide_false, if_true, if_false, Bool.false_eq_true, reduceIte, decide_eq_true_eq, Bool.not_true, Bool.not_false, line, mI_int, mI_bool, mI_str, mI_tuple, mI_list, mB_int, mB_bool, mB_str, mB_tuple, mB_list, mS_int, mS_bool, mS_str, mS_tuple, mS_list, mT_int, mT_bool, mT_str, mT_tuple, mT_list, mN_int, mN_bool, mN_str, mN_tuple, mN_list, anyT, anyF, Nat.zero_add, Nat.reduceAdd, Nat.reduceLeDiff, true_and]
  refine fof_ok (by omega) (fun h => by rw [h] at hy; cases hy) (fun _ _ _ => ?_) (fun y' z R _ h g => by rw [hy] at h; cases h; exact absurd hp g)
  have e1 : List.lookup ("NotFit" : Str) [(("NotFit" : Str), true)] = some true := by decide +kernel
  have e2 : hE (.and (.word "letter") (.and (.isi [("NotFit", true)]) (.and (.isi [("NotFit", true)]) (.not (.isi [("NotFit", false)]))))) ⟨"NotFit", [("word", .str "letter")]⟩ = some (.bl true) := by decide +kernel
  simp only [e1, e2, if_true]
  exact ⟨by decide, S, Sto.le_refl, hQ⟩
end K32
namespace K32
open PySem PySem.Spec PyProof.Rows L2 Mi
variable {k : Nat} {S : Sto} {Q : KD} {X : KX} {pp : Addr} {B : Nat}
theorem Stt.upd {S : Sto} {a p : Addr} {z : Nat} {c : Cell} (st : Stt S a pp z) (h1 : p ≠ a) (h2 : p ≠ pp) : Stt (S.upd p c) a pp z := by
  obtain ⟨ns, x, y, w, ext, ha, hp, r⟩ := st
  exact ⟨ns, x, y, w, ext, by rw [Sto.upd_ne (Ne.symm h1)]; exact ha, by rw [Sto.upd_ne (Ne.symm h2)]; exact hp, r⟩
theorem Stt.np {S : Sto} {a q : Addr} {z : Nat} (st : Stt S a pp z) (h : S q = none) : q ≠ pp := by
  obtain ⟨ns, x, y, w, ext, ha, hp, _⟩ := st
  exact (Sto.ne_of hp h).symm
theorem Stt.le {S S' : Sto} {a : Addr} {z : Nat} (st : Stt S a pp z) (h : S.le S') : Stt S' a pp z := by
  obtain ⟨ns, x, y, w, ext, ha, hp, r⟩ := st
  exact ⟨ns, x, y, w, ext, h _ _ ha, h _ _ hp, r⟩
theorem ins_len {a : Int} : ∀ {l : List Int}, (Mi.ins a l).length = l.length + 1
  | [] => rfl
  | b :: l => by
    unfold Mi.ins
    split
    · rfl
    · rw [List.length_cons, ins_len, List.length_cons]
theorem srt_len : ∀ {l : List Int}, (srt l).length = l.length
  | [] => rfl
  | b :: l => by
    unfold srt
    rw [ins_len, srt_len, List.length_cons]
structure One (P : Tl) : Prop where
  pl : Pl 30 4 P
  ex : ∀ y ∈ P, 0 ≤ y.1 ∧ y.1 ≤ 6
  srt : (kys P).Pairwise (· < ·)
  nz : ∀ y ∈ P, y.2 ≠ (0, 1)
theorem one_coll {P : Tl} (hl : P.length ≤ 4) (hq : ∀ y ∈ P, Fq 5 y.2) (he : ∀ y ∈ P, 0 ≤ y.1 ∧ y.1 ≤ 6) : One (coll P) := by
  have ht := tb_ok hq P.length (Nat.le_refl _)
  have hw := tb_low (fun y hy => (hq y hy).pos) P.length (Nat.le_refl _)
  have hs := (kys_tb (P := P) P.length (Nat.le_refl _)).2
  rw [List.take_length] at ht hw hs
  refine ⟨⟨fun y hy => ?_, ?_⟩, fun y hy => ?_, coll_srt, fun y hy => (coll_mem hy).2⟩
  · have h1 := (coll_mem hy).1
    exact ⟨(ht.1 y h1).mono (by omega), hw y h1⟩
  · unfold coll
    refine Nat.le_trans (List.length_filterMap_le _ _) ?_
    rw [srt_len, List.length_map]
    omega
  · have h1 := hs y.1 (List.mem_map.mpr ⟨y, (coll_mem hy).1, rfl⟩)
    obtain ⟨x, hx, e⟩ := List.mem_map.mp h1
    rw [← e]
    exact he x hx
theorem Sz.of {m : Nat} {i : Int} (h1 : -(2 ^ m : Nat) < i) (h2 : i < (2 ^ m : Nat)) : Sz m i := by
  unfold Sz
  omega
theorem some_poly_ok {a : Addr} {z : Nat} (hk : 4 < k) (hz : z < 2 ^ 50) (st : Stt S a pp z) (hQ : ∀ P S', One P → S.off a S' → Stt S' a pp (z + 13) → Q (.tup (pD P)) S') : Γ k "_law_some_poly" [.ref a] S Q X := by
  cases k with
  | zero => omega
  | succ k =>
  refine gam (np := 1) (nn := 4) (b := b__law_some_poly) rfl rfl ?_
  simp only [b__law_some_poly, wSs, wS, wT, wE, wEs, wO, wC, wI, wG, wGs, startD, List.map_cons, List.map_nil, List.length_cons, List.length_nil, List.replicate, List.cons_append, List.nil_append, List.append_nil, List.set_cons_zero, List.set_cons_succ, List.getElem?_cons_zero, List.getElem?_cons_succ, itT, wipeD, opAddI, opSubI, opMulI, opDivI, opModI, opPowI, opAddT, cmEq, cmNe, cmLt, cmLe, cmGt, cmGe, cmIn, eqI, eqS, inS2, truB, ixT0, ixT1, ixT2, ixT3, ixT4, ixT6, slcT, lenT, absI, intI, tupleT, listT, listRl, decide_true, decide_false, if_true, if_false, Bool.false_eq_true, reduceIte, decide_eq_true_eq, Bool.not_true, Bool.not_false, line, mI_int, mI_bool, mI_str, mI_tuple, mI_list, mB_int, mB_bool, mB_str, mB_tuple, mB_list, mS_int, mS_bool, mS_str, mS_tuple, mS_list, mT_int, mT_bool, mT_str, mT_tuple, mT_list, mN_int, mN_bool, mN_str, mN_tuple, mN_list, anyT, anyF, Nat.zero_add, Nat.reduceAdd, Nat.reduceLeDiff, true_and]
  intro p hp
  have hpa := st.ne hp
  have hpp := st.np hp
  refine draw_ok (by omega) (by omega) (by omega) (by omega) (st.new hp) fun r S1 r0 r1 o1 st1 => ?_
  refine ⟨by unfold inB; omega, ?_⟩
  refine forL_inv (rngD 0 r.toNat) (fun i σ S' => ∃ (P : Tl) (x2 x3 : Option D), σ = [some (.ref a), some (.ref p), x2, x3] ∧ S' p = some (.lst (pD P)) ∧ P.length = i ∧ (∀ y ∈ P, Fq 5 y.2 ∧ 0 ≤ y.1 ∧ y.1 ≤ 6) ∧ S.off a S' ∧ Stt S' a pp (z + 1 + 3 * i)) (fun _ _ _ _ => trivial) ?_ ?_ ⟨[], none, none, rfl, o1 p _ hpa Sto.upd_same, rfl, (fun _ h => by cases h), off_of_new hp o1, st1⟩
  · rintro i d σ S' NX hd ⟨P, x2, x3, rfl, h1, h2, h3, h4, h5⟩ hN
    have hi : i < r.toNat := by
      have := (List.getElem?_eq_some_iff.mp hd).1
      simpa [rngD] using this
    simp only [s__law_some_poly_1, wSs, wS, wT, wE, wEs, wO, wC, wI, wG, wGs, startD, List.map_cons, List.map_nil, List.length_cons, List.length_nil, List.replicate, List.cons_append, List.nil_append, List.append_nil, List.set_cons_zero, List.set_cons_succ, List.getElem?_cons_zero, List.getElem?_cons_succ, itT, wipeD, opAddI, opSubI, opMulI, opDivI, opModI, opPowI, opAddT, cmEq, cmNe, cmLt, cmLe, cmGt, cmGe, cmIn, eqI, eqS, inS2, truB, ixT0, ixT1, ixT2, ixT3, ixT4, ixT6, slcT, lenT, absI, intI, tupleT, listT, listRl, decide_true, decide_false, if_true, if_false, Bool.false_eq_true, reduceIte, decide_eq_true_eq, Bool.not_true, Bool.not_false, line, mI_int, mI_bool, mI_str, mI_tuple, mI_list, mB_int, mB_bool, mB_str, mB_tuple, mB_list, mS_int, mS_bool, mS_str, mS_tuple, mS_list, mT_int, mT_bool, mT_str, mT_tuple, mT_list, mN_int, mN_bool, mN_str, mN_tuple, mN_list, anyT, anyF, Nat.zero_add, Nat.reduceAdd, Nat.reduceLeDiff, true_and]
    refine draw_ok (by omega) (by omega) (by omega) (by omega) h5 fun r1 S2 r10 r11 o2 st2 => ?_
    have g1 := o2 p _ hpa h1
    simp only [wSs, wS, wT, wE, wEs, wO, wC, wI, wG, wGs, startD, List.map_cons, List.map_nil, List.length_cons, List.length_nil, List.replicate, List.cons_append, List.nil_append, List.append_nil, List.set_cons_zero, List.set_cons_succ, List.getElem?_cons_zero, List.getElem?_cons_succ, itT, wipeD, opAddI, opSubI, opMulI, opDivI, opModI, opPowI, opAddT, cmEq, cmNe, cmLt, cmLe, cmGt, cmGe, cmIn, eqI, eqS, inS2, truB, ixT0, ixT1, ixT2, ixT3, ixT4, ixT6, slcT, lenT, absI, intI, tupleT, listT, listRl, decide_true, decide_false, if_true, if_false, Bool.false_eq_true, reduceIte, decide_eq_true_eq, Bool.not_true, Bool.not_false, line, mI_int, mI_bool, mI_str, mI_tuple, mI_list, mB_int, mB_bool, mB_str, mB_tuple, mB_list, mS_int, mS_bool, mS_str, mS_tuple, mS_list, mT_int, mT_bool, mT_str, mT_tuple, mT_list, mN_int, mN_bool, mN_str, mN_tuple, mN_list, anyT, anyF, Nat.zero_add, Nat.reduceAdd, Nat.reduceLeDiff, true_and, mtyA g1]
    refine draw_ok (by omega) (by omega) (by omega) (by omega) st2 fun r2 S3 r20 r21 o3 st3 => ?_
    have g2 := o3 p _ hpa g1
    refine draw_ok (by omega) (by omega) (by omega) (by omega) st3 fun r3 S4 r30 r31 o4 st4 => ?_
    have g3 := o4 p _ hpa g2
    have hd0 : 0 < 1 + r3 := by omega
    have s1 : Sz 5 (r1 - 20) := Sz.of (by omega) (by omega)
    have s2 : Sz 5 (1 + r3) := Sz.of (by omega) (by omega)
    refine lfrac (m := 5) (by omega) hd0 s2 (by decide) ?_
    rw [appL g3]
    refine ⟨by rw [pD_len]; have := Mi.line; omega, hN _ _ ⟨P ++ [(r2, nq (r1 - 20) (1 + r3))], _, _, rfl, ?_, ?_, ?_, ?_, ?_⟩⟩
    · rw [Sto.upd_same, ← pD_app]; rfl
    · simp; omega
    · intro y hy
      rcases List.mem_append.mp hy with hy | hy
      · exact h3 y hy
      · rw [List.mem_singleton] at hy
        subst hy
        exact ⟨nq_ok hd0 s1 s2, r20, by omega⟩
    · exact (((h4.trans o2).trans o3).trans o4).same (c := .lst []) hp
    · exact (st4.upd hpa hpp).more (by omega)
  · rintro σ S' ⟨P, x2, x3, rfl, h1, h2, h3, h4, h5⟩
    have hl : P.length ≤ 4 := by
      rw [h2]
      simp [rngD]
      omega
    simp only [wSs, wS, wT, wE, wEs, wO, wC, wI, wG, wGs, startD, List.map_cons, List.map_nil, List.length_cons, List.length_nil, List.replicate, List.cons_append, List.nil_append, List.append_nil, List.set_cons_zero, List.set_cons_succ, List.getElem?_cons_zero, List.getElem?_cons_succ, itT, wipeD, opAddI, opSubI, opMulI, opDivI, opModI, opPowI, opAddT, cmEq, cmNe, cmLt, cmLe, cmGt, cmGe, cmIn, eqI, eqS, inS2, truB, ixT0, ixT1, ixT2, ixT3, ixT4, ixT6, slcT, lenT, absI, intI, tupleT, listT, listRl, decide_true, decide_false, if_true, if_false, Bool.false_eq_true, reduceIte, decide_eq_true_eq, Bool.not_true, Bool.not_false, line, mI_int, mI_bool, mI_str, mI_tuple, mI_list, mB_int, mB_bool, mB_str, mB_tuple, mB_list, mS_int, mS_bool, mS_str, mS_tuple, mS_list, mT_int, mT_bool, mT_str, mT_tuple, mT_list, mN_int, mN_bool, mN_str, mN_tuple, mN_list, anyT, anyF, Nat.zero_add, Nat.reduceAdd, Nat.reduceLeDiff, true_and]
    refine lcollected_ok (P := P) (B := 5) (by omega) (fun y hy => (h3 y hy).1) (size_ok hl (by decide)) (by omega) (.inr ⟨p, rfl, h1⟩) ?_
    exact ⟨S', Sto.le_refl, hQ _ _ (one_coll hl (fun y hy => (h3 y hy).1) fun y hy => (h3 y hy).2) h4 (h5.more (by omega))⟩
theorem lk_pt {l : Tl} {e e' : Int} {v : P2} : lk (pt l e v) e' = if e = e' then some v else lk l e' := by
  unfold pt
  by_cases h : (l.any fun y => decide (y.1 = e)) = true
  · rw [if_pos h]
    induction l with
    | nil => cases h
    | cons y l ih =>
      rw [List.any_cons, Bool.or_eq_true, decide_eq_true_eq] at h
      unfold lk at ih ⊢
      rw [List.map_cons, List.find?_cons]
      by_cases hy : y.1 = e
      · rw [if_pos hy]
        by_cases he : e = e'
        · rw [if_pos he]
          simp [hy, he]
        · rw [if_neg he]
          have hn : ¬ y.1 = e' := by omega
          simp only [hn, decide_false]
          rw [List.find?_cons]
          simp only [hn, decide_false]
          by_cases hl : (l.any fun y => decide (y.1 = e)) = true
          · have := ih hl
            rw [if_neg he] at this
            exact this
          · have : (l.map fun y => if y.1 = e then (y.1, v) else y) = l := by
              have hl' : ∀ x ∈ l, ¬ x.1 = e := fun x hx q => hl (List.any_eq_true.mpr ⟨x, hx, decide_eq_true q⟩)
              refine (List.map_congr_left fun x hx => if_neg (hl' x hx)).trans (List.map_id' _)
            rw [this]
      · rw [if_neg hy]
        have hl := h.resolve_left hy
        rw [List.find?_cons]
        by_cases hn : y.1 = e'
        · have : ¬ e = e' := by omega
          rw [if_neg this]
          simp [hn]
        · simp only [hn, decide_false]
          exact ih hl
  · rw [if_neg h]
    have hl' : ∀ x ∈ l, ¬ x.1 = e := fun x hx q => h (List.any_eq_true.mpr ⟨x, hx, decide_eq_true q⟩)
    unfold lk
    rw [List.find?_append]
    by_cases he : e = e'
    · subst he
      rw [if_pos rfl]
      have : l.find? (fun y => decide (y.1 = e)) = none := List.find?_eq_none.mpr fun x hx => by simp [hl' x hx]
      rw [this]
      simp
    · rw [if_neg he]
      have : [(e, v)].find? (fun y => decide (y.1 = e')) = none := by simp [he]
      rw [this, Option.or_none]
theorem lk_fold (e : Int) : ∀ (P T : Tl), lk (P.foldl stp T) e = (P.filter fun y => decide (y.1 = e)).foldl (fun o y => some (addq (o.getD (0, 1)) y.2)) (lk T e)
  | [], T => rfl
  | y :: P, T => by
    rw [List.foldl_cons, lk_fold e P]
    unfold stp
    rw [lk_pt, List.filter_cons]
    by_cases h : y.1 = e
    · subst h
      rw [if_pos rfl, if_pos (by simp)]
      rfl
    · rw [if_neg h, if_neg (by simp [h])]
theorem filt1 {P : Tl} (h : (kys P).Pairwise (· < ·)) (e : Int) : (P.filter fun y => decide (y.1 = e)) = [] ∨ ∃ v, (e, v) ∈ P ∧ (P.filter fun y => decide (y.1 = e)) = [(e, v)] := by
  induction P with
  | nil => exact .inl rfl
  | cons y P ih =>
    have hp : (y.1 :: kys P).Pairwise (· < ·) := h
    rw [List.pairwise_cons] at hp
    rw [List.filter_cons]
    by_cases hy : y.1 = e
    · right
      have : (P.filter fun y => decide (y.1 = e)) = [] := by
        refine List.filter_eq_nil_iff.mpr fun x hx => ?_
        have := hp.1 x.1 (List.mem_map.mpr ⟨x, hx, rfl⟩)
        simp; omega
      refine ⟨y.2, ?_, ?_⟩
      · subst hy; exact List.mem_cons_self ..
      · rw [if_pos (by simp [hy]), this]
        subst hy; rfl
    · rw [if_neg (by simp [hy])]
      rcases ih hp.2 with h1 | ⟨v, h1, h2⟩
      · exact .inl h1
      · exact .inr ⟨v, List.mem_cons_of_mem _ h1, h2⟩
theorem add0 {p : P2} (hp : Nm B p) : addq (0, 1) p = p := by
  unfold addq
  simp only [Int.zero_mul, Int.zero_add, Int.mul_one, Int.one_mul]
  exact nq_id hp.low
theorem addneg {p : P2} (hp : Nm B p) : addq p (ngq p) = (0, 1) := by
  unfold addq ngq
  have e : p.1 * p.2 + -p.1 * p.2 = 0 := by rw [Int.neg_mul]; omega
  have hm := Int.mul_pos hp.pos hp.pos
  simp only [e]
  unfold nq
  have g : Int.gcd 0 (p.2 * p.2) = (p.2 * p.2).natAbs := Int.gcd_zero_left _
  have g' : ((p.2 * p.2).natAbs : Int) = p.2 * p.2 := by omega
  rw [g, g', Int.zero_ediv, Int.ediv_self (by omega)]
theorem self_less {P : Tl} (h : One P) : coll (P ++ P.map fun y => (y.1, ngq y.2)) = [] := by
  unfold coll
  refine List.filterMap_eq_nil_iff.mpr fun e _ => ?_
  unfold keyv tb
  rw [lk_fold, List.filter_append, List.filter_map]
  have e1 : (P.filter ((fun y : Int × P2 => decide (y.1 = e)) ∘ fun y : Int × P2 => (y.1, ngq y.2))) = P.filter fun y => decide (y.1 = e) := rfl
  rw [e1]
  rcases filt1 h.srt e with h1 | ⟨v, h1, h2⟩
  · rw [h1]; rfl
  · rw [h2]
    have hn := h.pl.el _ h1
    show (match some (addq (addq (0, 1) v) (ngq v)) with | some v => if v = (0, 1) then none else some (e, v) | none => none) = none
    rw [add0 hn, addneg hn]
    rfl
theorem told_eq {p : P2} (hp : Nm B p) : coll [(0, p)] = if p = (0, 1) then [] else [(0, p)] := by
  have e : tb [(0, p)] = [(0, p)] := by
    show [((0 : Int), addq (0, 1) p)] = _
    rw [add0 hp]
  unfold coll
  rw [e]
  show ([(0 : Int)].filterMap (keyv [(0, p)])) = _
  rw [List.filterMap_cons]
  have e2 : keyv [(0, p)] 0 = if p = (0, 1) then none else some (0, p) := rfl
  rw [e2]
  by_cases h : p = (0, 1)
  · rw [if_pos h, if_pos h]; rfl
  · rw [if_neg h, if_neg h]; rfl
end K32
namespace K32
open PySem PySem.Spec PyProof.Rows L2 Mi
variable {k : Nat} {S : Sto} {Q : KD} {X : KX} {pp : Addr} {B : Nat}
theorem last_pos : ∀ {P : Tl}, (kys P).Pairwise (· < ·) → (∃ y ∈ P, 0 < y.1) → ∃ y, P.getLast? = some y ∧ 0 < y.1
  | [], _, h => by obtain ⟨y, hy, _⟩ := h; cases hy
  | [x], _, h => by
    obtain ⟨y, hy, h0⟩ := h
    rw [List.mem_singleton] at hy
    subst hy
    exact ⟨y, rfl, h0⟩
  | x :: w :: P, hs, h => by
    have hp : (x.1 :: kys (w :: P)).Pairwise (· < ·) := hs
    rw [List.pairwise_cons] at hp
    have : ∃ y ∈ w :: P, 0 < y.1 := by
      obtain ⟨y, hy, h0⟩ := h
      rcases List.mem_cons.mp hy with rfl | hy
      · have := hp.1 w.1 (List.mem_map.mpr ⟨w, List.mem_cons_self .., rfl⟩)
        exact ⟨w, List.mem_cons_self .., by omega⟩
      · exact ⟨y, hy, h0⟩
    obtain ⟨y, e, h0⟩ := last_pos hp.2 this
    exact ⟨y, by rw [List.getLast?_cons_cons]; exact e, h0⟩
theorem isP_el {y : Int × P2} (hn : Nm B y.2) (h0 : 0 ≤ y.1) (hz : y.2 ≠ (0, 1)) : isP (.tup [.int y.1, dq y.2]) = true := by
  have h1 := hn.pos
  have h2 := hn.low
  have h3 : ¬ (y.2.1 = 0 ∧ y.2.2 = 1) := fun q => hz (Prod.ext q.1 q.2)
  show (decide (0 ≤ y.1) && (decide (1 ≤ y.2.2) && decide (Int.gcd y.2.1 y.2.2 = 1)) && !decide (y.2.1 = 0 ∧ y.2.2 = 1)) = true
  rw [decide_eq_true h0, decide_eq_true (by omega : 1 ≤ y.2.2), decide_eq_true h2, decide_eq_false h3]
  rfl
theorem sh_pD {P : Tl} : ∀ d ∈ pD P, Sh d := fun d hd => by
  obtain ⟨y, _, rfl⟩ := List.mem_map.mp hd
  exact .p
theorem pD_getD {P : Tl} {j : Nat} (h : j < P.length) : (pD P).getD j .non = .tup [.int (P[j]).1, dq (P[j]).2] := by
  have : (pD P)[j]? = some (.tup [.int (P[j]).1, dq (P[j]).2]) := by
    unfold pD
    rw [List.getElem?_map, List.getElem?_eq_getElem h]
    rfl
  rw [List.getD_eq_getElem?_getD, this]
  rfl
theorem one_chance {P : Tl} (hk : 6 < k) (h : One P) (hQ : Q (.bl true) S) : Γ k "is_chance" [.tup (pD P)] S Q X := by
  refine chance_ok hk (by rw [pD_len]; have := h.pl.len; omega) sh_pD ?_
  have h1 : (pD P).all isP = true := List.all_eq_true.mpr fun d hd => by
    obtain ⟨y, hy, rfl⟩ := List.mem_map.mp hd
    exact isP_el (h.pl.el y hy) (h.ex y hy).1 (h.nz y hy)
  have h2 : ordB (pD P) = true := by
    unfold ordB
    refine List.all_eq_true.mpr fun j hj => ?_
    rw [List.mem_range, pD_len] at hj
    rw [pD_getD (by omega), pD_getD (by omega), decide_eq_true_eq]
    show (P[j]).1 < (P[j + 1]).1
    have := List.pairwise_iff_getElem.mp h.srt j (j + 1) (by unfold kys; rw [List.length_map]; omega) (by unfold kys; rw [List.length_map]; omega) (by omega)
    simpa [kys] using this
  rw [h1, h2]
  exact hQ
def NB (d : D) : Prop := ∀ (k : Nat) (S : Sto) (Q : KD) (X : KX), 6 < k → Q (.bl false) S → Γ k "is_chance" [d] S Q X
theorem nb_int {x : Int} : NB (.int x) := fun k S Q X hk hQ => by
  cases k with
  | zero => omega
  | succ k =>
  refine gam (np := 1) (nn := 3) (b := b_is_chance) rfl rfl ?_
  simp only [b_is_chance, wSs, wS, wT, wE, wEs, wO, wC, wI, wG, wGs, startD, List.map_cons, List.map_nil, List.length_cons, List.length_nil, List.replicate, List.cons_append, List.nil_append, List.append_nil, List.set_cons_zero, List.set_cons_succ, List.getElem?_cons_zero, List.getElem?_cons_succ, itT, wipeD, opAddI, opSubI, opMulI, opDivI, opModI, opPowI, opAddT, cmEq, cmNe, cmLt, cmLe, cmGt, cmGe, cmIn, eqI, eqS, inS2, truB, ixT0, ixT1, ixT2, ixT3, ixT4, ixT6, slcT, lenT, absI, intI, tupleT, listT, listRl, decide_true, decide_false, if_true, if_false, Bool.false_eq_true, reduceIte, decide_eq_true_eq, Bool.not_true, Bool.not_false, line, mI_int, mI_bool, mI_str, mI_tuple, mI_list, mB_int, mB_bool, mB_str, mB_tuple, mB_list, mS_int, mS_bool, mS_str, mS_tuple, mS_list, mT_int, mT_bool, mT_str, mT_tuple, mT_list, mN_int, mN_bool, mN_str, mN_tuple, mN_list, anyT, anyF, Nat.zero_add, Nat.reduceAdd, Nat.reduceLeDiff, true_and]
  exact ⟨S, Sto.le_refl, hQ⟩
theorem nb_str {x : Str} : NB (.str x) := fun k S Q X hk hQ => by
  cases k with
  | zero => omega
  | succ k =>
  refine gam (np := 1) (nn := 3) (b := b_is_chance) rfl rfl ?_
  simp only [b_is_chance, wSs, wS, wT, wE, wEs, wO, wC, wI, wG, wGs, startD, List.map_cons, List.map_nil, List.length_cons, List.length_nil, List.replicate, List.cons_append, List.nil_append, List.append_nil, List.set_cons_zero, List.set_cons_succ, List.getElem?_cons_zero, List.getElem?_cons_succ, itT, wipeD, opAddI, opSubI, opMulI, opDivI, opModI, opPowI, opAddT, cmEq, cmNe, cmLt, cmLe, cmGt, cmGe, cmIn, eqI, eqS, inS2, truB, ixT0, ixT1, ixT2, ixT3, ixT4, ixT6, slcT, lenT, absI, intI, tupleT, listT, listRl, decide_true, decide_false, if_true, if_false, Bool.false_eq_true, reduceIte, decide_eq_true_eq, Bool.not_true, Bool.not_false, line, mI_int, mI_bool, mI_str, mI_tuple, mI_list, mB_int, mB_bool, mB_str, mB_tuple, mB_list, mS_int, mS_bool, mS_str, mS_tuple, mS_list, mT_int, mT_bool, mT_str, mT_tuple, mT_list, mN_int, mN_bool, mN_str, mN_tuple, mN_list, anyT, anyF, Nat.zero_add, Nat.reduceAdd, Nat.reduceLeDiff, true_and]
  exact ⟨S, Sto.le_refl, hQ⟩
theorem nb_tup {l : List D} (hl : l.length ≤ 100) (sh : ∀ d ∈ l, Sh d) (h : (l.all isP && ordB l) = false) : NB (.tup l) := fun k S Q X hk hQ => chance_ok hk hl sh (by rw [h]; exact hQ)
theorem nb_el {l : List D} {d : D} (hl : l.length ≤ 100) (sh : ∀ d ∈ l, Sh d) (hd : d ∈ l) (h : isP d = false) : NB (.tup l) := nb_tup hl sh (by
  have : l.all isP = false := by
    cases e : l.all isP with
    | false => rfl
    | true => rw [List.all_eq_true.mp e d hd] at h; cases h
  rw [this, Bool.false_and])
theorem nb_ord {l : List D} {j : Nat} (hl : l.length ≤ 100) (sh : ∀ d ∈ l, Sh d) (hj : j < l.length - 1) (h : ¬ kyD (l.getD j .non) < kyD (l.getD (j + 1) .non)) : NB (.tup l) := nb_tup hl sh (by
  have : ordB l = false := by
    cases e : ordB l with
    | false => rfl
    | true =>
      unfold ordB at e
      have := List.all_eq_true.mp e j (List.mem_range.mpr hj)
      rw [decide_eq_true_eq] at this
      exact absurd this h
  rw [this, Bool.and_false])
theorem sh1 {d : D} (h : Sh d) : ∀ x ∈ [d], Sh x := fun x hx => by rw [List.mem_singleton] at hx; subst hx; exact h
theorem shA {l m : List D} (h : ∀ x ∈ l, Sh x) (g : ∀ x ∈ m, Sh x) : ∀ x ∈ l ++ m, Sh x := fun x hx => by
  rcases List.mem_append.mp hx with hx | hx
  · exact h x hx
  · exact g x hx
theorem ixLst {l : List D} {d : D} {Q : KD} (h : l.getLast? = some d) : ixR (.tup l) (.int (-1)) S Q = Q d S := ixLast h
def b1 : List D := [.tup [.int 1, .int 2], .tup [.tup [.int 0, fr 2 4]], .tup [.tup [.int 0, fr 0 1]], .tup [.tup [.int (-1), fr 1 2]], .tup [.tup [.int 1, fr 1 2], .tup [.int 0, fr 1 2]], .tup [.tup [.int 0, .int 1]], .str "p", .int 5]
def b2 : List D := [.tup [.tup [.int 0, fr 1 2], .tup [.int 0, fr 1 3]], .tup [.tup [.int 0, fr 1 (-2)]], .tup [.tup [.int 0, fr 1 2, .int 3]], .tup [.tup [.int 1, fr 1 0]]]
theorem nb_b12 : ∀ d ∈ b1 ++ b2, NB d := by
  intro d hd
  unfold b1 b2 at hd
  simp only [List.mem_append, List.mem_cons, List.not_mem_nil, or_false] at hd
  rcases hd with (rfl | rfl | rfl | rfl | rfl | rfl | rfl | rfl) | rfl | rfl | rfl | rfl
  · exact nb_el (d := .int 1) (by simp) (fun x hx => by simp only [List.mem_cons, List.not_mem_nil, or_false] at hx; rcases hx with rfl | rfl <;> exact .i) (by simp) rfl
  · exact nb_el (d := .tup [.int 0, fr 2 4]) (by simp) (sh1 .p) (by simp) (by decide +kernel)
  · exact nb_el (d := .tup [.int 0, fr 0 1]) (by simp) (sh1 .p) (by simp) (by decide +kernel)
  · exact nb_el (d := .tup [.int (-1), fr 1 2]) (by simp) (sh1 .p) (by simp) (by decide +kernel)
  · exact nb_ord (j := 0) (by simp) (fun x hx => by simp only [List.mem_cons, List.not_mem_nil, or_false] at hx; rcases hx with rfl | rfl <;> exact .p) (by simp) (by decide +kernel)
  · exact nb_el (d := .tup [.int 0, .int 1]) (by simp) (sh1 .q) (by simp) rfl
  · exact nb_str
  · exact nb_int
  · exact nb_ord (j := 0) (by simp) (fun x hx => by simp only [List.mem_cons, List.not_mem_nil, or_false] at hx; rcases hx with rfl | rfl <;> exact .p) (by simp) (by decide +kernel)
  · exact nb_el (d := .tup [.int 0, fr 1 (-2)]) (by simp) (sh1 .p) (by simp) (by decide +kernel)
  · exact nb_el (d := .tup [.int 0, fr 1 2, .int 3]) (by simp) (sh1 (.l (by simp))) (by simp) rfl
  · exact nb_el (d := .tup [.int 1, fr 1 0]) (by simp) (sh1 .p) (by simp) (by decide +kernel)
theorem getD_app_l {l m : List D} {j : Nat} (h : j < l.length) : (l ++ m).getD j .non = l.getD j .non := by
  rw [List.getD_eq_getElem?_getD, List.getD_eq_getElem?_getD, List.getElem?_append_left h]
theorem getD_app_r {l : List D} {d : D} : (l ++ [d]).getD l.length .non = d := by
  rw [List.getD_eq_getElem?_getD, List.getElem?_append_right (Nat.le_refl _)]
  simp
theorem bad_ok {P : Tl} {a : Addr} (hk : 0 < k) (h : One P) (hQ : ∀ p L S', S.le S' → S' p = some (.lst L) → L.length ≤ 100 → (∀ d ∈ L, NB d) → Q (.ref p) S') : Γ k "_law_bad" [.ref a, .tup (pD P)] S Q X := by
  cases k with
  | zero => omega
  | succ k =>
  refine gam (np := 2) (nn := 3) (b := b__law_bad) rfl rfl ?_
  simp only [b__law_bad, wSs, wS, wT, wE, wEs, wO, wC, wI, wG, wGs, startD, List.map_cons, List.map_nil, List.length_cons, List.length_nil, List.replicate, List.cons_append, List.nil_append, List.append_nil, List.set_cons_zero, List.set_cons_succ, List.getElem?_cons_zero, List.getElem?_cons_succ, itT, wipeD, opAddI, opSubI, opMulI, opDivI, opModI, opPowI, opAddT, cmEq, cmNe, cmLt, cmLe, cmGt, cmGe, cmIn, eqI, eqS, inS2, truB, ixT0, ixT1, ixT2, ixT3, ixT4, ixT6, slcT, lenT, absI, intI, tupleT, listT, listRl, decide_true, decide_false, if_true, if_false, Bool.false_eq_true, reduceIte, decide_eq_true_eq, Bool.not_true, Bool.not_false, line, mI_int, mI_bool, mI_str, mI_tuple, mI_list, mB_int, mB_bool, mB_str, mB_tuple, mB_list, mS_int, mS_bool, mS_str, mS_tuple, mS_list, mT_int, mT_bool, mT_str, mT_tuple, mT_list, mN_int, mN_bool, mN_str, mN_tuple, mN_list, anyT, anyF, Nat.zero_add, Nat.reduceAdd, Nat.reduceLeDiff, true_and]
  intro p1 hp1
  intro p2 hp2
  have h12 : p1 ≠ p2 := Sto.ne_of Sto.upd_same hp2
  rw [opAddL (by rw [Sto.upd_ne h12]; exact Sto.upd_same) Sto.upd_same]
  refine ⟨by rw [sizeLine_eq]; exact (show (12 : Nat) ≤ 16777216 by decide), ?_⟩
  intro p3 hp3
  have l3 : S.le (((S.upd p1 (.lst b1)).upd p2 (.lst b2)).upd p3 (.lst (b1 ++ b2))) := Sto.le_new' (Sto.le_new' (Sto.le_new hp1) hp2) hp3
  have e3 : (((S.upd p1 (.lst b1)).upd p2 (.lst b2)).upd p3 (.lst (b1 ++ b2))) p3 = some (.lst (b1 ++ b2)) := Sto.upd_same
  have hl4 := h.pl.len
  cases P with
  | nil =>
    rw [if_neg (by simp [pD])]
    exact ⟨_, Sto.le_refl, hQ p3 _ _ l3 e3 (by decide) nb_b12⟩
  | cons z R =>
    have hlen : (pD (z :: R)).length = R.length + 1 := by rw [pD_len]; rfl
    rw [List.length_cons] at hl4
    rw [if_pos (by rw [hlen]; omega)]
    obtain ⟨y, hy⟩ : ∃ y, (z :: R).getLast? = some y := ⟨_, List.getLast?_eq_some_getLast (by simp)⟩
    have hz : pD (z :: R) = .tup [.int z.1, dq z.2] :: pD R := rfl
    rw [ixLast (pD_last hy)]
    refine ⟨by rw [hlen]; omega, by rw [hlen]; omega, ?_⟩
    rw [show ∀ (Sx : Sto) (Qx : KD), ixR (.tup (pD (z :: R))) (.int 0) Sx Qx = Qx (.tup [.int z.1, dq z.2]) Sx from fun Sx Qx => by rw [hz]; exact ixT0]
    refine ⟨by rw [hlen]; omega, by rw [hlen]; omega, ?_⟩
    intro p4 hp4
    have h34 : p3 ≠ p4 := Sto.ne_of Sto.upd_same hp4
    rw [opAddL (by rw [Sto.upd_ne h34]; exact Sto.upd_same) Sto.upd_same]
    refine ⟨by rw [sizeLine_eq]; exact (show (16 : Nat) ≤ 16777216 by decide), ?_⟩
    intro p5 hp5
    refine ⟨_, Sto.le_refl, hQ p5 _ _ (Sto.le_new' (Sto.le_new' l3 hp4) hp5) Sto.upd_same (show 16 ≤ 100 by decide) ?_⟩
    intro d hd
    rcases List.mem_append.mp hd with hd | hd
    · exact nb_b12 d hd
    have hln : ∀ x : D, (pD (z :: R) ++ [x]).length ≤ 100 := fun x => by rw [List.length_append, hlen]; simp; omega
    simp only [List.mem_cons, List.not_mem_nil, or_false] at hd
    rcases hd with rfl | rfl | rfl | rfl
    · refine nb_ord (j := R.length) (hln _) (shA sh_pD (sh1 .p)) (by rw [List.length_append, hlen]; simp) ?_
      have e1 : (pD (z :: R) ++ [D.tup [.int y.1, dq y.2]]).getD (R.length + 1) .non = .tup [.int y.1, dq y.2] := by
        have := getD_app_r (l := pD (z :: R)) (d := .tup [.int y.1, dq y.2])
        rw [hlen] at this
        exact this
      have e2 : (pD (z :: R) ++ [D.tup [.int y.1, dq y.2]]).getD R.length .non = .tup [.int y.1, dq y.2] := by
        rw [getD_app_l (by rw [hlen]; omega)]
        have := pD_last hy
        rw [List.getLast?_eq_getElem?, hlen] at this
        rw [List.getD_eq_getElem?_getD, show R.length = R.length + 1 - 1 by omega, this]
        rfl
      rw [e1, e2]
      exact fun q => by omega
    · exact nb_el (d := .tup [.int 9, fr 0 1]) (hln _) (shA sh_pD (sh1 .p)) (by simp [fr]) (by decide +kernel)
    · refine nb_ord (j := 0) (by rw [List.length_cons, hlen]; omega) (fun x hx => ?_) (by rw [List.length_cons, hlen]; omega) ?_
      · rcases List.mem_cons.mp hx with rfl | hx
        · exact .p
        · exact sh_pD x hx
      · rw [hz]
        show ¬ z.1 < z.1
        omega
    · exact nb_el (d := .tup [.int 8, fr 3 3]) (hln _) (shA sh_pD (sh1 .p)) (by simp [fr]) (by decide +kernel)
end K32
namespace K32
open PySem PySem.Spec PyProof.Rows L2 Mi
variable {k : Nat} {S : Sto} {Q : KD} {X : KX} {pp : Addr} {B : Nat}
theorem isTT {QB : Bool → Prop} : cmR .is (.bl true) (.bl true) S QB = QB true := rfl
theorem isnTT {S : Sto} {QB : Bool → Prop} : cmR .isnot (.bl true) (.bl true) S QB = QB false := rfl
theorem isnFF {S : Sto} {QB : Bool → Prop} : cmR .isnot (.bl false) (.bl false) S QB = QB false := rfl
theorem ok_dq {p : P2} {n : Nat} : Mi.ok (n + 1) (dq p) = true := ok2 ok_int ok_int
theorem ok_pD {P : Tl} (h : P.length ≤ 10000000) : Mi.ok 3 (.tup (pD P)) = true := ok_mk (by rw [pD_len]; exact h) fun x hx => by
  obtain ⟨y, _, rfl⟩ := List.mem_map.mp hx
  exact ok2 ok_int ok_dq
theorem coll_len {P : Tl} (hB : ∀ y ∈ P, Fq B y.2) : (coll P).length ≤ P.length := by
  have ht := tb_ok hB P.length (Nat.le_refl _)
  rw [List.take_length] at ht
  unfold coll
  refine Nat.le_trans (List.length_filterMap_le _ _) ?_
  rw [srt_len, List.length_map]
  exact ht.2
theorem fof_told {f : P2} (hk : 3 < k) (hQ : Q (dq f) S) : Γ k "fraction_of" [.tup (pD (if f = (0, 1) then [] else [(0, f)]))] S Q X := by
  by_cases h0 : f = (0, 1)
  · rw [if_pos h0]
    refine fof_ok hk (fun _ => ?_) (fun y hy => by cases hy) (fun y w T hT => by cases hT)
    rw [h0] at hQ
    exact hQ
  · rw [if_neg h0]
    refine fof_ok hk (fun h => by cases h) (fun y hy hp => ?_) (fun y w T hT hy hp => ?_)
    · have e : ((0 : Int), f) = y := by simpa using hy
      subst e
      exact absurd hp (Int.lt_irrefl 0)
    · cases hT
      exact hQ
def g7 : D → Option D
  | .tup (.int e :: _) => some (.bl (decide (0 < e)))
  | _ => none
theorem asB7 : ∀ P : Tl, asBls ((pD P).filterMap g7) = some (P.map fun y => decide (0 < y.1))
  | [] => rfl
  | y :: P => by
    show asBls (D.bl (decide (0 < y.1)) :: (pD P).filterMap g7) = _
    unfold asBls
    rw [asB7 P]
    rfl
theorem asBF : ∀ l : List D, asBls (l.filterMap fun _ => some (D.bl false)) = some (l.map fun _ => false)
  | [] => rfl
  | y :: P => by
    show asBls (D.bl false :: P.filterMap fun _ => some (D.bl false)) = _
    unfold asBls
    rw [asBF P]
    rfl
theorem anyF' : ∀ l : List D, (l.map fun _ => false).any id = false
  | [] => rfl
  | y :: P => anyF' P
theorem turn_ok {a : Addr} {z : Nat} {ns : List Int} {x2 x3 x4 x5 x6 x7 x8 : Option D} {N : De} (hz : z < 2 ^ 40) (st : Stt S a pp z)
    (hN : ∀ x3 x4 x5 x6 x7 x8 S', Stt S' a pp (z + 28) → N.nx [some (.rl (ns.map .int)), some (.ref a), x2, x3, x4, x5, x6, x7, x8] S') :
    wSs (Γ 99) G0 s_law_3 N [some (.rl (ns.map .int)), some (.ref a), x2, x3, x4, x5, x6, x7, x8] S := by
  simp only [s_law_3, wSs, wS, wT, wE, wEs, wO, wC, wI, wG, wGs, startD, List.map_cons, List.map_nil, List.length_cons, List.length_nil, List.replicate, List.cons_append, List.nil_append, List.append_nil, List.set_cons_zero, List.set_cons_succ, List.getElem?_cons_zero, List.getElem?_cons_succ, itT, wipeD, opAddI, opSubI, opMulI, opDivI, opModI, opPowI, opAddT, cmEq, cmNe, cmLt, cmLe, cmGt, cmGe, cmIn, eqI, eqS, inS2, truB, ixT0, ixT1, ixT2, ixT3, ixT4, ixT6, slcT, lenT, absI, intI, tupleT, listT, listRl, decide_true, decide_false, if_true, if_false, Bool.false_eq_true, reduceIte, decide_eq_true_eq, Bool.not_true, Bool.not_false, line, mI_int, mI_bool, mI_str, mI_tuple, mI_list, mB_int, mB_bool, mB_str, mB_tuple, mB_list, mS_int, mS_bool, mS_str, mS_tuple, mS_list, mT_int, mT_bool, mT_str, mT_tuple, mT_list, mN_int, mN_bool, mN_str, mN_tuple, mN_list, anyT, anyF, Nat.zero_add, Nat.reduceAdd, Nat.reduceLeDiff, true_and]
  refine some_poly_ok (by omega) (by omega) st fun P S1 hP o1 st1 => ?_
  simp only [wSs, wS, wT, wE, wEs, wO, wC, wI, wG, wGs, startD, List.map_cons, List.map_nil, List.length_cons, List.length_nil, List.replicate, List.cons_append, List.nil_append, List.append_nil, List.set_cons_zero, List.set_cons_succ, List.getElem?_cons_zero, List.getElem?_cons_succ, itT, wipeD, opAddI, opSubI, opMulI, opDivI, opModI, opPowI, opAddT, cmEq, cmNe, cmLt, cmLe, cmGt, cmGe, cmIn, eqI, eqS, inS2, truB, ixT0, ixT1, ixT2, ixT3, ixT4, ixT6, slcT, lenT, absI, intI, tupleT, listT, listRl, decide_true, decide_false, if_true, if_false, Bool.false_eq_true, reduceIte, decide_eq_true_eq, Bool.not_true, Bool.not_false, line, mI_int, mI_bool, mI_str, mI_tuple, mI_list, mB_int, mB_bool, mB_str, mB_tuple, mB_list, mS_int, mS_bool, mS_str, mS_tuple, mS_list, mT_int, mT_bool, mT_str, mT_tuple, mT_list, mN_int, mN_bool, mN_str, mN_tuple, mN_list, anyT, anyF, Nat.zero_add, Nat.reduceAdd, Nat.reduceLeDiff, true_and]
  refine some_poly_ok (by omega) (by omega) st1 fun R S2 hR o2 st2 => ?_
  simp only [wSs, wS, wT, wE, wEs, wO, wC, wI, wG, wGs, startD, List.map_cons, List.map_nil, List.length_cons, List.length_nil, List.replicate, List.cons_append, List.nil_append, List.append_nil, List.set_cons_zero, List.set_cons_succ, List.getElem?_cons_zero, List.getElem?_cons_succ, itT, wipeD, opAddI, opSubI, opMulI, opDivI, opModI, opPowI, opAddT, cmEq, cmNe, cmLt, cmLe, cmGt, cmGe, cmIn, eqI, eqS, inS2, truB, ixT0, ixT1, ixT2, ixT3, ixT4, ixT6, slcT, lenT, absI, intI, tupleT, listT, listRl, decide_true, decide_false, if_true, if_false, Bool.false_eq_true, reduceIte, decide_eq_true_eq, Bool.not_true, Bool.not_false, line, mI_int, mI_bool, mI_str, mI_tuple, mI_list, mB_int, mB_bool, mB_str, mB_tuple, mB_list, mS_int, mS_bool, mS_str, mS_tuple, mS_list, mT_int, mT_bool, mT_str, mT_tuple, mT_list, mN_int, mN_bool, mN_str, mN_tuple, mN_list, anyT, anyF, Nat.zero_add, Nat.reduceAdd, Nat.reduceLeDiff, true_and]
  have lP := hP.pl.len
  have lR := hR.pl.len
  have qP : ∀ y ∈ P, Fq 30 y.2 := fun y hy => (hP.pl.el y hy).toFq
  have qPR : ∀ y ∈ P ++ R, Fq 30 y.2 := fun y hy => ((hP.pl.app hR.pl).el y hy).toFq
  have nR : Pl 30 4 (R.map fun y => (y.1, ngq y.2)) := ⟨fun y hy => by
    obtain ⟨x, hx, rfl⟩ := List.mem_map.mp hy
    exact (hR.pl.el x hx).neg, by rw [List.length_map]; exact lR⟩
  have nPR : Pl 30 8 (P ++ R.map fun y => (y.1, ngq y.2)) := hP.pl.app nR
  have qN : ∀ y ∈ P ++ R.map (fun y => (y.1, ngq y.2)), Fq 30 y.2 := fun y hy => (nPR.el y hy).toFq
  have lPR : (P ++ R).length ≤ 8 := by rw [List.length_append]; omega
  have lN := nPR.len
  refine sum_ok (by omega) hP.pl hR.pl ?_
  intro p hp
  intro q hq
  have hpq : p ≠ q := Sto.ne_of Sto.upd_same hq
  rw [opAddL (by rw [Sto.upd_ne hpq]; exact Sto.upd_same) Sto.upd_same]
  refine ⟨by rw [pD_len, pD_len, sizeLine_eq]; omega, ?_⟩
  intro u hu
  refine lcollected_ok (P := P ++ R) (B := 30) (by omega) qPR (size_ok lPR (by decide)) (by omega) (.inr ⟨u, rfl, by rw [Sto.upd_same, pD_app]⟩) ?_
  refine same_ok 3 _ _ _ _ _ (by omega) (ok_pD (by have := coll_len qPR; omega)) ?_
  have st3 := ((st2.new (c := .lst (pD P)) hp).new (c := .lst (pD R)) hq).new (c := .lst (pD P ++ pD R)) hu
  generalize ((S2.upd p (.lst (pD P))).upd q (.lst (pD R))).upd u (.lst (pD P ++ pD R)) = S3 at st3 ⊢
  clear hp hq hpq hu p q u
  simp only [wSs, wS, wT, wE, wEs, wO, wC, wI, wG, wGs, startD, List.map_cons, List.map_nil, List.length_cons, List.length_nil, List.replicate, List.cons_append, List.nil_append, List.append_nil, List.set_cons_zero, List.set_cons_succ, List.getElem?_cons_zero, List.getElem?_cons_succ, itT, wipeD, opAddI, opSubI, opMulI, opDivI, opModI, opPowI, opAddT, cmEq, cmNe, cmLt, cmLe, cmGt, cmGe, cmIn, eqI, eqS, inS2, truB, ixT0, ixT1, ixT2, ixT3, ixT4, ixT6, slcT, lenT, absI, intI, tupleT, listT, listRl, decide_true, decide_false, if_true, if_false, Bool.false_eq_true, reduceIte, decide_eq_true_eq, Bool.not_true, Bool.not_false, line, mI_int, mI_bool, mI_str, mI_tuple, mI_list, mB_int, mB_bool, mB_str, mB_tuple, mB_list, mS_int, mS_bool, mS_str, mS_tuple, mS_list, mT_int, mT_bool, mT_str, mT_tuple, mT_list, mN_int, mN_bool, mN_str, mN_tuple, mN_list, anyT, anyF, Nat.zero_add, Nat.reduceAdd, Nat.reduceLeDiff, true_and]
  refine less_ok' (by omega) hP.pl hR.pl ?_
  intro p hp
  refine turned_ok (by omega) (by omega) fun q hq => ?_
  have hpq : p ≠ q := Sto.ne_of Sto.upd_same hq
  rw [opAddL (by rw [Sto.upd_ne hpq]; exact Sto.upd_same) Sto.upd_same]
  refine ⟨by rw [pD_len, pD_len, List.length_map, sizeLine_eq]; omega, ?_⟩
  intro u hu
  refine lcollected_ok (P := P ++ R.map fun y => (y.1, ngq y.2)) (B := 30) (by omega) qN (size_ok lN (by decide)) (by omega) (.inr ⟨u, rfl, by rw [Sto.upd_same, pD_app]⟩) ?_
  refine same_ok 3 _ _ _ _ _ (by omega) (ok_pD (by have := coll_len qN; omega)) ?_
  have st4 := ((st3.new (c := .lst (pD P)) hp).new (c := .lst (pD (R.map fun y => (y.1, ngq y.2)))) hq).new (c := .lst (pD P ++ pD (R.map fun y => (y.1, ngq y.2)))) hu
  generalize ((S3.upd p (.lst (pD P))).upd q (.lst (pD (R.map fun y => (y.1, ngq y.2))))).upd u (.lst (pD P ++ pD (R.map fun y => (y.1, ngq y.2)))) = S4 at st4 ⊢
  clear hp hq hpq hu p q u
  simp only [wSs, wS, wT, wE, wEs, wO, wC, wI, wG, wGs, startD, List.map_cons, List.map_nil, List.length_cons, List.length_nil, List.replicate, List.cons_append, List.nil_append, List.append_nil, List.set_cons_zero, List.set_cons_succ, List.getElem?_cons_zero, List.getElem?_cons_succ, itT, wipeD, opAddI, opSubI, opMulI, opDivI, opModI, opPowI, opAddT, cmEq, cmNe, cmLt, cmLe, cmGt, cmGe, cmIn, eqI, eqS, inS2, truB, ixT0, ixT1, ixT2, ixT3, ixT4, ixT6, slcT, lenT, absI, intI, tupleT, listT, listRl, decide_true, decide_false, if_true, if_false, Bool.false_eq_true, reduceIte, decide_eq_true_eq, Bool.not_true, Bool.not_false, line, mI_int, mI_bool, mI_str, mI_tuple, mI_list, mB_int, mB_bool, mB_str, mB_tuple, mB_list, mS_int, mS_bool, mS_str, mS_tuple, mS_list, mT_int, mT_bool, mT_str, mT_tuple, mT_list, mN_int, mN_bool, mN_str, mN_tuple, mN_list, anyT, anyF, Nat.zero_add, Nat.reduceAdd, Nat.reduceLeDiff, true_and]
  refine less_ok' (by omega) hP.pl hP.pl ?_
  rw [self_less hP]
  refine same_ok 3 _ _ _ _ _ (by omega) (ok_pD (P := []) (by simp)) ?_
  simp only [wSs, wS, wT, wE, wEs, wO, wC, wI, wG, wGs, startD, List.map_cons, List.map_nil, List.length_cons, List.length_nil, List.replicate, List.cons_append, List.nil_append, List.append_nil, List.set_cons_zero, List.set_cons_succ, List.getElem?_cons_zero, List.getElem?_cons_succ, itT, wipeD, opAddI, opSubI, opMulI, opDivI, opModI, opPowI, opAddT, cmEq, cmNe, cmLt, cmLe, cmGt, cmGe, cmIn, eqI, eqS, inS2, truB, ixT0, ixT1, ixT2, ixT3, ixT4, ixT6, slcT, lenT, absI, intI, tupleT, listT, listRl, decide_true, decide_false, if_true, if_false, Bool.false_eq_true, reduceIte, decide_eq_true_eq, Bool.not_true, Bool.not_false, line, mI_int, mI_bool, mI_str, mI_tuple, mI_list, mB_int, mB_bool, mB_str, mB_tuple, mB_list, mS_int, mS_bool, mS_str, mS_tuple, mS_list, mT_int, mT_bool, mT_str, mT_tuple, mT_list, mN_int, mN_bool, mN_str, mN_tuple, mN_list, anyT, anyF, Nat.zero_add, Nat.reduceAdd, Nat.reduceLeDiff, true_and]
  have qX := prod_el qP (fun y hy => (hR.pl.el y hy).toFq)
  have lX : (prod P R).length ≤ 16 := by rw [prod_len]; exact Nat.mul_le_mul lP lR
  refine product_ok (by omega) hP.pl hR.pl ?_
  refine lproduct_ok (by omega) hP.pl hR.pl ?_
  refine same_ok 3 _ _ _ _ _ (by omega) (ok_pD (by have := coll_len qX; omega)) ?_
  simp only [wSs, wS, wT, wE, wEs, wO, wC, wI, wG, wGs, startD, List.map_cons, List.map_nil, List.length_cons, List.length_nil, List.replicate, List.cons_append, List.nil_append, List.append_nil, List.set_cons_zero, List.set_cons_succ, List.getElem?_cons_zero, List.getElem?_cons_succ, itT, wipeD, opAddI, opSubI, opMulI, opDivI, opModI, opPowI, opAddT, cmEq, cmNe, cmLt, cmLe, cmGt, cmGe, cmIn, eqI, eqS, inS2, truB, ixT0, ixT1, ixT2, ixT3, ixT4, ixT6, slcT, lenT, absI, intI, tupleT, listT, listRl, decide_true, decide_false, if_true, if_false, Bool.false_eq_true, reduceIte, decide_eq_true_eq, Bool.not_true, Bool.not_false, line, mI_int, mI_bool, mI_str, mI_tuple, mI_list, mB_int, mB_bool, mB_str, mB_tuple, mB_list, mS_int, mS_bool, mS_str, mS_tuple, mS_list, mT_int, mT_bool, mT_str, mT_tuple, mT_list, mN_int, mN_bool, mN_str, mN_tuple, mN_list, anyT, anyF, Nat.zero_add, Nat.reduceAdd, Nat.reduceLeDiff, true_and]
  refine draw_ok (by omega) (by omega) (by omega) (by omega) st4 fun r S5 r0 r1 o5 st5 => ?_
  simp only [wSs, wS, wT, wE, wEs, wO, wC, wI, wG, wGs, startD, List.map_cons, List.map_nil, List.length_cons, List.length_nil, List.replicate, List.cons_append, List.nil_append, List.append_nil, List.set_cons_zero, List.set_cons_succ, List.getElem?_cons_zero, List.getElem?_cons_succ, itT, wipeD, opAddI, opSubI, opMulI, opDivI, opModI, opPowI, opAddT, cmEq, cmNe, cmLt, cmLe, cmGt, cmGe, cmIn, eqI, eqS, inS2, truB, ixT0, ixT1, ixT2, ixT3, ixT4, ixT6, slcT, lenT, absI, intI, tupleT, listT, listRl, decide_true, decide_false, if_true, if_false, Bool.false_eq_true, reduceIte, decide_eq_true_eq, Bool.not_true, Bool.not_false, line, mI_int, mI_bool, mI_str, mI_tuple, mI_list, mB_int, mB_bool, mB_str, mB_tuple, mB_list, mS_int, mS_bool, mS_str, mS_tuple, mS_list, mT_int, mT_bool, mT_str, mT_tuple, mT_list, mN_int, mN_bool, mN_str, mN_tuple, mN_list, anyT, anyF, Nat.zero_add, Nat.reduceAdd, Nat.reduceLeDiff, true_and]
  refine draw_ok (by omega) (by omega) (by omega) (by omega) st5 fun r' S6 r0' r1' o6 st6 => ?_
  simp only [wSs, wS, wT, wE, wEs, wO, wC, wI, wG, wGs, startD, List.map_cons, List.map_nil, List.length_cons, List.length_nil, List.replicate, List.cons_append, List.nil_append, List.append_nil, List.set_cons_zero, List.set_cons_succ, List.getElem?_cons_zero, List.getElem?_cons_succ, itT, wipeD, opAddI, opSubI, opMulI, opDivI, opModI, opPowI, opAddT, cmEq, cmNe, cmLt, cmLe, cmGt, cmGe, cmIn, eqI, eqS, inS2, truB, ixT0, ixT1, ixT2, ixT3, ixT4, ixT6, slcT, lenT, absI, intI, tupleT, listT, listRl, decide_true, decide_false, if_true, if_false, Bool.false_eq_true, reduceIte, decide_eq_true_eq, Bool.not_true, Bool.not_false, line, mI_int, mI_bool, mI_str, mI_tuple, mI_list, mB_int, mB_bool, mB_str, mB_tuple, mB_list, mS_int, mS_bool, mS_str, mS_tuple, mS_list, mT_int, mT_bool, mT_str, mT_tuple, mT_list, mN_int, mN_bool, mN_str, mN_tuple, mN_list, anyT, anyF, Nat.zero_add, Nat.reduceAdd, Nat.reduceLeDiff, true_and]
  have hd0 : 0 < 1 + r' := by omega
  have s1 : Sz 5 (r - 10) := Sz.of (by omega) (by omega)
  have s2 : Sz 5 (1 + r') := Sz.of (by omega) (by omega)
  refine lfrac (m := 5) (by omega) hd0 s2 (by decide) ?_
  rw [nrm_dq]
  have hf : Nm 5 (nq (r - 10) (1 + r')) := ⟨nq_ok hd0 s1 s2, nq_low hd0⟩
  generalize nq (r - 10) (1 + r') = f at hf ⊢
  refine value_ok (by omega) hf.toFq hP.pl hP.ex ?_
  refine lvalue_ok (by omega) hf.toFq hP.pl hP.ex ?_
  refine same_ok 3 _ _ _ _ _ (by omega) (ok_mono (by decide : 1 ≤ 3) ok_dq) ?_
  simp only [wSs, wS, wT, wE, wEs, wO, wC, wI, wG, wGs, startD, List.map_cons, List.map_nil, List.length_cons, List.length_nil, List.replicate, List.cons_append, List.nil_append, List.append_nil, List.set_cons_zero, List.set_cons_succ, List.getElem?_cons_zero, List.getElem?_cons_succ, itT, wipeD, opAddI, opSubI, opMulI, opDivI, opModI, opPowI, opAddT, cmEq, cmNe, cmLt, cmLe, cmGt, cmGe, cmIn, eqI, eqS, inS2, truB, ixT0, ixT1, ixT2, ixT3, ixT4, ixT6, slcT, lenT, absI, intI, tupleT, listT, listRl, decide_true, decide_false, if_true, if_false, Bool.false_eq_true, reduceIte, decide_eq_true_eq, Bool.not_true, Bool.not_false, line, mI_int, mI_bool, mI_str, mI_tuple, mI_list, mB_int, mB_bool, mB_str, mB_tuple, mB_list, mS_int, mS_bool, mS_str, mS_tuple, mS_list, mT_int, mT_bool, mT_str, mT_tuple, mT_list, mN_int, mN_bool, mN_str, mN_tuple, mN_list, anyT, anyF, Nat.zero_add, Nat.reduceAdd, Nat.reduceLeDiff, true_and]
  refine told_ok (by omega) (hf.toFq.mono (by decide)) ?_
  intro p hp
  have q1 : ∀ y ∈ [((0 : Int), f)], Fq 5 y.2 := fun y hy => by rw [List.mem_singleton] at hy; subst hy; exact hf.toFq
  refine lcollected_ok (P := [(0, f)]) (B := 5) (by omega) q1 (show 1 + 1 * (5 + 1) ≤ 1500 by decide) (show 1 < 60 by decide) (.inr ⟨p, rfl, Sto.upd_same⟩) ?_
  refine same_ok 3 _ _ _ _ _ (by omega) (ok_pD (by have := coll_len q1; simp only [List.length_singleton] at this; omega)) ?_
  have st7 := st6.new (c := .lst (pD [(0, f)])) hp
  have e7 : S6.upd p (.lst (pD [(0, f)])) = S6.upd p (.lst [.tup [.int 0, dq f]]) := rfl
  rw [e7] at st7
  generalize S6.upd p (.lst [.tup [.int 0, dq f]]) = S7 at st7 ⊢
  simp only [wSs, wS, wT, wE, wEs, wO, wC, wI, wG, wGs, startD, List.map_cons, List.map_nil, List.length_cons, List.length_nil, List.replicate, List.cons_append, List.nil_append, List.append_nil, List.set_cons_zero, List.set_cons_succ, List.getElem?_cons_zero, List.getElem?_cons_succ, itT, wipeD, opAddI, opSubI, opMulI, opDivI, opModI, opPowI, opAddT, cmEq, cmNe, cmLt, cmLe, cmGt, cmGe, cmIn, eqI, eqS, inS2, truB, ixT0, ixT1, ixT2, ixT3, ixT4, ixT6, slcT, lenT, absI, intI, tupleT, listT, listRl, decide_true, decide_false, if_true, if_false, Bool.false_eq_true, reduceIte, decide_eq_true_eq, Bool.not_true, Bool.not_false, line, mI_int, mI_bool, mI_str, mI_tuple, mI_list, mB_int, mB_bool, mB_str, mB_tuple, mB_list, mS_int, mS_bool, mS_str, mS_tuple, mS_list, mT_int, mT_bool, mT_str, mT_tuple, mT_list, mN_int, mN_bool, mN_str, mN_tuple, mN_list, anyT, anyF, Nat.zero_add, Nat.reduceAdd, Nat.reduceLeDiff, true_and]
  refine told_ok (by omega) (hf.toFq.mono (by decide)) ?_
  rw [told_eq hf]
  refine fof_told (by omega) ?_
  refine same_ok 3 _ _ _ _ _ (by omega) (ok_mono (by decide : 1 ≤ 3) ok_dq) ?_
  simp only [wSs, wS, wT, wE, wEs, wO, wC, wI, wG, wGs, startD, List.map_cons, List.map_nil, List.length_cons, List.length_nil, List.replicate, List.cons_append, List.nil_append, List.append_nil, List.set_cons_zero, List.set_cons_succ, List.getElem?_cons_zero, List.getElem?_cons_succ, itT, wipeD, opAddI, opSubI, opMulI, opDivI, opModI, opPowI, opAddT, cmEq, cmNe, cmLt, cmLe, cmGt, cmGe, cmIn, eqI, eqS, inS2, truB, ixT0, ixT1, ixT2, ixT3, ixT4, ixT6, slcT, lenT, absI, intI, tupleT, listT, listRl, decide_true, decide_false, if_true, if_false, Bool.false_eq_true, reduceIte, decide_eq_true_eq, Bool.not_true, Bool.not_false, line, mI_int, mI_bool, mI_str, mI_tuple, mI_list, mB_int, mB_bool, mB_str, mB_tuple, mB_list, mS_int, mS_bool, mS_str, mS_tuple, mS_list, mT_int, mT_bool, mT_str, mT_tuple, mT_list, mN_int, mN_bool, mN_str, mN_tuple, mN_list, anyT, anyF, Nat.zero_add, Nat.reduceAdd, Nat.reduceLeDiff, true_and]
  refine ⟨by rw [pD_len]; omega, cmpL_pure g7 trivial ?_ ?_⟩
  · intro d hd PP hPP
    obtain ⟨y, hy, rfl⟩ := List.mem_map.mp hd
    simp only [e_law_1, wSs, wS, wT, wE, wEs, wO, wC, wI, wG, wGs, startD, List.map_cons, List.map_nil, List.length_cons, List.length_nil, List.replicate, List.cons_append, List.nil_append, List.append_nil, List.set_cons_zero, List.set_cons_succ, List.getElem?_cons_zero, List.getElem?_cons_succ, itT, wipeD, opAddI, opSubI, opMulI, opDivI, opModI, opPowI, opAddT, cmEq, cmNe, cmLt, cmLe, cmGt, cmGe, cmIn, eqI, eqS, inS2, truB, ixT0, ixT1, ixT2, ixT3, ixT4, ixT6, slcT, lenT, absI, intI, tupleT, listT, listRl, decide_true, decide_false, if_true, if_false, Bool.false_eq_true, reduceIte, decide_eq_true_eq, Bool.not_true, Bool.not_false, line, mI_int, mI_bool, mI_str, mI_tuple, mI_list, mB_int, mB_bool, mB_str, mB_tuple, mB_list, mS_int, mS_bool, mS_str, mS_tuple, mS_list, mT_int, mT_bool, mT_str, mT_tuple, mT_list, mN_int, mN_bool, mN_str, mN_tuple, mN_list, anyT, anyF, Nat.zero_add, Nat.reduceAdd, Nat.reduceLeDiff, true_and]
    exact hPP
  simp only [bllR, asB7]
  cases hany : (P.map fun y => decide (0 < y.1)).any id
  case' true =>
    have hex : ∃ y ∈ P, 0 < y.1 := by
      obtain ⟨b, hb, hb'⟩ := List.any_eq_true.mp hany
      obtain ⟨y, hy, rfl⟩ := List.mem_map.mp hb
      exact ⟨y, hy, of_decide_eq_true hb'⟩
    obtain ⟨y, hy, hy0⟩ := last_pos hP.srt hex
    simp only [opAddI, opSubI, opMulI, opDivI, opModI, opPowI, opAddT, cmEq, cmNe, cmLt, cmLe, cmGt, cmGe, cmIn, eqI, eqS, inS2, truB, ixT0, ixT1, ixT2, ixT3, ixT4, ixT6, slcT, lenT, absI, intI, tupleT, listT, listRl, decide_true, decide_false, if_true, if_false, Bool.false_eq_true, reduceIte, decide_eq_true_eq, Bool.not_true, Bool.not_false, line, mI_int, mI_bool, mI_str, mI_tuple, mI_list, mB_int, mB_bool, mB_str, mB_tuple, mB_list, mS_int, mS_bool, mS_str, mS_tuple, mS_list, mT_int, mT_bool, mT_str, mT_tuple, mT_list, mN_int, mN_bool, mN_str, mN_tuple, mN_list, anyT, anyF, Nat.zero_add, Nat.reduceAdd, Nat.reduceLeDiff, true_and]
    refine refuses_ok (by omega) hy hy0 ?_
  all_goals
    simp only [wSs, wS, wT, wE, wEs, wO, wC, wI, wG, wGs, startD, List.map_cons, List.map_nil, List.length_cons, List.length_nil, List.replicate, List.cons_append, List.nil_append, List.append_nil, List.set_cons_zero, List.set_cons_succ, List.getElem?_cons_zero, List.getElem?_cons_succ, itT, wipeD, opAddI, opSubI, opMulI, opDivI, opModI, opPowI, opAddT, cmEq, cmNe, cmLt, cmLe, cmGt, cmGe, cmIn, eqI, eqS, inS2, truB, ixT0, ixT1, ixT2, ixT3, ixT4, ixT6, slcT, lenT, absI, intI, tupleT, listT, listRl, decide_true, decide_false, if_true, if_false, Bool.false_eq_true, reduceIte, decide_eq_true_eq, Bool.not_true, Bool.not_false, line, mI_int, mI_bool, mI_str, mI_tuple, mI_list, mB_int, mB_bool, mB_str, mB_tuple, mB_list, mS_int, mS_bool, mS_str, mS_tuple, mS_list, mT_int, mT_bool, mT_str, mT_tuple, mT_list, mN_int, mN_bool, mN_str, mN_tuple, mN_list, anyT, anyF, Nat.zero_add, Nat.reduceAdd, Nat.reduceLeDiff, true_and]
    refine one_chance (by omega) hP ?_
    rw [isTT]
    simp only [wSs, wS, wT, wE, wEs, wO, wC, wI, wG, wGs, startD, List.map_cons, List.map_nil, List.length_cons, List.length_nil, List.replicate, List.cons_append, List.nil_append, List.append_nil, List.set_cons_zero, List.set_cons_succ, List.getElem?_cons_zero, List.getElem?_cons_succ, itT, wipeD, opAddI, opSubI, opMulI, opDivI, opModI, opPowI, opAddT, cmEq, cmNe, cmLt, cmLe, cmGt, cmGe, cmIn, eqI, eqS, inS2, truB, ixT0, ixT1, ixT2, ixT3, ixT4, ixT6, slcT, lenT, absI, intI, tupleT, listT, listRl, decide_true, decide_false, if_true, if_false, Bool.false_eq_true, reduceIte, decide_eq_true_eq, Bool.not_true, Bool.not_false, line, mI_int, mI_bool, mI_str, mI_tuple, mI_list, mB_int, mB_bool, mB_str, mB_tuple, mB_list, mS_int, mS_bool, mS_str, mS_tuple, mS_list, mT_int, mT_bool, mT_str, mT_tuple, mT_list, mN_int, mN_bool, mN_str, mN_tuple, mN_list, anyT, anyF, Nat.zero_add, Nat.reduceAdd, Nat.reduceLeDiff, true_and]
    refine one_chance (P := []) (by omega) ⟨⟨(fun _ h => by cases h), by decide⟩, (fun _ h => by cases h), .nil, fun _ h => by cases h⟩ ?_
    rw [isnTT]
    simp only [wSs, wS, wT, wE, wEs, wO, wC, wI, wG, wGs, startD, List.map_cons, List.map_nil, List.length_cons, List.length_nil, List.replicate, List.cons_append, List.nil_append, List.append_nil, List.set_cons_zero, List.set_cons_succ, List.getElem?_cons_zero, List.getElem?_cons_succ, itT, wipeD, opAddI, opSubI, opMulI, opDivI, opModI, opPowI, opAddT, cmEq, cmNe, cmLt, cmLe, cmGt, cmGe, cmIn, eqI, eqS, inS2, truB, ixT0, ixT1, ixT2, ixT3, ixT4, ixT6, slcT, lenT, absI, intI, tupleT, listT, listRl, decide_true, decide_false, if_true, if_false, Bool.false_eq_true, reduceIte, decide_eq_true_eq, Bool.not_true, Bool.not_false, line, mI_int, mI_bool, mI_str, mI_tuple, mI_list, mB_int, mB_bool, mB_str, mB_tuple, mB_list, mS_int, mS_bool, mS_str, mS_tuple, mS_list, mT_int, mT_bool, mT_str, mT_tuple, mT_list, mN_int, mN_bool, mN_str, mN_tuple, mN_list, anyT, anyF, Nat.zero_add, Nat.reduceAdd, Nat.reduceLeDiff, true_and]
    refine bad_ok (by omega) hP fun pb L S8 l8 e8 hL nb => ?_
    rw [itL e8]
    refine ⟨by omega, cmpL_pure (fun _ => some (.bl false)) e8 ?_ ?_⟩
    · intro d hd PP hPP
      simp only [e_law_2, wSs, wS, wT, wE, wEs, wO, wC, wI, wG, wGs, startD, List.map_cons, List.map_nil, List.length_cons, List.length_nil, List.replicate, List.cons_append, List.nil_append, List.append_nil, List.set_cons_zero, List.set_cons_succ, List.getElem?_cons_zero, List.getElem?_cons_succ, itT, wipeD, opAddI, opSubI, opMulI, opDivI, opModI, opPowI, opAddT, cmEq, cmNe, cmLt, cmLe, cmGt, cmGe, cmIn, eqI, eqS, inS2, truB, ixT0, ixT1, ixT2, ixT3, ixT4, ixT6, slcT, lenT, absI, intI, tupleT, listT, listRl, decide_true, decide_false, if_true, if_false, Bool.false_eq_true, reduceIte, decide_eq_true_eq, Bool.not_true, Bool.not_false, line, mI_int, mI_bool, mI_str, mI_tuple, mI_list, mB_int, mB_bool, mB_str, mB_tuple, mB_list, mS_int, mS_bool, mS_str, mS_tuple, mS_list, mT_int, mT_bool, mT_str, mT_tuple, mT_list, mN_int, mN_bool, mN_str, mN_tuple, mN_list, anyT, anyF, Nat.zero_add, Nat.reduceAdd, Nat.reduceLeDiff, true_and]
      refine nb d hd _ _ _ _ (by omega) ?_
      rw [isnFF]
      exact hPP
    · simp only [bllR, asBF, anyF', opAddI, opSubI, opMulI, opDivI, opModI, opPowI, opAddT, cmEq, cmNe, cmLt, cmLe, cmGt, cmGe, cmIn, eqI, eqS, inS2, truB, ixT0, ixT1, ixT2, ixT3, ixT4, ixT6, slcT, lenT, absI, intI, tupleT, listT, listRl, decide_true, decide_false, if_true, if_false, Bool.false_eq_true, reduceIte, decide_eq_true_eq, Bool.not_true, Bool.not_false, line, mI_int, mI_bool, mI_str, mI_tuple, mI_list, mB_int, mB_bool, mB_str, mB_tuple, mB_list, mS_int, mS_bool, mS_str, mS_tuple, mS_list, mT_int, mT_bool, mT_str, mT_tuple, mT_list, mN_int, mN_bool, mN_str, mN_tuple, mN_list, anyT, anyF, Nat.zero_add, Nat.reduceAdd, Nat.reduceLeDiff, true_and]
      exact hN _ _ _ _ _ _ _ ((st7.le l8).more (by omega))
theorem law_data : ∀ ns : List Int, ns.length ≤ 63 → Γ 100 "law" [.rl (ns.map .int)] (fun _ => none) (fun d _ => d = .bl true) fun _ _ => False := by
  intro ns _
  refine gam (k := 99) (np := 1) (nn := 9) (b := b_law) rfl rfl ?_
  simp only [b_law, wSs, wS, wT, wE, wEs, wO, wC, wI, wG, wGs, startD, List.map_cons, List.map_nil, List.length_cons, List.length_nil, List.replicate, List.cons_append, List.nil_append, List.append_nil, List.set_cons_zero, List.set_cons_succ, List.getElem?_cons_zero, List.getElem?_cons_succ, itT, wipeD, opAddI, opSubI, opMulI, opDivI, opModI, opPowI, opAddT, cmEq, cmNe, cmLt, cmLe, cmGt, cmGe, cmIn, eqI, eqS, inS2, truB, ixT0, ixT1, ixT2, ixT3, ixT4, ixT6, slcT, lenT, absI, intI, tupleT, listT, listRl, decide_true, decide_false, if_true, if_false, Bool.false_eq_true, reduceIte, decide_eq_true_eq, Bool.not_true, Bool.not_false, line, mI_int, mI_bool, mI_str, mI_tuple, mI_list, mB_int, mB_bool, mB_str, mB_tuple, mB_list, mS_int, mS_bool, mS_str, mS_tuple, mS_list, mT_int, mT_bool, mT_str, mT_tuple, mT_list, mN_int, mN_bool, mN_str, mN_tuple, mN_list, anyT, anyF, Nat.zero_add, Nat.reduceAdd, Nat.reduceLeDiff, true_and]
  refine start_ok (by omega) fun a pp S1 ha hle st => ?_
  refine letter_ok (by omega) ?_
  refine same_ok 3 _ _ _ _ _ (by omega) (ok_pD (P := [(1, (1, 1))]) (by decide)) ?_
  simp only [wSs, wS, wT, wE, wEs, wO, wC, wI, wG, wGs, startD, List.map_cons, List.map_nil, List.length_cons, List.length_nil, List.replicate, List.cons_append, List.nil_append, List.append_nil, List.set_cons_zero, List.set_cons_succ, List.getElem?_cons_zero, List.getElem?_cons_succ, itT, wipeD, opAddI, opSubI, opMulI, opDivI, opModI, opPowI, opAddT, cmEq, cmNe, cmLt, cmLe, cmGt, cmGe, cmIn, eqI, eqS, inS2, truB, ixT0, ixT1, ixT2, ixT3, ixT4, ixT6, slcT, lenT, absI, intI, tupleT, listT, listRl, decide_true, decide_false, if_true, if_false, Bool.false_eq_true, reduceIte, decide_eq_true_eq, Bool.not_true, Bool.not_false, line, mI_int, mI_bool, mI_str, mI_tuple, mI_list, mB_int, mB_bool, mB_str, mB_tuple, mB_list, mS_int, mS_bool, mS_str, mS_tuple, mS_list, mT_int, mT_bool, mT_str, mT_tuple, mT_list, mN_int, mN_bool, mN_str, mN_tuple, mN_list, anyT, anyF, Nat.zero_add, Nat.reduceAdd, Nat.reduceLeDiff, true_and]
  refine ⟨by unfold inB; decide, ?_⟩
  refine forL_inv (rngD 0 3) (fun i σ S' => ∃ x2 x3 x4 x5 x6 x7 x8, σ = [some (.rl (ns.map .int)), some (.ref a), x2, x3, x4, x5, x6, x7, x8] ∧ Stt S' a pp (28 * i)) (fun _ _ _ _ => trivial) ?_ ?_ ⟨_, _, _, _, _, _, _, rfl, st⟩
  · rintro i d σ S' NX hd ⟨x2, x3, x4, x5, x6, x7, x8, rfl, st'⟩ hN
    have hi : i < 3 := (List.getElem?_eq_some_iff.mp hd).1
    refine turn_ok (by omega) st' fun x3 x4 x5 x6 x7 x8 S2 st2 => ?_
    exact hN _ _ ⟨_, _, _, _, _, _, _, rfl, st2.more (by omega)⟩
  · rintro σ S' ⟨x2, x3, x4, x5, x6, x7, x8, rfl, st'⟩
    exact ⟨S', Sto.le_refl, trivial⟩
end K32
set_option maxHeartbeats 0
namespace K32
open PySem PySem.Spec PyProof.Rows L2 Mi
theorem fs_plain : ∀ d ∈ fs, d.d.at_ = (d.d.name, none) ∧ d.d.dfl = [] ∧ d.d.kwd = [] ∧ K32.Tm.fns.contains d.d.name = true ∧ bd d.d.name = some (d.ps.length, d.N.length, d.body) ∧ d.d ∈ fnD := by
  intro d hd
  simp only [fs, List.mem_cons, List.not_mem_nil, or_false] at hd
  rcases hd with rfl | rfl | rfl | rfl | rfl | rfl | rfl | rfl | rfl | rfl | rfl | rfl | rfl | rfl | rfl | rfl | rfl | rfl | rfl | rfl | rfl | rfl | rfl | rfl | rfl | rfl | rfl | rfl | rfl | rfl | rfl | rfl | rfl
  all_goals exact ⟨rfl, rfl, rfl, by decide +kernel, rfl, List.mem_map_of_mem (by simp [fs])⟩
theorem T_fns : ∀ x : Str, K32.Tm.fns.contains x = true → ∃ d ∈ fs, d.d.name = x := by
  intro x hx
  have h : x ∈ K32.Tm.fns := by simpa using hx
  have e : K32.Tm.fns = fs.map fun d => d.d.name := rfl
  rw [e] at h
  obtain ⟨d, hd, e⟩ := List.mem_map.mp h
  exact ⟨d, hd, e⟩
theorem facts {w : World} {K : PySem.W.Frag} {h : Heap} {mg : Str → Option Value} {fa0 : Addr} (X : K.In h) (G : h.Ns mainGlobals mg) (hmg : mg ("law" : Str) = some (.ref fa0)) (ce : Mi.SaysE fa fnD PySem.Challenge.pw_castbypowers_k32_chances_as_polynomials.main.file ins K32.Tm.sub true gl K)
    (data : ∀ ns : List Int, ns.length ≤ 63 → Γ 100 "law" [.rl (ns.map .int)] (fun _ => none) (fun d _ => d = .bl true) fun _ _ => False) :
    ∃ (K : PySem.W.Frag) (fd : FuncData) (sp : Sp), K.In h ∧ (∀ (s : Shared) (u : Value), BindsTo s fd ⟨[u], []⟩ [(("script" : Str), u)]) ∧
      (∀ (H : Hp) (a : Addr) (ns : List Int), ns.length ≤ 63 → Only H → SqL K H a (ns.map V.int) → sp [.ref a] H (fun v _ => v = .bl true) fun _ _ _ => False) ∧
      ∀ base : Heap, K.In base → base.Ns mainGlobals mg → FnOk PySem.Challenge.pw_castbypowers_k32_chances_as_polynomials w K mg base (L2.CX PySem.Challenge.pw_castbypowers_k32_chances_as_polynomials w) 102 fa0 fd ["script"] sp := by
  have c := ce.d
  have glo : ∀ d ∈ fs, mg d.d.name = some (.ref (He.ga K d.d.name)) := fun d hd => by
    obtain ⟨h1, h2, h3, h4, h5, h6⟩ := fs_plain d hd
    refine He.glo_ok X G (c.facts (f := .glo d.d.name) ?_)
    refine List.mem_append_right _ (List.mem_map_of_mem ?_)
    simpa using h4
  have dd : ∀ d ∈ fs, ∃ fd, DnD K d (He.ga K d.d.name) fd := fun d hd => by
    obtain ⟨h1, h2, h3, h4, h5, h6⟩ := fs_plain d hd
    obtain ⟨fd, F⟩ := c.defs h6
    refine ⟨fd, ?_⟩
    have e1 : d.d.dvs K = [] := by unfold He.DefD.dvs; rw [h2]; rfl
    have e2 : d.d.kws K = [] := by unfold He.DefD.kws; rw [h3]; rfl
    have e3 : He.fAd K d.d.at_ = He.ga K d.d.name := by rw [h1]; rfl
    rw [e1, e2, e3] at F
    exact F
  have hl : d_law ∈ fs := by simp [fs]
  obtain ⟨fd, F⟩ := dd _ hl
  have ef : fa0 = He.ga K "law" := by
    have := glo _ hl
    have e : d_law.d.name = ("law" : Str) := rfl
    rw [e, hmg] at this
    cases this
    rfl
  subst ef
  refine ⟨K, fd, LF K (Γ 100 "law"), X, fun s u => F.bindsA (ps := ["script"]) (fun _ _ _ _ _ _ us hl => match us, hl with | [_], _ => rfl) s [u] rfl, fun H a ns hn hO hS => ?_, fun base _ _ => ?_⟩
  · refine ⟨[.rl (ns.map .int)], fun _ => none, fun _ => none, _, _, empty_rel, .cons (script_rd hO hS) .nil, data ns hn, fun d S' v H' q e r rd => ?_, .no⟩
    subst q
    exact rd.bli
  · exact prog_ok T_fns ok_all (fun d hd => (fs_plain d hd).2.2.2.2.1) (fun d hd => let ⟨fd, F⟩ := dd d hd; ⟨_, fd, glo d hd, F⟩)
      (fun x hx => He.free_ok X G (c.facts (f := .free x) (List.mem_append_left _ (List.mem_map_of_mem (by simpa using hx))))) (fun _ => ce.gcd X G) (fun x d _ hx => ce.glb X G hx)
      (fun x hx => by
        have h : x ∈ ins.map (·.cls) := by have e : K32.Tm.exc = ins.map (·.cls) := rfl; rw [← e]; simpa using hx
        obtain ⟨d, hd, rfl⟩ := List.mem_map.mp h
        obtain ⟨h1, h2⟩ := ce.ins_ hd
        exact excF_of X G (ins_ok d hd) h1 h2)
      (fun x c b hy => subF_of X G (ce.sub_ hy)) 100 d_law hl _ fd F
end K32
set_option maxHeartbeats 0
open PySem PySem.W PySem.Calls PyProof.Rows
theorem PySem.Challenge.cw_castbypowers_k32_chances_as_polynomials_holds : PySem.Challenge.rw_castbypowers_k32_chances_as_polynomials.Holds := by
  w_on; o_law
  refine HandSHeadRun.head_imp (r := OpenLaw.row PySem.Challenge.rw_castbypowers_k32_chances_as_polynomials) (q := view (OpenLaw.row PySem.Challenge.rw_castbypowers_k32_chances_as_polynomials).prog [0, 42]) (H := K32.hk) (ob := K32.ob) (M := 6000) (loose := K32.loose) (d := HandSHeadRun.topDef (OpenLaw.row PySem.Challenge.rw_castbypowers_k32_chances_as_polynomials).prog 42) (kwd := []) K32.ob_eq
    K32.run (by kernel_rfl) (by kernel_rfl) (by kernel_rfl) (by rfl) (by first | assumption | decide +kernel) (by decide +kernel) ⟨rfl, rfl, rfl, rfl, rfl, by decide +kernel⟩ ?hw ?hc
  case hw => w_witness2
  case hc =>
    refine Mi.law_walk (l := PySem.Challenge.rw_castbypowers_k32_chances_as_polynomials) (n := 63) (k := 102) (x := "script") rfl (by decide) (by kernel_rfl) ⟨rfl, by decide, by decide⟩ ?F
    case F =>
      intro w mg fa h Y G hmg0
      obtain ⟨K, KX, c⟩ := Y
      have hmg : mg ("law" : PySem.Str) = some (.ref fa) := by
        have e : (HandSHeadRun.topDef (OpenLaw.row PySem.Challenge.rw_castbypowers_k32_chances_as_polynomials).prog 42).name = ("law" : PySem.Str) := by kernel_rfl
        rw [← e]
        exact hmg0
      exact K32.facts (w := w) KX G hmg c K32.law_data
