import PyProof.Rows.All
import Wide.All
import OpenK.AllK
import Wide.FinOn
import KE.KStateDown
import HandS.ForMost
import HandS.Gcd
import HandS.Conv
import HandS.IsInst
import HandS.Star
import HandS.Sort
import HandS.Strs
import HandS.SortInts
import HandS.Wide
import HandS.RaiseMore
import HandS.Defaults
import KE.KTupSum
import HandS.Style
import HandS.HeadHook2
import Flt.RightSqrt
import HandS.TryOnly
import HandS.SetFor
import HandS.Nested
import KE.KSuper
import PyProof.Rows.Range3
import HandS.Head0
import HandS.Head1
import HandS.Head2
import HandS.Head3
import HandS.HeadEnd
import PySem.Challenge.RW_bendsigns_k21_whole_bends_that_touch_a_r
set_option Elab.async false
set_option linter.all false
set_option maxRecDepth 100000
set_option maxHeartbeats 4000000
/-! a data-level logic over the hand layer: values as trees (D), the heap out of sight -/
namespace BS
open PySem PySem.Spec PyProof.Rows L2

inductive D where
  | non | bl (b : Bool) | int (i : Int) | str (x : Str) | ty (n : String) | cls (a : Addr) | jar
  | tup (ds : List D) | lst (ds : List D) | ins (C : Addr) (ks : List Str) (ds : List D) | fz (K : PySem.W.Frag) (ns : List Int)

mutual
def Rep (J : Option Addr) (G : Hp) : D → V → Prop
  | .non, v => v = .non
  | .bl b, v => v = .bl b
  | .int i, v => v = .int i
  | .str x, v => v = .str x
  | .ty n, v => v = .ty n
  | .cls a, v => v = .ref a
  | .jar, v => ∃ a, J = some a ∧ v = .ref a
  | .tup ds, v => ∃ a xs, v = .ref a ∧ G a = some (.tup xs) ∧ RepL J G ds xs
  | .lst ds, v => ∃ a xs, v = .ref a ∧ G a = some (.lst xs) ∧ RepL J G ds xs
  | .ins C ks ds, v => ∃ a dx fs, v = .ref a ∧ G a = some (.ins C dx fs) ∧ fs.map (·.1) = ks ∧ RepL J G ds (fs.map (·.2))
  | .fz K ns, v => ∃ a, v = .ref a ∧ SqL K G a (ns.map V.int)
def RepL (J : Option Addr) (G : Hp) : List D → List V → Prop
  | [], xs => xs = []
  | d :: ds, xs => ∃ x r, xs = x :: r ∧ Rep J G d x ∧ RepL J G ds r
end

section
variable {J : Option Addr} {G G' H H' : Hp} {d : D} {ds es : List D} {v x : V} {xs ys : List V}
theorem sqL_same {K : PySem.W.Frag} {a : Addr} {xs : List V} (e : Same G G') (h : SqL K G a xs) : SqL K G' a xs := by
  rcases h with (h | ⟨o, h⟩) | h
  · exact .inl (.inl (e _ _ h))
  · exact .inl (.inr ⟨o, e _ _ h⟩)
  · exact .inr h
mutual
theorem Rep.mono (e : Same G G') : ∀ {d : D} {v : V}, Rep J G d v → Rep J G' d v
  | .non, _, h => h
  | .bl _, _, h => h
  | .int _, _, h => h
  | .str _, _, h => h
  | .ty _, _, h => h
  | .cls _, _, h => h
  | .jar, _, h => h
  | .tup _, _, h => by
    obtain ⟨a, xs, h1, h2, h3⟩ := h
    exact ⟨a, xs, h1, e _ _ h2, RepL.mono e h3⟩
  | .lst _, _, h => by
    obtain ⟨a, xs, h1, h2, h3⟩ := h
    exact ⟨a, xs, h1, e _ _ h2, RepL.mono e h3⟩
  | .ins _ _ _, _, h => by
    obtain ⟨a, dx, fs, h1, h2, h3, h4⟩ := h
    exact ⟨a, dx, fs, h1, e _ _ h2, h3, RepL.mono e h4⟩
  | .fz _ _, _, h => by
    obtain ⟨a, h1, h2⟩ := h
    exact ⟨a, h1, sqL_same e h2⟩
theorem RepL.mono (e : Same G G') : ∀ {ds : List D} {xs : List V}, RepL J G ds xs → RepL J G' ds xs
  | [], _, h => h
  | _ :: _, _, h => by
    obtain ⟨x, r, h1, h2, h3⟩ := h
    exact ⟨x, r, h1, Rep.mono e h2, RepL.mono e h3⟩
end
theorem RepL.length : ∀ {ds : List D} {xs : List V}, RepL J G ds xs → xs.length = ds.length
  | [], _, h => by rw [show _ = [] from h]; rfl
  | _ :: _, _, h => by
    obtain ⟨x, r, h1, _, h3⟩ := h
    rw [h1, List.length_cons, List.length_cons, RepL.length h3]
theorem RepL.get : ∀ {ds : List D} {xs : List V} {i : Nat} {d : D}, RepL J G ds xs → ds[i]? = some d → ∃ x, xs[i]? = some x ∧ Rep J G d x
  | [], _, _, _, _, e => by simp at e
  | _ :: _, _, 0, _, h, e => by
    obtain ⟨x, r, h1, h2, _⟩ := h
    have e' := Option.some.inj e
    subst e' h1
    exact ⟨x, rfl, h2⟩
  | _ :: ds, _, i + 1, d, h, e => by
    obtain ⟨x, r, h1, _, h3⟩ := h
    subst h1
    have e' : ds[i]? = some d := by simpa using e
    obtain ⟨y, h4, h5⟩ := RepL.get h3 e'
    exact ⟨y, by simpa using h4, h5⟩
theorem RepL.get' : ∀ {ds : List D} {xs : List V} {i : Nat} {x : V}, RepL J G ds xs → xs[i]? = some x → ∃ d, ds[i]? = some d ∧ Rep J G d x
  | [], _, _, _, h, e => by rw [show _ = [] from h] at e; simp at e
  | d :: _, _, 0, _, h, e => by
    obtain ⟨x, r, h1, h2, _⟩ := h
    subst h1
    have e' := Option.some.inj e
    subst e'
    exact ⟨d, rfl, h2⟩
  | _ :: _, _, i + 1, z, h, e => by
    obtain ⟨x, r, h1, _, h3⟩ := h
    subst h1
    have e' : r[i]? = some z := by simpa using e
    obtain ⟨y, h4, h5⟩ := RepL.get' h3 e'
    exact ⟨y, by simpa using h4, h5⟩
theorem RepL.append : ∀ {ds es : List D} {xs ys : List V}, RepL J G ds xs → RepL J G es ys → RepL J G (ds ++ es) (xs ++ ys)
  | [], _, _, _, h, k => by rw [show _ = [] from h]; exact k
  | _ :: _, _, _, _, h, k => by
    obtain ⟨x, r, h1, h2, h3⟩ := h
    subst h1
    exact ⟨x, _, rfl, h2, RepL.append h3 k⟩
theorem RepL.one (h : Rep J G d v) : RepL J G [d] [v] := ⟨v, [], rfl, h, rfl⟩
theorem RepL.set : ∀ {ds : List D} {xs : List V} (i : Nat), Rep J G d v → RepL J G ds xs → RepL J G (ds.set i d) (xs.set i v)
  | [], _, _, _, h => by rw [show _ = [] from h]; rfl
  | _ :: _, _, 0, k, h => by
    obtain ⟨x, r, h1, h2, h3⟩ := h
    subst h1
    exact ⟨v, r, rfl, k, h3⟩
  | _ :: _, _, i + 1, k, h => by
    obtain ⟨x, r, h1, h2, h3⟩ := h
    subst h1
    exact ⟨x, _, rfl, h2, RepL.set i k h3⟩
theorem RepL.eraseIdx : ∀ {ds : List D} {xs : List V} (i : Nat), RepL J G ds xs → RepL J G (ds.eraseIdx i) (xs.eraseIdx i)
  | [], _, _, h => by rw [show _ = [] from h]; rfl
  | _ :: _, _, 0, h => by
    obtain ⟨x, r, h1, h2, h3⟩ := h
    subst h1
    exact h3
  | _ :: _, _, i + 1, h => by
    obtain ⟨x, r, h1, h2, h3⟩ := h
    subst h1
    exact ⟨x, _, rfl, h2, RepL.eraseIdx i h3⟩
theorem RepL.ints : ∀ {ns : List Int} {xs : List V}, RepL J G (ns.map D.int) xs → xs = ns.map V.int
  | [], _, h => h
  | n :: ns, _, h => by
    obtain ⟨x, r, h1, h2, h3⟩ := h
    rw [h1, show x = V.int n from h2, RepL.ints h3]
    rfl
theorem RepL.of_ints : ∀ (ns : List Int), RepL J G (ns.map D.int) (ns.map V.int)
  | [] => rfl
  | n :: ns => ⟨.int n, _, rfl, rfl, RepL.of_ints ns⟩
theorem RepL.bls : ∀ {ns : List Bool} {xs : List V}, RepL J G (ns.map D.bl) xs → xs = ns.map V.bl
  | [], _, h => h
  | n :: ns, _, h => by
    obtain ⟨x, r, h1, h2, h3⟩ := h
    rw [h1, show x = V.bl n from h2, RepL.bls h3]
    rfl
/-- a permutation of the values is told by one of the data -/
theorem RepL.perm {xs ys : List V} (p : ys.Perm xs) : ∀ {ds : List D}, RepL J G ds xs → ∃ es, es.Perm ds ∧ RepL J G es ys := by
  induction p with
  | nil => intro ds h; exact ⟨ds, List.Perm.refl _, h⟩
  | cons x p ih =>
    intro ds h
    cases ds with
    | nil => exact absurd (show _ = [] from h) (by simp)
    | cons d ds =>
      obtain ⟨y, r, e, h2, h3⟩ := h
      injection e with e1 e2
      subst e1 e2
      obtain ⟨es, pe, he⟩ := ih h3
      exact ⟨d :: es, pe.cons d, x, _, rfl, h2, he⟩
  | swap x y l =>
    intro ds h
    cases ds with
    | nil => exact absurd (show _ = [] from h) (by simp)
    | cons d ds =>
      obtain ⟨y1, r, e, h2, h3⟩ := h
      injection e with e1 e2
      subst e1 e2
      cases ds with
      | nil => exact absurd (show _ = [] from h3) (by simp)
      | cons d' ds =>
        obtain ⟨y2, r2, e, h4, h5⟩ := h3
        injection e with e1 e2
        subst e1 e2
        exact ⟨d' :: d :: ds, List.Perm.swap _ _ _, _, _, rfl, h4, _, _, rfl, h2, h5⟩
  | trans p1 p2 ih1 ih2 =>
    intro ds h
    obtain ⟨es, pe, he⟩ := ih2 h
    obtain ⟨es', pe', he'⟩ := ih1 he
    exact ⟨es', pe'.trans pe, he'⟩
end

/-- the jar at j, at most t turns begun; its cells held firm -/
def JarB (J : Option Addr) (G H : Hp) (t : Nat) : Prop := ∀ j, J = some j → ∃ (c : Addr) (u r : Int) (cells : List Int), H j = some (.lst [.ref c, .int u, .int r]) ∧ G c = some (.lst (cells.map V.int)) ∧ G j = none ∧
  0 ≤ u ∧ u ≤ (t : Int) ∧ 0 ≤ r

/-- what a call may do: all that was known stays, but the jar; what was not held firm stays so -/
structure Gr (J : Option Addr) (G H G' H' : Hp) : Prop where
  exG : Same G G'
  exH : ∀ a o, H a = some o → J ≠ some a → H' a = some o
  nof : ∀ a o, H a = some o → G a = none → G' a = none
theorem Gr.refl (J : Option Addr) (G H : Hp) : Gr J G H G H := ⟨Same.refl _, fun _ _ h _ => h, fun _ _ _ h => h⟩

/-- what a name's own object holds: a list that may still change, an instance that is being made -/
inductive Con where
  | lst (ao : Option Addr) (ds : List D) | obj (a C : Addr) (ks : List Str) (ds : List D)
/-- ao: where it stands, if that is to be known -/
def RepC (J : Option Addr) (G : Hp) : Con → Addr → HO → Prop
  | .lst ao ds, p, o => (∀ b, ao = some b → p = b) ∧ ∃ xs, o = .lst xs ∧ RepL J G ds xs
  | .obj a C ks ds, p, o => p = a ∧ ∃ dx fs, o = .ins C dx fs ∧ fs.map (·.1) = ks ∧ RepL J G ds (fs.map (·.2)) ∧ fs.length < 900
theorem RepC.mono {J : Option Addr} {G G' : Hp} (e : Same G G') : ∀ {c : Con} {p : Addr} {o : HO}, RepC J G c p o → RepC J G' c p o
  | .lst _ _, _, _, h => by
    obtain ⟨ha, xs, h1, h2⟩ := h
    exact ⟨ha, xs, h1, h2.mono e⟩
  | .obj _ _ _ _, _, _, h => by
    obtain ⟨ha, dx, fs, h1, h2, h3, h4⟩ := h
    exact ⟨ha, dx, fs, h1, h2, h3.mono e, h4⟩

inductive Sl where
  | any | d (x : D) | own (c : Con)

structure Stt (J : Option Addr) (G0 H0 G H : Hp) (t : Nat) (σ : L2.St) (env : List Sl) : Prop where
  gr : Gr J G0 H0 G H
  sub : Same G H
  jar : JarB J G H t
  len : σ.length = env.length
  val : ∀ (i : Nat) d, env[i]? = some (Sl.d d) → ∃ v, σ[i]? = some (some v) ∧ Rep J G d v
  own : ∀ (i : Nat) c, env[i]? = some (Sl.own c) → ∃ p o, σ[i]? = some (some (.ref p)) ∧ H p = some o ∧ RepC J G c p o ∧ G p = none ∧ H0 p = none ∧ J ≠ some p
  dist : ∀ (i k : Nat) c c' p, env[i]? = some (Sl.own c) → env[k]? = some (Sl.own c') → σ[i]? = some (some (.ref p)) → σ[k]? = some (some (.ref p)) → i = k

section
variable {J : Option Addr} {G0 H0 G H G' H' : Hp} {t t' : Nat} {σ : L2.St} {env : List Sl}
theorem same_new {p : Addr} {o : HO} (n : H p = none) : Same H (upd H p o) := fun a u e => by
  rw [upd_ne (ne_of_none e n)]
  exact e
theorem same_new2 {p : Addr} {o : HO} (s : Same G H) : Same (upd G p o) (upd H p o) := fun a u e => by
  by_cases ha : a = p
  · subst ha
    rw [upd_same] at e ⊢
    exact e
  · rw [upd_ne ha] at e ⊢
    exact s a u e
theorem JarB.jg (jar : JarB J G H t) {j : Addr} (e : J = some j) : G j = none := by
  obtain ⟨_, _, _, _, _, _, h, _⟩ := jar j e
  exact h
theorem JarB.jh (jar : JarB J G H t) {j : Addr} (e : J = some j) : ∃ o, H j = some o := by
  obtain ⟨_, _, _, _, h, _⟩ := jar j e
  exact ⟨_, h⟩
theorem Gr.trans {G1 H1 G2 H2 : Hp} (a : Gr J G H G1 H1) (b : Gr J G1 H1 G2 H2) (hj : ∀ j, J = some j → G2 j = none) : Gr J G H G2 H2 where
  exG := a.exG.trans b.exG
  exH := fun x o h n => b.exH x o (a.exH x o h n) n
  nof := fun x o h n => by
    by_cases e : J = some x
    · exact hj x e
    · exact b.nof x o (a.exH x o h e) (a.nof x o h n)
/-- behind a call -/
theorem Stt.gr' (S : Stt J G0 H0 G H t σ env) (g : Gr J G H G' H') (sub : Same G' H') (jar : JarB J G' H' t') : Stt J G0 H0 G' H' t' σ env := by
  refine ⟨S.gr.trans g fun j e => jar.jg e, sub, jar, S.len, fun i d e => ?_, fun i ds e => ?_, S.dist⟩
  · obtain ⟨v, h1, h2⟩ := S.val i d e
    exact ⟨v, h1, h2.mono g.exG⟩
  · obtain ⟨p, o, h1, h2, h3, h4, h5, h6⟩ := S.own i ds e
    exact ⟨p, o, h1, g.exH p _ h2 h6, h3.mono g.exG, g.nof p _ h2 h4, h5, h6⟩
theorem JarB.grow (jar : JarB J G H t) (s : ∀ a o, H a = some o → H' a = some o) (g : Same G G') (n : ∀ j, J = some j → G' j = none) : JarB J G' H' t := fun j e => by
  obtain ⟨c, u, r, cells, h, h2, _, h3⟩ := jar j e
  exact ⟨c, u, r, cells, s _ _ h, g _ _ h2, n j e, h3⟩
/-- a new object, held firm -/
theorem Stt.alloc {p : Addr} {o : HO} (S : Stt J G0 H0 G H t σ env) (n : H p = none) : Stt J G0 H0 (upd G p o) (upd H p o) t σ env := by
  have n2 : G p = none := S.sub.free n
  refine S.gr' ⟨same_new n2, fun a u h _ => same_new n a u h, fun a u h k => ?_⟩ (same_new2 S.sub) (S.jar.grow (same_new n) (same_new n2) fun j e => ?_)
  · rw [upd_ne (ne_of_none h n)]
    exact k
  · obtain ⟨u, h⟩ := S.jar.jh e
    rw [upd_ne (ne_of_none h n)]
    exact S.jar.jg e
/-- a new object, not held firm -/
theorem Stt.loose {p : Addr} {o : HO} (S : Stt J G0 H0 G H t σ env) (n : H p = none) : Stt J G0 H0 G (upd H p o) t σ env :=
  S.gr' ⟨Same.refl _, fun a u h _ => same_new n a u h, fun a u h k => k⟩ (S.sub.trans (same_new n)) (S.jar.grow (same_new n) (Same.refl _) fun j e => S.jar.jg e)
/-- an object that is nobody's is changed -/
theorem Stt.wr {p : Addr} {o : HO} (S : Stt J G0 H0 G H t σ env) (g : G p = none) (h0 : H0 p = none) (hj : J ≠ some p) (ho : ∀ (i : Nat) c, env[i]? = some (Sl.own c) → σ[i]? ≠ some (some (.ref p))) : Stt J G0 H0 G (upd H p o) t σ env := by
  have sg : Same G (upd H p o) := fun a u e => by
    rw [upd_ne (ne_of_none e g)]
    exact S.sub a u e
  refine ⟨⟨S.gr.exG, fun a u h k => ?_, S.gr.nof⟩, sg, fun j e => ?_, S.len, S.val, fun i c e => ?_, S.dist⟩
  · rw [upd_ne (ne_of_none h h0)]
    exact S.gr.exH a u h k
  · obtain ⟨c, u, r, cells, h, h2, h3⟩ := S.jar j e
    refine ⟨c, u, r, cells, ?_, h2, h3⟩
    rw [upd_ne fun z => hj (by rw [e, z])]
    exact h
  · obtain ⟨q, u, h1, h2, h3⟩ := S.own i c e
    refine ⟨q, u, h1, ?_, h3⟩
    rw [upd_ne fun z => ho i c e (by rw [← z]; exact h1)]
    exact h2
theorem get_set_cases {α : Type} {l : List α} {i k : Nat} {x y : α} (h : (l.set i x)[k]? = some y) : (k = i ∧ y = x ∧ i < l.length) ∨ (k ≠ i ∧ l[k]? = some y) := by
  by_cases e : k = i
  · subst e
    have hl : k < (l.set k x).length := (List.getElem?_eq_some_iff.mp h).1
    rw [List.length_set] at hl
    rw [List.getElem?_set_self hl] at h
    exact .inl ⟨rfl, (Option.some.inj h).symm, hl⟩
  · rw [List.getElem?_set_ne (Ne.symm e)] at h
    exact .inr ⟨e, h⟩
theorem Stt.put {d : D} {v : V} (S : Stt J G0 H0 G H t σ env) (r : Rep J G d v) (i : Nat) : Stt J G0 H0 G H t (σ.set i (some v)) (env.set i (.d d)) := by
  refine ⟨S.gr, S.sub, S.jar, by rw [List.length_set, List.length_set]; exact S.len, fun k x e => ?_, fun k c e => ?_, fun k l c c' p e1 e2 e3 e4 => ?_⟩
  · rcases get_set_cases e with ⟨rfl, e1, hl⟩ | ⟨hk, e1⟩
    · injection e1 with e1
      subst e1
      exact ⟨v, by rw [List.getElem?_set_self (by rw [S.len]; exact hl)], r⟩
    · rw [List.getElem?_set_ne (Ne.symm hk)]
      exact S.val k x e1
  · rcases get_set_cases e with ⟨rfl, e1, hl⟩ | ⟨hk, e1⟩
    · cases e1
    · rw [List.getElem?_set_ne (Ne.symm hk)]
      exact S.own k c e1
  · rcases get_set_cases e1 with ⟨rfl, e1, hl⟩ | ⟨hk, e1⟩
    · cases e1
    · rcases get_set_cases e2 with ⟨rfl, e2, hl⟩ | ⟨hk2, e2⟩
      · cases e2
      · rw [List.getElem?_set_ne (Ne.symm hk)] at e3
        rw [List.getElem?_set_ne (Ne.symm hk2)] at e4
        exact S.dist k l c c' p e1 e2 e3 e4
/-- a name gets an object of its own -/
theorem Stt.putOwn {c : Con} {p : Addr} {o : HO} (S : Stt J G0 H0 G H t σ env) (i : Nat) (h : H p = some o) (r : RepC J G c p o) (g : G p = none) (h0 : H0 p = none) (hj : J ≠ some p)
    (ho : ∀ (k : Nat) c, k ≠ i → env[k]? = some (Sl.own c) → σ[k]? ≠ some (some (.ref p))) : Stt J G0 H0 G H t (σ.set i (some (.ref p))) (env.set i (.own c)) := by
  refine ⟨S.gr, S.sub, S.jar, by rw [List.length_set, List.length_set]; exact S.len, fun k x e => ?_, fun k c e => ?_, fun k l c c' p' e1 e2 e3 e4 => ?_⟩
  · rcases get_set_cases e with ⟨rfl, e1, hl⟩ | ⟨hk, e1⟩
    · cases e1
    · rw [List.getElem?_set_ne (Ne.symm hk)]
      exact S.val k x e1
  · rcases get_set_cases e with ⟨rfl, e1, hl⟩ | ⟨hk, e1⟩
    · injection e1 with e1
      subst e1
      exact ⟨p, o, by rw [List.getElem?_set_self (by rw [S.len]; exact hl)], h, r, g, h0, hj⟩
    · rw [List.getElem?_set_ne (Ne.symm hk)]
      exact S.own k c e1
  · rcases get_set_cases e1 with ⟨rfl, e1', hl⟩ | ⟨hk, e1'⟩
    · rcases get_set_cases e2 with ⟨rfl, e2', hl2⟩ | ⟨hk2, e2'⟩
      · rfl
      · rw [List.getElem?_set_self (by rw [S.len]; exact hl)] at e3
        rw [List.getElem?_set_ne (Ne.symm hk2)] at e4
        have e5 : p' = p := by
          have := Option.some.inj (Option.some.inj e3)
          injection this with this
          exact this.symm
        subst e5
        exact absurd e4 (ho l c' hk2 e2')
    · rcases get_set_cases e2 with ⟨rfl, e2', hl2⟩ | ⟨hk2, e2'⟩
      · rw [List.getElem?_set_self (by rw [S.len]; exact hl2)] at e4
        rw [List.getElem?_set_ne (Ne.symm hk)] at e3
        have e5 : p' = p := by
          have := Option.some.inj (Option.some.inj e4)
          injection this with this
          exact this.symm
        subst e5
        exact absurd e3 (ho k c hk e1')
      · rw [List.getElem?_set_ne (Ne.symm hk)] at e3
        rw [List.getElem?_set_ne (Ne.symm hk2)] at e4
        exact S.dist k l c c' p' e1' e2' e3 e4
/-- a name's own object is changed -/
theorem Stt.mut {c c' : Con} {p : Addr} {o : HO} {i : Nat} (S : Stt J G0 H0 G H t σ env) (e : env[i]? = some (.own c)) (ep : σ[i]? = some (some (.ref p))) (r : RepC J G c' p o) : Stt J G0 H0 G (upd H p o) t σ (env.set i (.own c')) := by
  have hl : i < env.length := (List.getElem?_eq_some_iff.mp e).1
  obtain ⟨p', o', h1, h2, h3, h4, h5, h6⟩ := S.own i c e
  have e5 : p' = p := by
    rw [h1] at ep
    have := Option.some.inj (Option.some.inj ep)
    injection this
  subst e5
  have sg : Same G (upd H p' o) := fun a u e => by
    rw [upd_ne (ne_of_none e h4)]
    exact S.sub a u e
  have other : ∀ k c'', env[k]? = some (Sl.own c'') → k ≠ i → σ[k]? ≠ some (some (.ref p')) := fun k c'' e1 hk z => hk (S.dist k i c'' c p' e1 e z h1)
  refine ⟨⟨S.gr.exG, fun a u h k => ?_, S.gr.nof⟩, sg, fun j ej => ?_, by rw [List.length_set]; exact S.len, fun k x e1 => ?_, fun k c'' e1 => ?_, fun k l d d' q e1 e2 e3 e4 => ?_⟩
  · rw [upd_ne (ne_of_none h h5)]
    exact S.gr.exH a u h k
  · obtain ⟨c, u, r, cells, h, h2, h3⟩ := S.jar j ej
    refine ⟨c, u, r, cells, ?_, h2, h3⟩
    rw [upd_ne fun z => h6 (by rw [ej, z])]
    exact h
  · rcases get_set_cases e1 with ⟨rfl, e1', _⟩ | ⟨hk, e1'⟩
    · cases e1'
    · exact S.val k x e1'
  · rcases get_set_cases e1 with ⟨rfl, e1', _⟩ | ⟨hk, e1'⟩
    · injection e1' with e1'
      subst e1'
      exact ⟨p', o, h1, upd_same, r, h4, h5, h6⟩
    · obtain ⟨q, u, z1, z2, z3⟩ := S.own k c'' e1'
      refine ⟨q, u, z1, ?_, z3⟩
      rw [upd_ne fun z => other k c'' e1' hk (by rw [← z]; exact z1)]
      exact z2
  · have back : ∀ {k d}, (env.set i (Sl.own c'))[k]? = some (Sl.own d) → ∃ d2, env[k]? = some (Sl.own d2) := fun {k d} z => by
      rcases get_set_cases z with ⟨rfl, _, _⟩ | ⟨_, z⟩
      · exact ⟨c, e⟩
      · exact ⟨d, z⟩
    obtain ⟨d2, e1'⟩ := back e1
    obtain ⟨d2', e2'⟩ := back e2
    exact S.dist k l d2 d2' q e1' e2' e3 e4
/-- names forgotten -/
def forg (env : List Sl) (vs : List Nat) : List Sl := vs.foldl (fun e i => e.set i .any) env
theorem Stt.drop1 (S : Stt J G0 H0 G H t σ env) (i : Nat) (v : Option V) : Stt J G0 H0 G H t (σ.set i v) (env.set i .any) := by
  refine ⟨S.gr, S.sub, S.jar, by rw [List.length_set, List.length_set]; exact S.len, fun k x e => ?_, fun k c e => ?_, fun k l c c' p e1 e2 e3 e4 => ?_⟩
  · rcases get_set_cases e with ⟨rfl, e1, hl⟩ | ⟨hk, e1⟩
    · cases e1
    · rw [List.getElem?_set_ne (Ne.symm hk)]
      exact S.val k x e1
  · rcases get_set_cases e with ⟨rfl, e1, hl⟩ | ⟨hk, e1⟩
    · cases e1
    · rw [List.getElem?_set_ne (Ne.symm hk)]
      exact S.own k c e1
  · rcases get_set_cases e1 with ⟨rfl, e1, hl⟩ | ⟨hk, e1⟩
    · cases e1
    · rcases get_set_cases e2 with ⟨rfl, e2, hl⟩ | ⟨hk2, e2⟩
      · cases e2
      · rw [List.getElem?_set_ne (Ne.symm hk)] at e3
        rw [List.getElem?_set_ne (Ne.symm hk2)] at e4
        exact S.dist k l c c' p e1 e2 e3 e4
/-- a name's own list held firm from now on -/
theorem Stt.firm {ao : Option Addr} {ds : List D} {i : Nat} (S : Stt J G0 H0 G H t σ env) (e : env[i]? = some (.own (.lst ao ds))) : ∃ G' p, σ[i]? = some (some (.ref p)) ∧ G p = none ∧ G' = upd G p (H p |>.getD (.lst [])) ∧ Same G G' ∧ Stt J G0 H0 G' H t σ (env.set i (.d (.lst ds))) := by
  have hl : i < env.length := (List.getElem?_eq_some_iff.mp e).1
  obtain ⟨p, o, h1, h2, ⟨hao, xs, h3, hr⟩, h4, h5, h6⟩ := S.own i _ e
  subst h3
  have sG : Same G (upd G p (.lst xs)) := same_new h4
  refine ⟨upd G p (.lst xs), p, h1, h4, by rw [h2]; rfl, sG, ⟨S.gr.exG.trans sG, S.gr.exH, fun a u h k => ?_⟩, fun a u h => ?_, fun j ej => ?_, by rw [List.length_set]; exact S.len, fun k x e1 => ?_, fun k c e1 => ?_, fun k l d d' q e1 e2 e3 e4 => ?_⟩
  · rw [upd_ne (ne_of_none h h5)]
    exact S.gr.nof a u h k
  · by_cases ha : a = p
    · subst ha
      rw [upd_same] at h
      rw [← h]
      exact h2
    · rw [upd_ne ha] at h
      exact S.sub a u h
  · obtain ⟨c, u, r, cells, z1, z2, z3, z4⟩ := S.jar j ej
    refine ⟨c, u, r, cells, z1, sG _ _ z2, ?_, z4⟩
    rw [upd_ne fun z => h6 (by rw [ej, z])]
    exact z3
  · rcases get_set_cases e1 with ⟨rfl, e1', _⟩ | ⟨hk, e1'⟩
    · injection e1' with e1'
      subst e1'
      exact ⟨.ref p, h1, p, xs, rfl, upd_same, hr.mono sG⟩
    · obtain ⟨v, z1, z2⟩ := S.val k x e1'
      exact ⟨v, z1, z2.mono sG⟩
  · rcases get_set_cases e1 with ⟨rfl, e1', _⟩ | ⟨hk, e1'⟩
    · cases e1'
    · obtain ⟨q, u, z1, z2, z3, z4, z5, z6⟩ := S.own k c e1'
      refine ⟨q, u, z1, z2, z3.mono sG, ?_, z5, z6⟩
      rw [upd_ne fun z => hk (S.dist k i c _ p e1' e (by rw [← z]; exact z1) h1)]
      exact z4
  · have back : ∀ {k d}, (env.set i (Sl.d (.lst ds)))[k]? = some (Sl.own d) → env[k]? = some (Sl.own d) := fun {k d} z => by
      rcases get_set_cases z with ⟨rfl, z, _⟩ | ⟨_, z⟩
      · cases z
      · exact z
    exact S.dist k l d d' q (back e1) (back e2) e3 e4
/-- a block of a comprehension: what was a name's own is not touched there -/
def unown (env : List Sl) : List Sl := env.map fun s => match s with
  | .own _ => .any
  | s => s
theorem unown_get {i : Nat} {s : Sl} (h : (unown env)[i]? = some s) : (∀ c, s ≠ .own c) ∧ (s = .any ∨ env[i]? = some s) := by
  unfold unown at h
  rw [List.getElem?_map] at h
  cases e : env[i]? with
  | none => rw [e] at h; cases h
  | some u =>
    rw [e] at h
    have h' := Option.some.inj h
    cases u with
    | any => subst h'; exact ⟨fun c z => (by cases z), .inl rfl⟩
    | d x => subst h'; exact ⟨fun c z => (by cases z), .inr rfl⟩
    | own c => subst h'; exact ⟨fun c z => (by cases z), .inl rfl⟩
theorem Stt.block (S : Stt J G0 H0 G H t σ env) : Stt J G H G H t σ (unown env) := by
  refine ⟨Gr.refl _ _ _, S.sub, S.jar, by unfold unown; rw [List.length_map]; exact S.len, fun i d e => ?_, fun i c e => absurd rfl ((unown_get e).1 c), fun i k c c' p e => absurd rfl ((unown_get e).1 c)⟩
  rcases (unown_get e).2 with z | z
  · cases z
  · exact S.val i d z
end
end BS

set_option Elab.async false
set_option linter.all false
set_option maxRecDepth 100000
set_option maxHeartbeats 4000000
/-! the judgements of the data-level logic and their rules -/
namespace BS
open PySem PySem.Spec PyProof.Rows L2

/-! ### the canonical readings -/
def WE (X : Cx) (e : Expr) : TE := fun σ H Q => ∀ (pins : List (Addr × Obj)) (s : Shared), Inv X pins σ H s → wpAny (model X.prog X.w) X.A (eval e X.env) (EP X pins σ Q) X.xe s
def WT (X : Cx) (e : Expr) : TT := fun σ H Q => ∀ (pins : List (Addr × Obj)) (s : Shared), Inv X pins σ H s → wpAny (model X.prog X.w) X.A (isTrue e X.env (eval e X.env)) (TP X pins σ Q) X.xe s
def WW (X : Cx) (e : Expr) : TT := fun σ H Q => ∀ (wh : Sem Value) (pins : List (Addr × Obj)) (s : Shared), Inv X pins σ H s → wpAny (model X.prog X.w) X.A (isTrue e X.env wh) (TP X pins σ Q) X.xe s
def WA (X : Cx) (es : List Expr) : TA := fun σ H Q => ∀ (pos : Pos) (pins : List (Addr × Obj)) (s : Shared), Inv X pins σ H s → wpAny (model X.prog X.w) X.A (spliced (backTo pos (starEach es X.env))) (AP X pins σ Q) X.xe s
def WS (X : Cx) (st : Stmt) : TS := fun D σ H => ∀ (pins : List (Addr × Obj)) (s : Shared), Inv X pins σ H s → wpAny (model X.prog X.w) X.A (exec st X.env) (SP X pins D) X.xe s
def WSs (X : Cx) (st : List Stmt) : TS := fun D σ H => ∀ (pins : List (Addr × Obj)) (s : Shared), Inv X pins σ H s → wpAny (model X.prog X.w) X.A (execs st X.env) (SP X pins D) X.xe s
def WG (X : Cx) (tg : Expr) : TG := fun v σ H Q => ∀ (pins : List (Addr × Obj)) (s : Shared) (u : Value), Inv X pins σ H s → RelV v u →
    wpAny (model X.prog X.w) X.A (assign tg X.env u) (fun _ s' => ∃ σ' H', Inv X pins σ' H' s' ∧ Q σ' H') X.xe s
def WI (X : Cx) (tg iter : Expr) : TI := fun σ H R => ∀ (pins : List (Addr × Obj)) (s : Shared), Inv X pins σ H s →
    wpAny (model X.prog X.w) X.A (eval iter X.env) (fun v s1 => wpAny (model X.prog X.w) X.A (pyIter v) (PIE X pins σ tg R) X.xe s1) X.xe s
section
variable {X : Cx} {e : Expr} {es : List Expr} {st : Stmt} {sts : List Stmt} {tg iter : Expr}
theorem pe_w : PE X e (WE X e) := ⟨fun pins s σ H Q I h => h pins s I⟩
theorem pt_w : PT X e (WT X e) := ⟨fun pins s σ H Q I h => h pins s I⟩
theorem pw_w : PW X e (WW X e) := ⟨fun wh pins s σ H Q I h => h wh pins s I⟩
theorem pa_w : PA X es (WA X es) := ⟨fun pos pins s σ H Q I h => h pos pins s I⟩
theorem ps_w : PS X st (WS X st) := ⟨fun pins s σ H D I h => h pins s I⟩
theorem pss_w : PSs X sts (WSs X sts) := ⟨fun pins s σ H D I h => h pins s I⟩
theorem pg_w : PG X tg (WG X tg) := ⟨fun pins s σ H v u Q I r h => h pins s u I r⟩
theorem pi_w : PI X tg iter (WI X tg iter) := ⟨fun pins s σ H R I h => h pins s I⟩
variable {σ : L2.St} {H : Hp}
theorem WE.of {te : TE} {Q : VK} (h : PE X e te) (q : te σ H Q) : WE X e σ H Q := fun pins s I => h.run pins s σ H Q I q
theorem WT.of {tt : TT} {Q : Bool → Hp → Prop} (h : PT X e tt) (q : tt σ H Q) : WT X e σ H Q := fun pins s I => h.run pins s σ H Q I q
theorem WW.of {tt : TT} {Q : Bool → Hp → Prop} (h : PW X e tt) (q : tt σ H Q) : WW X e σ H Q := fun wh pins s I => h.run wh pins s σ H Q I q
theorem WA.of {ta : TA} {Q : List V → Hp → Prop} (h : PA X es ta) (q : ta σ H Q) : WA X es σ H Q := fun pos pins s I => h.run pos pins s σ H Q I q
theorem WS.of {t : TS} {D : Ends} (h : PS X st t) (q : t D σ H) : WS X st D σ H := fun pins s I => h.run pins s σ H D I q
theorem WSs.of {t : TS} {D : Ends} (h : PSs X sts t) (q : t D σ H) : WSs X sts D σ H := fun pins s I => h.run pins s σ H D I q
theorem WG.of {t : TG} {v : V} {Q : L2.St → Hp → Prop} (h : PG X tg t) (q : t v σ H Q) : WG X tg v σ H Q := fun pins s u I r => h.run pins s σ H v u Q I r q
theorem WI.of {wi : TI} {R : It → Hp → Prop} (h : PI X tg iter wi) (q : wi σ H R) : WI X tg iter σ H R := fun pins s I => h.run pins s σ H R I q
theorem WE.mono {Q Q' : VK} (h : WE X e σ H Q) (k : ∀ v H', Q v H' → Q' v H') : WE X e σ H Q' := fun pins s I => thn (h pins s I) fun u s' ⟨v, H', I', r, q⟩ => ⟨v, H', I', r, k v H' q⟩
theorem WT.mono {Q Q' : Bool → Hp → Prop} (h : WT X e σ H Q) (k : ∀ v H', Q v H' → Q' v H') : WT X e σ H Q' := fun pins s I => thn (h pins s I) fun u s' ⟨H', I', q⟩ => ⟨H', I', k u H' q⟩
theorem WW.mono {Q Q' : Bool → Hp → Prop} (h : WW X e σ H Q) (k : ∀ v H', Q v H' → Q' v H') : WW X e σ H Q' := fun wh pins s I => thn (h wh pins s I) fun u s' ⟨H', I', q⟩ => ⟨H', I', k u H' q⟩
theorem WA.mono {Q Q' : List V → Hp → Prop} (h : WA X es σ H Q) (k : ∀ v H', Q v H' → Q' v H') : WA X es σ H Q' := fun pos pins s I => thn (h pos pins s I) fun u s' ⟨v, H', I', r, q⟩ => ⟨v, H', I', r, k v H' q⟩
theorem sp_mono {pins : List (Addr × Obj)} {D D' : Ends} {f : Flow} {s' : Shared} (h : SP X pins D f s') (k1 : ∀ σ H, D.nx σ H → D'.nx σ H) (k2 : ∀ v H, D.rt v H → D'.rt v H) (k3 : ∀ σ H, D.bk σ H → D'.bk σ H) (k4 : ∀ σ H, D.ct σ H → D'.ct σ H) : SP X pins D' f s' := by
  cases f with
  | next => obtain ⟨σ', H', I, q⟩ := h; exact ⟨σ', H', I, k1 _ _ q⟩
  | brk => obtain ⟨σ', H', I, q⟩ := h; exact ⟨σ', H', I, k3 _ _ q⟩
  | cont => obtain ⟨σ', H', I, q⟩ := h; exact ⟨σ', H', I, k4 _ _ q⟩
  | ret u => obtain ⟨v, σ', H', I, r, q⟩ := h; exact ⟨v, σ', H', I, r, k2 _ _ q⟩
theorem WS.mono {D D' : Ends} (h : WS X st D σ H) (k1 : ∀ σ H, D.nx σ H → D'.nx σ H) (k2 : ∀ v H, D.rt v H → D'.rt v H) (k3 : ∀ σ H, D.bk σ H → D'.bk σ H) (k4 : ∀ σ H, D.ct σ H → D'.ct σ H) : WS X st D' σ H := fun pins s I => thn (h pins s I) fun f s' q => sp_mono q k1 k2 k3 k4
theorem WSs.mono {D D' : Ends} (h : WSs X sts D σ H) (k1 : ∀ σ H, D.nx σ H → D'.nx σ H) (k2 : ∀ v H, D.rt v H → D'.rt v H) (k3 : ∀ σ H, D.bk σ H → D'.bk σ H) (k4 : ∀ σ H, D.ct σ H → D'.ct σ H) : WSs X sts D' σ H := fun pins s I => thn (h pins s I) fun f s' q => sp_mono q k1 k2 k3 k4
theorem WG.mono {v : V} {Q Q' : L2.St → Hp → Prop} (h : WG X tg v σ H Q) (k : ∀ σ H', Q σ H' → Q' σ H') : WG X tg v σ H Q' := fun pins s u I r => thn (h pins s u I r) fun _ s' ⟨σ', H', I', q⟩ => ⟨σ', H', I', k _ _ q⟩
end

/-! ### the judgements -/
def PostE (J : Option Addr) (G0 H0 Gb : Hp) (σ : L2.St) (env : List Sl) (Q : Nat → D → Prop) : VK := fun v H' => ∃ G' t' d, Same Gb G' ∧ Stt J G0 H0 G' H' t' σ env ∧ Rep J G' d v ∧ Q t' d
def PostT (J : Option Addr) (G0 H0 Gb : Hp) (σ : L2.St) (env : List Sl) (Q : Nat → Bool → Prop) : Bool → Hp → Prop := fun b H' => ∃ G' t', Same Gb G' ∧ Stt J G0 H0 G' H' t' σ env ∧ Q t' b
def PostA (J : Option Addr) (G0 H0 Gb : Hp) (σ : L2.St) (env : List Sl) (Q : Nat → List D → Prop) : List V → Hp → Prop := fun vs H' => ∃ G' t' ds, Same Gb G' ∧ Stt J G0 H0 G' H' t' σ env ∧ RepL J G' ds vs ∧ Q t' ds
def PostL (J : Option Addr) (G0 H0 Gb : Hp) (σ : L2.St) (env : List Sl) (Q : Nat → List D → Prop) : VK := fun v H' => ∃ G' t' p xs ds, v = .ref p ∧ Same Gb G' ∧ Stt J G0 H0 G' H' t' σ env ∧ H' p = some (.lst xs) ∧ RepL J G' ds xs ∧
  G' p = none ∧ H0 p = none ∧ J ≠ some p ∧ (∀ (k : Nat) c, env[k]? = some (Sl.own c) → σ[k]? ≠ some (some (.ref p))) ∧ Q t' ds
def PostN (J : Option Addr) (G0 H0 Gb : Hp) (Q : Nat → List Sl → Prop) : L2.St → Hp → Prop := fun σ' H' => ∃ G' t' env', Same Gb G' ∧ Stt J G0 H0 G' H' t' σ' env' ∧ Q t' env'
def PostR (J : Option Addr) (G0 H0 : Hp) (R : Nat → List Sl → D → Prop) : VK := fun v H' => ∃ G' t' σ' env' d, Stt J G0 H0 G' H' t' σ' env' ∧ Rep J G' d v ∧ R t' env' d
/-- what an iterator hands out -/
def ItOk (J : Option Addr) (It : L2.It) (G : Hp) (ds : List D) : Prop := ∀ G' H', Same G G' → Same G' H' → (∀ (i : Nat) d, ds[i]? = some d → It.go i H' ∧ ∀ x H3, It.yld i H' x H3 → H3 = H' ∧ Rep J G' d x) ∧ It.stop ds.length H'
def PostI (J : Option Addr) (G0 H0 Gb : Hp) (σ : L2.St) (env : List Sl) (Q : Nat → List D → Prop) : It → Hp → Prop := fun It H' => ∃ G' t' ds, Same Gb G' ∧ Stt J G0 H0 G' H' t' σ env ∧ ItOk J It G' ds ∧ Q t' ds

def XE (X : Cx) (e : Expr) (t : Nat) (env : List Sl) (Q : Nat → D → Prop) : Prop := ∀ J G0 H0 G H σ, Stt J G0 H0 G H t σ env → WE X e σ H (PostE J G0 H0 G σ env Q)
def XT (X : Cx) (e : Expr) (t : Nat) (env : List Sl) (Q : Nat → Bool → Prop) : Prop := ∀ J G0 H0 G H σ, Stt J G0 H0 G H t σ env → WT X e σ H (PostT J G0 H0 G σ env Q)
def XW (X : Cx) (e : Expr) (t : Nat) (env : List Sl) (Q : Nat → Bool → Prop) : Prop := ∀ J G0 H0 G H σ, Stt J G0 H0 G H t σ env → WW X e σ H (PostT J G0 H0 G σ env Q)
def XA (X : Cx) (es : List Expr) (t : Nat) (env : List Sl) (Q : Nat → List D → Prop) : Prop := ∀ J G0 H0 G H σ, Stt J G0 H0 G H t σ env → WA X es σ H (PostA J G0 H0 G σ env Q)
/-- an expression that makes a new list -/
def XL (X : Cx) (e : Expr) (t : Nat) (env : List Sl) (Q : Nat → List D → Prop) : Prop := ∀ J G0 H0 G H σ, Stt J G0 H0 G H t σ env → WE X e σ H (PostL J G0 H0 G σ env Q)
def XS (X : Cx) (st : Stmt) (t : Nat) (env : List Sl) (Q : Nat → List Sl → Prop) (R : Nat → List Sl → D → Prop) : Prop := ∀ J G0 H0 G H σ, Stt J G0 H0 G H t σ env → WS X st { nx := PostN J G0 H0 G Q, rt := PostR J G0 H0 R } σ H
def XSs (X : Cx) (st : List Stmt) (t : Nat) (env : List Sl) (Q : Nat → List Sl → Prop) (R : Nat → List Sl → D → Prop) : Prop := ∀ J G0 H0 G H σ, Stt J G0 H0 G H t σ env → WSs X st { nx := PostN J G0 H0 G Q, rt := PostR J G0 H0 R } σ H
def XG (X : Cx) (tg : Expr) (t : Nat) (env : List Sl) (d : D) (Q : List Sl → Prop) : Prop := ∀ J G0 H0 G H σ v, Stt J G0 H0 G H t σ env → Rep J G d v → WG X tg v σ H (PostN J G0 H0 G fun t' env' => t' = t ∧ Q env')
def XI (X : Cx) (tg iter : Expr) (t : Nat) (env : List Sl) (Q : Nat → List D → Prop) : Prop := ∀ J G0 H0 G H σ, Stt J G0 H0 G H t σ env → WI X tg iter σ H (PostI J G0 H0 G σ env Q)

section
variable {X : Cx} {e a b c : Expr} {es : List Expr} {st : Stmt} {sts rest : List Stmt} {tg iter : Expr} {t : Nat} {env : List Sl} {pos : Pos} {ta tb te : TE}
theorem PostE.sub {J : Option Addr} {G0 H0 G1 G2 H : Hp} {σ : L2.St} {Q : Nat → D → Prop} {v : V} (s : Same G1 G2) (h : PostE J G0 H0 G2 σ env Q v H) : PostE J G0 H0 G1 σ env Q v H := by
  obtain ⟨G', t', d, h1, h2⟩ := h
  exact ⟨G', t', d, s.trans h1, h2⟩
theorem PostT.sub {J : Option Addr} {G0 H0 G1 G2 H : Hp} {σ : L2.St} {Q : Nat → Bool → Prop} {v : Bool} (s : Same G1 G2) (h : PostT J G0 H0 G2 σ env Q v H) : PostT J G0 H0 G1 σ env Q v H := by
  obtain ⟨G', t', h1, h2⟩ := h
  exact ⟨G', t', s.trans h1, h2⟩
theorem PostN.sub {J : Option Addr} {G0 H0 G1 G2 H : Hp} {σ : L2.St} {Q : Nat → List Sl → Prop} (s : Same G1 G2) (h : PostN J G0 H0 G2 Q σ H) : PostN J G0 H0 G1 Q σ H := by
  obtain ⟨G', t', env', h1, h2⟩ := h
  exact ⟨G', t', env', s.trans h1, h2⟩
theorem XE.mono {Q Q' : Nat → D → Prop} (h : XE X e t env Q) (k : ∀ t d, Q t d → Q' t d) : XE X e t env Q' := fun J G0 H0 G H σ S => (h J G0 H0 G H σ S).mono fun v H' ⟨G', t', d, h1, h2, h3, h4⟩ => ⟨G', t', d, h1, h2, h3, k _ _ h4⟩
theorem XT.mono {Q Q' : Nat → Bool → Prop} (h : XT X e t env Q) (k : ∀ t d, Q t d → Q' t d) : XT X e t env Q' := fun J G0 H0 G H σ S => (h J G0 H0 G H σ S).mono fun v H' ⟨G', t', h1, h2, h4⟩ => ⟨G', t', h1, h2, k _ _ h4⟩
theorem XA.mono {Q Q' : Nat → List D → Prop} (h : XA X es t env Q) (k : ∀ t d, Q t d → Q' t d) : XA X es t env Q' := fun J G0 H0 G H σ S => (h J G0 H0 G H σ S).mono fun v H' ⟨G', t', d, h1, h2, h3, h4⟩ => ⟨G', t', d, h1, h2, h3, k _ _ h4⟩
theorem XS.mono {Q Q' : Nat → List Sl → Prop} {R R' : Nat → List Sl → D → Prop} (h : XS X st t env Q R) (k : ∀ t d, Q t d → Q' t d) (k2 : ∀ t e d, R t e d → R' t e d) : XS X st t env Q' R' := fun J G0 H0 G H σ S =>
  (h J G0 H0 G H σ S).mono (fun σ' H' ⟨G', t', d, h1, h2, h4⟩ => ⟨G', t', d, h1, h2, k _ _ h4⟩) (fun v H' ⟨G', t', σ', e', d, h1, h2, h4⟩ => ⟨G', t', σ', e', d, h1, h2, k2 _ _ _ h4⟩) (fun _ _ z => z) fun _ _ z => z
theorem XSs.mono {Q Q' : Nat → List Sl → Prop} {R R' : Nat → List Sl → D → Prop} (h : XSs X sts t env Q R) (k : ∀ t d, Q t d → Q' t d) (k2 : ∀ t e d, R t e d → R' t e d) : XSs X sts t env Q' R' := fun J G0 H0 G H σ S =>
  (h J G0 H0 G H σ S).mono (fun σ' H' ⟨G', t', d, h1, h2, h4⟩ => ⟨G', t', d, h1, h2, k _ _ h4⟩) (fun v H' ⟨G', t', σ', e', d, h1, h2, h4⟩ => ⟨G', t', σ', e', d, h1, h2, k2 _ _ _ h4⟩) (fun _ _ z => z) fun _ _ z => z

/-! ### names and constants -/
theorem xe_var (i : Nat) {x : Str} {d : D} {Q : Nat → D → Prop} (q : Q t d) (he : env[i]? = some (Sl.d d) := by rfl) (hN : X.N[i]? = some x := by rfl) (hv : Vis X.env.scope x := by first | exact Or.inl rfl | exact Or.inr (Or.inl rfl) | exact Or.inr (Or.inr rfl))
    (hd : (x == ("__debug__" : Str)) = false := by decide) (hcd : (x == ("__classdict__" : Str)) = false := by decide) : XE X (.Name x pos) t env Q := fun J G0 H0 G H σ S => by
  obtain ⟨v, h1, h2⟩ := S.val i d he
  exact WE.of (pe_var hN hv hd hcd) ⟨v, h1, G, t, d, Same.refl _, S, h2, q⟩
/-- an expression of a constant reading -/
theorem xe_c {v : V} {d : D} {Q : Nat → D → Prop} (h : PE X e (tC v)) (q : Q t d) (r : ∀ J G, Rep J G d v) : XE X e t env Q := fun J G0 H0 G H σ S => WE.of h (show PostE _ _ _ _ _ _ _ _ _ from ⟨G, t, d, Same.refl _, S, r J G, q⟩)
theorem xe_int {i : Int} {j : Nat} {Q : Nat → D → Prop} (q : Q t (.int i)) : XE X (.Constant (.int i) j pos) t env Q := xe_c (d := .int i) pe_int q fun _ _ => rfl
theorem xe_bl {i : Bool} {j : Nat} {Q : Nat → D → Prop} (q : Q t (.bl i)) : XE X (.Constant (.bool i) j pos) t env Q := xe_c (d := .bl i) pe_bl q fun _ _ => rfl
theorem xe_non {j : Nat} {Q : Nat → D → Prop} (q : Q t .non) : XE X (.Constant .none j pos) t env Q := xe_c (d := .non) pe_non q fun _ _ => rfl
theorem xe_str {x : Str} {j : Nat} {Q : Nat → D → Prop} (q : Q t (.str x)) : XE X (.Constant (.str x) j pos) t env Q := xe_c (d := .str x) pe_str q fun _ _ => rfl
/-- a module's constant | a built-in type's name -/
theorem xe_glob {x : Str} {v : V} {u : Value} {d : D} {Q : Nat → D → Prop} (hm : X.mg x = some u) (rv : RelV v u) (r : ∀ J G, Rep J G d v) (q : Q t d) (hg : Gl X x := by rfl) (hd : (x == ("__debug__" : Str)) = false := by decide) : XE X (.Name x pos) t env Q := xe_c (pe_glob hg hm rv hd) q r
theorem xe_ty {x : Str} {n : String} {Q : Nat → D → Prop} (hm : X.mg x = none) (q : Q t (.ty n)) (hv : bootBuiltins x = some (.type n) := by decide +kernel) (hg : Gl X x := by rfl) (hn : x ≠ "__name__" := by decide) (hd : (x == ("__debug__" : Str)) = false := by decide) : XE X (.Name x pos) t env Q :=
  xe_c (d := .ty n) (pe_bltn hg hm hv (show RelV (.ty n) (.type n) from rfl) hn hd) q fun _ _ => rfl

/-! ### operators -/
theorem xe_op {op : Operator} {r : R2} {Q : Nat → D → Prop} (ho : OpR X (binaryOp op) r) (h : XE X a t env fun t1 x => XE X b t1 env fun t2 y => ∀ J G0 H0 Gb G H σ v u, Same Gb G → Stt J G0 H0 G H t2 σ env → Rep J G x v → Rep J G y u → r v u H (PostE J G0 H0 Gb σ env Q)) :
    XE X (.BinOp a op b pos) t env Q := fun J G0 H0 G H σ S => by
  refine WE.of (pe_op ho pe_w pe_w) ?_
  refine (h J G0 H0 G H σ S).mono fun v H1 ⟨G1, t1, x, e1, S1, r1, q1⟩ => ?_
  refine (q1 J G0 H0 G1 H1 σ S1).mono fun u H2 ⟨G2, t2, y, e2, S2, r2, q2⟩ => ?_
  exact q2 J G0 H0 G G2 H2 σ v u (e1.trans e2) S2 (r1.mono e2) r2
theorem xe_cmp {op : CmpOp} {r : R2} {Q : Nat → D → Prop} (ho : OpR X (compareOp op) r) (hm : behindInMarks op b = false) (h : XE X a t env fun t1 x => XE X b t1 env fun t2 y => ∀ J G0 H0 Gb G H σ v u, Same Gb G → Stt J G0 H0 G H t2 σ env → Rep J G x v → Rep J G y u → r v u H (PostE J G0 H0 Gb σ env Q)) :
    XE X (.Compare a [op] [b] pos) t env Q := fun J G0 H0 G H σ S => by
  refine WE.of (pe_cmpR ho pe_w pe_w hm) ?_
  refine (h J G0 H0 G H σ S).mono fun v H1 ⟨G1, t1, x, e1, S1, r1, q1⟩ => ?_
  refine (q1 J G0 H0 G1 H1 σ S1).mono fun u H2 ⟨G2, t2, y, e2, S2, r2, q2⟩ => ?_
  exact q2 J G0 H0 G G2 H2 σ v u (e1.trans e2) S2 (r1.mono e2) r2
theorem xt_cmp {op : CmpOp} {r : R2} {Q : Nat → Bool → Prop} (ho : OpR X (compareOp op) r) (hm : behindInMarks op b = false) (h : XE X a t env fun t1 x => XE X b t1 env fun t2 y => ∀ J G0 H0 Gb G H σ v u, Same Gb G → Stt J G0 H0 G H t2 σ env → Rep J G x v → Rep J G y u → r v u H (fun z H' => ∃ k, z = .bl k ∧ PostT J G0 H0 Gb σ env Q k H')) :
    XT X (.Compare a [op] [b] pos) t env Q := fun J G0 H0 G H σ S => by
  refine WT.of (pt_cmpR ho pe_w pe_w hm) ?_
  refine (h J G0 H0 G H σ S).mono fun v H1 ⟨G1, t1, x, e1, S1, r1, q1⟩ => ?_
  refine (q1 J G0 H0 G1 H1 σ S1).mono fun u H2 ⟨G2, t2, y, e2, S2, r2, q2⟩ => ?_
  exact q2 J G0 H0 G G2 H2 σ v u (e1.trans e2) S2 (r1.mono e2) r2
theorem fin_e {J : Option Addr} {G0 H0 Gb G H : Hp} {σ : L2.St} {v : V} {d : D} {Q : Nat → D → Prop} (s : Same Gb G) (S : Stt J G0 H0 G H t σ env) (r : Rep J G d v) (q : Q t d) : PostE J G0 H0 Gb σ env Q v H := ⟨G, t, d, s, S, r, q⟩
/-- two ints -/
def I2 (x y : D) (k : Int → Int → Prop) : Prop := ∃ i j, x = .int i ∧ y = .int j ∧ k i j
theorem I2.mk {i j : Int} {k : Int → Int → Prop} (h : k i j) : I2 (.int i) (.int j) k := ⟨i, j, rfl, rfl, h⟩
theorem xe_opI {op : Operator} {C : Int → Int → Prop} {g : Int → Int → Int} {Q : Nat → D → Prop} (ho : OpR X (binaryOp op) (rI C fun i j => .int (g i j))) (h : XE X a t env fun t1 x => XE X b t1 env fun t2 y => I2 x y fun i j => C i j ∧ Q t2 (.int (g i j))) : XE X (.BinOp a op b pos) t env Q :=
  xe_op ho (h.mono fun t1 x h1 => h1.mono fun t2 y ⟨i, j, e1, e2, c, q⟩ J G0 H0 Gb G H σ v u s S r1 r2 => by
    subst e1 e2
    exact ⟨i, j, r1, r2, c, fin_e (d := .int (g i j)) s S rfl q⟩)
theorem xe_opI0 {op : Operator} {g : Int → Int → Int} {Q : Nat → D → Prop} (ho : OpR X (binaryOp op) (rI0 fun i j => .int (g i j))) (h : XE X a t env fun t1 x => XE X b t1 env fun t2 y => I2 x y fun i j => Q t2 (.int (g i j))) : XE X (.BinOp a op b pos) t env Q :=
  xe_op ho (h.mono fun t1 x h1 => h1.mono fun t2 y ⟨i, j, e1, e2, q⟩ J G0 H0 Gb G H σ v u s S r1 r2 => by
    subst e1 e2
    exact ⟨i, j, r1, r2, fin_e (d := .int (g i j)) s S rfl q⟩)
theorem xe_add {Q : Nat → D → Prop} (h : XE X a t env fun t1 x => XE X b t1 env fun t2 y => I2 x y fun i j => Q t2 (.int (i + j))) : XE X (.BinOp a .Add b pos) t env Q := xe_opI0 op_add h
theorem xe_sub {Q : Nat → D → Prop} (h : XE X a t env fun t1 x => XE X b t1 env fun t2 y => I2 x y fun i j => Q t2 (.int (i - j))) : XE X (.BinOp a .Sub b pos) t env Q := xe_opI0 op_sub h
theorem xe_mul {Q : Nat → D → Prop} (h : XE X a t env fun t1 x => XE X b t1 env fun t2 y => I2 x y fun i j => CMul i j ∧ Q t2 (.int (i * j))) : XE X (.BinOp a .Mult b pos) t env Q := xe_opI op_mul h
/-- // and % by a positive divisor -/
theorem xe_fdiv {Q : Nat → D → Prop} (h : XE X a t env fun t1 x => XE X b t1 env fun t2 y => I2 x y fun i j => CDiv i j ∧ Q t2 (.int (i / j))) : XE X (.BinOp a .FloorDiv b pos) t env Q := xe_opI op_fdiv h
theorem xe_mod {Q : Nat → D → Prop} (h : XE X a t env fun t1 x => XE X b t1 env fun t2 y => I2 x y fun i j => 0 < j ∧ Q t2 (.int (i % j))) : XE X (.BinOp a .Mod b pos) t env Q := xe_opI op_mod h
theorem xe_pow {Q : Nat → D → Prop} (h : XE X a t env fun t1 x => XE X b t1 env fun t2 y => I2 x y fun i j => CPow i j ∧ Q t2 (.int (i ^ j.toNat))) : XE X (.BinOp a .Pow b pos) t env Q := xe_opI op_pow h
theorem xe_neg {Q : Nat → D → Prop} (h : XE X a t env fun t1 x => ∃ i, x = .int i ∧ Q t1 (.int (-i))) : XE X (.UnaryOp .USub a pos) t env Q := fun J G0 H0 G H σ S => by
  refine WE.of (pe_un un_neg pe_w) ?_
  refine (h J G0 H0 G H σ S).mono fun v H1 ⟨G1, t1, x, e1, S1, r1, i, e2, q1⟩ => ?_
  subst e2
  exact ⟨i, r1, fin_e (d := .int (-i)) e1 S1 rfl q1⟩

/-! ### comparisons of ints -/
theorem xe_cmpI {op : CmpOp} {g : Int → Int → Bool} {Q : Nat → D → Prop} (ho : OpR X (compareOp op) (rI0 fun i j => .bl (g i j))) (hm : behindInMarks op b = false) (h : XE X a t env fun t1 x => XE X b t1 env fun t2 y => I2 x y fun i j => Q t2 (.bl (g i j))) : XE X (.Compare a [op] [b] pos) t env Q :=
  xe_cmp ho hm (h.mono fun t1 x h1 => h1.mono fun t2 y ⟨i, j, e1, e2, q⟩ J G0 H0 Gb G H σ v u s S r1 r2 => by
    subst e1 e2
    exact ⟨i, j, r1, r2, fin_e (d := .bl (g i j)) s S rfl q⟩)
theorem xt_cmpI {op : CmpOp} {g : Int → Int → Bool} {Q : Nat → Bool → Prop} (ho : OpR X (compareOp op) (rI0 fun i j => .bl (g i j))) (hm : behindInMarks op b = false) (h : XE X a t env fun t1 x => XE X b t1 env fun t2 y => I2 x y fun i j => Q t2 (g i j)) : XT X (.Compare a [op] [b] pos) t env Q :=
  xt_cmp ho hm (h.mono fun t1 x h1 => h1.mono fun t2 y ⟨i, j, e1, e2, q⟩ J G0 H0 Gb G H σ v u s S r1 r2 => by
    subst e1 e2
    exact ⟨i, j, r1, r2, g i j, rfl, G, t2, s, S, q⟩)
/-- two scalars -/
def Sc : D → Option V
  | .non => some .non | .bl b => some (.bl b) | .int i => some (.int i) | .str x => some (.str x) | _ => none
theorem Sc.rep {d : D} {v u : V} {J : Option Addr} {G : Hp} (h : Sc d = some v) (r : Rep J G d u) : u = v := by
  cases d <;> first | (cases h; exact r) | cases h
def Sc2 (x y : D) (k : V → V → Prop) : Prop := ∃ v u, Sc x = some v ∧ Sc y = some u ∧ scal v u = true ∧ k v u
theorem xe_eq {Q : Nat → D → Prop} (h : XE X a t env fun t1 x => XE X b t1 env fun t2 y => Sc2 x y fun v u => Q t2 (.bl (decide (v = u)))) : XE X (.Compare a [.Eq] [b] pos) t env Q :=
  xe_cmp op_eq (nomark _) (h.mono fun t1 x h1 => h1.mono fun t2 y ⟨v, u, e1, e2, e3, q⟩ J G0 H0 Gb G H σ v' u' s S r1 r2 => by
    rw [Sc.rep e1 r1, Sc.rep e2 r2]
    exact ⟨e3, fin_e (d := .bl (decide (v = u))) s S rfl q⟩)
theorem xe_ne {Q : Nat → D → Prop} (h : XE X a t env fun t1 x => XE X b t1 env fun t2 y => Sc2 x y fun v u => Q t2 (.bl (!decide (v = u)))) : XE X (.Compare a [.NotEq] [b] pos) t env Q :=
  xe_cmp op_ne (nomark _) (h.mono fun t1 x h1 => h1.mono fun t2 y ⟨v, u, e1, e2, e3, q⟩ J G0 H0 Gb G H σ v' u' s S r1 r2 => by
    rw [Sc.rep e1 r1, Sc.rep e2 r2]
    exact ⟨e3, fin_e (d := .bl (!decide (v = u))) s S rfl q⟩)
theorem xt_eq {Q : Nat → Bool → Prop} (h : XE X a t env fun t1 x => XE X b t1 env fun t2 y => Sc2 x y fun v u => Q t2 (decide (v = u))) : XT X (.Compare a [.Eq] [b] pos) t env Q :=
  xt_cmp op_eq (nomark _) (h.mono fun t1 x h1 => h1.mono fun t2 y ⟨v, u, e1, e2, e3, q⟩ J G0 H0 Gb G H σ v' u' s S r1 r2 => by
    rw [Sc.rep e1 r1, Sc.rep e2 r2]
    exact ⟨e3, _, rfl, G, t2, s, S, q⟩)
theorem xt_ne {Q : Nat → Bool → Prop} (h : XE X a t env fun t1 x => XE X b t1 env fun t2 y => Sc2 x y fun v u => Q t2 (!decide (v = u))) : XT X (.Compare a [.NotEq] [b] pos) t env Q :=
  xt_cmp op_ne (nomark _) (h.mono fun t1 x h1 => h1.mono fun t2 y ⟨v, u, e1, e2, e3, q⟩ J G0 H0 Gb G H σ v' u' s S r1 r2 => by
    rw [Sc.rep e1 r1, Sc.rep e2 r2]
    exact ⟨e3, _, rfl, G, t2, s, S, q⟩)
theorem xt_lt {Q : Nat → Bool → Prop} (h : XE X a t env fun t1 x => XE X b t1 env fun t2 y => I2 x y fun i j => Q t2 (decide (i < j))) : XT X (.Compare a [.Lt] [b] pos) t env Q := xt_cmpI op_lt (nomark _) h
theorem xt_le {Q : Nat → Bool → Prop} (h : XE X a t env fun t1 x => XE X b t1 env fun t2 y => I2 x y fun i j => Q t2 (decide (i ≤ j))) : XT X (.Compare a [.LtE] [b] pos) t env Q := xt_cmpI op_le (nomark _) h
theorem xt_gt {Q : Nat → Bool → Prop} (h : XE X a t env fun t1 x => XE X b t1 env fun t2 y => I2 x y fun i j => Q t2 (decide (j < i))) : XT X (.Compare a [.Gt] [b] pos) t env Q := xt_cmpI op_gt (nomark _) h
theorem xt_ge {Q : Nat → Bool → Prop} (h : XE X a t env fun t1 x => XE X b t1 env fun t2 y => I2 x y fun i j => Q t2 (decide (j ≤ i))) : XT X (.Compare a [.GtE] [b] pos) t env Q := xt_cmpI op_ge (nomark _) h
theorem xe_lt {Q : Nat → D → Prop} (h : XE X a t env fun t1 x => XE X b t1 env fun t2 y => I2 x y fun i j => Q t2 (.bl (decide (i < j)))) : XE X (.Compare a [.Lt] [b] pos) t env Q := xe_cmpI op_lt (nomark _) h
theorem xe_le {Q : Nat → D → Prop} (h : XE X a t env fun t1 x => XE X b t1 env fun t2 y => I2 x y fun i j => Q t2 (.bl (decide (i ≤ j)))) : XE X (.Compare a [.LtE] [b] pos) t env Q := xe_cmpI op_le (nomark _) h
theorem xe_gt {Q : Nat → D → Prop} (h : XE X a t env fun t1 x => XE X b t1 env fun t2 y => I2 x y fun i j => Q t2 (.bl (decide (j < i)))) : XE X (.Compare a [.Gt] [b] pos) t env Q := xe_cmpI op_gt (nomark _) h
theorem xe_ge {Q : Nat → D → Prop} (h : XE X a t env fun t1 x => XE X b t1 env fun t2 y => I2 x y fun i j => Q t2 (.bl (decide (j ≤ i)))) : XE X (.Compare a [.GtE] [b] pos) t env Q := xe_cmpI op_ge (nomark _) h
/-- a value that may be None -/
def isNon : D → Bool
  | .non => true
  | _ => false
theorem isNon_eq {d : D} {v : V} {J : Option Addr} {G : Hp} (r : Rep J G d v) : decide (v = .non) = isNon d := by
  cases d with
  | non => rw [show v = .non from r]; rfl
  | bl b => rw [show v = .bl b from r]; rfl
  | int b => rw [show v = .int b from r]; rfl
  | str b => rw [show v = .str b from r]; rfl
  | ty b => rw [show v = .ty b from r]; rfl
  | cls b => rw [show v = .ref b from r]; rfl
  | jar => obtain ⟨a, _, h⟩ := r; rw [h]; rfl
  | tup b => obtain ⟨a, _, h, _⟩ := r; rw [h]; rfl
  | lst b => obtain ⟨a, _, h, _⟩ := r; rw [h]; rfl
  | ins b c d => obtain ⟨a, _, _, h, _⟩ := r; rw [h]; rfl
  | fz b c => obtain ⟨a, h, _⟩ := r; rw [h]; rfl
theorem xe_isN {j : Nat} {p : Pos} {Q : Nat → D → Prop} (h : XE X a t env fun t1 x => Q t1 (.bl (isNon x))) : XE X (.Compare a [.Is] [.Constant .none j p] pos) t env Q :=
  xe_cmp op_isN (nomark _) (h.mono fun t1 x h1 => xe_non fun J G0 H0 Gb G H σ v u s S r1 r2 => ⟨r2, by
    rw [isNon_eq r1]
    exact fin_e (d := .bl (isNon x)) s S rfl h1⟩)
theorem xt_isN {j : Nat} {p : Pos} {Q : Nat → Bool → Prop} (h : XE X a t env fun t1 x => Q t1 (isNon x)) : XT X (.Compare a [.Is] [.Constant .none j p] pos) t env Q :=
  xt_cmp op_isN (nomark _) (h.mono fun t1 x h1 => xe_non fun J G0 H0 Gb G H σ v u s S r1 r2 => ⟨r2, _, rfl, by
    rw [isNon_eq r1]
    exact ⟨G, t1, s, S, h1⟩⟩)

/-! ### tests -/
theorem xt_val {Q : Nat → Bool → Prop} (h : XE X e t env fun t1 x => ∃ k, x = .bl k ∧ Q t1 k) (he : ∀ whole, isTrue e X.env whole = (do let v ← whole; standAt e.pos; holding [v] (truthy v)) := by intro _; rfl) : XT X e t env Q := fun J G0 H0 G H σ S => by
  refine WT.of (pt_val pe_w he) ?_
  refine (h J G0 H0 G H σ S).mono fun v H1 ⟨G1, t1, x, e1, S1, r1, k, e2, q1⟩ => ?_
  subst e2
  exact ⟨k, r1, G1, t1, e1, S1, q1⟩
theorem xt_not {Q : Nat → Bool → Prop} (h : XT X a t env fun t1 c => Q t1 (!c)) : XT X (.UnaryOp .Not a pos) t env Q := fun J G0 H0 G H σ S => WT.of (pt_not pt_w) ((h J G0 H0 G H σ S).mono fun v H1 q => q)
theorem xt_w {Q : Nat → Bool → Prop} (h : XW X e t env Q) : XT X e t env Q := fun J G0 H0 G H σ S => WT.of pw_w.pt (h J G0 H0 G H σ S)
theorem xw_and1 {Q : Nat → Bool → Prop} (h : XT X a t env Q) : XW X (.BoolOp .And [a] pos) t env Q := fun J G0 H0 G H σ S => WW.of (pw_and1 pt_w) (h J G0 H0 G H σ S)
theorem xw_or1 {Q : Nat → Bool → Prop} (h : XT X a t env Q) : XW X (.BoolOp .Or [a] pos) t env Q := fun J G0 H0 G H σ S => WW.of (pw_or1 pt_w) (h J G0 H0 G H σ S)
theorem xw_and {Q : Nat → Bool → Prop} (h : XT X a t env fun t1 c => (c = true → XW X (.BoolOp .And (b :: es) pos) t1 env Q) ∧ (c = false → Q t1 false)) : XW X (.BoolOp .And (a :: b :: es) pos) t env Q := fun J G0 H0 G H σ S => by
  refine WW.of (pw_and pt_w pw_w) ((h J G0 H0 G H σ S).mono fun v H1 ⟨G1, t1, e1, S1, q1⟩ => ?_)
  cases v with
  | true =>
    rw [if_pos rfl]
    exact (q1.1 rfl J G0 H0 G1 H1 σ S1).mono fun v H2 q => q.sub e1
  | false =>
    rw [if_neg Bool.false_ne_true]
    exact ⟨G1, t1, e1, S1, q1.2 rfl⟩
theorem xw_or {Q : Nat → Bool → Prop} (h : XT X a t env fun t1 c => (c = true → Q t1 true) ∧ (c = false → XW X (.BoolOp .Or (b :: es) pos) t1 env Q)) : XW X (.BoolOp .Or (a :: b :: es) pos) t env Q := fun J G0 H0 G H σ S => by
  refine WW.of (pw_or pt_w pw_w) ((h J G0 H0 G H σ S).mono fun v H1 ⟨G1, t1, e1, S1, q1⟩ => ?_)
  cases v with
  | false =>
    rw [if_neg Bool.false_ne_true]
    exact (q1.2 rfl J G0 H0 G1 H1 σ S1).mono fun v H2 q => q.sub e1
  | true =>
    rw [if_pos rfl]
    exact ⟨G1, t1, e1, S1, q1.1 rfl⟩
/-- .. as values -/
theorem xe_one {op : BoolOp} {Q : Nat → D → Prop} (h : XE X a t env Q) : XE X (.BoolOp op [a] pos) t env Q := fun J G0 H0 G H σ S => WE.of (pe_one pe_w) (h J G0 H0 G H σ S)
theorem xe_and {Q : Nat → D → Prop} (h : XE X a t env fun t1 x => ∃ c, x = .bl c ∧ (c = true → XE X (.BoolOp .And (b :: es) pos) t1 env Q) ∧ (c = false → Q t1 (.bl false))) : XE X (.BoolOp .And (a :: b :: es) pos) t env Q := fun J G0 H0 G H σ S => by
  refine WE.of (pe_and pe_w pe_w) ((h J G0 H0 G H σ S).mono fun v H1 ⟨G1, t1, x, e1, S1, r1, c, e2, q1⟩ => ?_)
  subst e2
  refine ⟨c, r1, ?_⟩
  cases c with
  | true =>
    rw [if_pos rfl]
    exact (q1.1 rfl J G0 H0 G1 H1 σ S1).mono fun v H2 q => q.sub e1
  | false =>
    rw [if_neg Bool.false_ne_true]
    exact fin_e (d := .bl false) e1 S1 rfl (q1.2 rfl)
theorem xe_or {Q : Nat → D → Prop} (h : XE X a t env fun t1 x => ∃ c, x = .bl c ∧ (c = true → Q t1 (.bl true)) ∧ (c = false → XE X (.BoolOp .Or (b :: es) pos) t1 env Q)) : XE X (.BoolOp .Or (a :: b :: es) pos) t env Q := fun J G0 H0 G H σ S => by
  refine WE.of (pe_or pe_w pe_w) ((h J G0 H0 G H σ S).mono fun v H1 ⟨G1, t1, x, e1, S1, r1, c, e2, q1⟩ => ?_)
  subst e2
  refine ⟨c, r1, ?_⟩
  cases c with
  | false =>
    rw [if_neg Bool.false_ne_true]
    exact (q1.2 rfl J G0 H0 G1 H1 σ S1).mono fun v H2 q => q.sub e1
  | true =>
    rw [if_pos rfl]
    exact fin_e (d := .bl true) e1 S1 rfl (q1.1 rfl)
theorem xe_not {Q : Nat → D → Prop} (h : XE X a t env fun t1 x => ∃ c, x = .bl c ∧ Q t1 (.bl (!c))) : XE X (.UnaryOp .Not a pos) t env Q := fun J G0 H0 G H σ S => by
  refine WE.of (pe_not pe_w) ((h J G0 H0 G H σ S).mono fun v H1 ⟨G1, t1, x, e1, S1, r1, c, e2, q1⟩ => ?_)
  subst e2
  exact ⟨c, r1, fin_e (d := .bl (!c)) e1 S1 rfl q1⟩
theorem xe_if {Q : Nat → D → Prop} (h : XT X c t env fun t1 k => (k = true → XE X a t1 env Q) ∧ (k = false → XE X b t1 env Q)) : XE X (.IfExp c a b pos) t env Q := fun J G0 H0 G H σ S => by
  refine WE.of (pe_ifExp pt_w pe_w pe_w) ((h J G0 H0 G H σ S).mono fun v H1 ⟨G1, t1, e1, S1, q1⟩ => ?_)
  cases v with
  | true =>
    rw [if_pos rfl]
    exact (q1.1 rfl J G0 H0 G1 H1 σ S1).mono fun v H2 q => q.sub e1
  | false =>
    rw [if_neg Bool.false_ne_true]
    exact (q1.2 rfl J G0 H0 G1 H1 σ S1).mono fun v H2 q => q.sub e1

/-! ### argument lists, displays -/
theorem xa_nil {Q : Nat → List D → Prop} (q : Q t []) : XA X [] t env Q := fun J G0 H0 G H σ S => WA.of pa_nil (show PostA _ _ _ _ _ _ _ _ _ from ⟨G, t, [], Same.refl _, S, rfl, q⟩)
theorem xa_cons {Q : Nat → List D → Prop} (h : XE X e t env fun t1 d => XA X es t1 env fun t2 ds => Q t2 (d :: ds)) (hs : starEach (e :: es) X.env = (false, eval e X.env) :: starEach es X.env := by rfl) : XA X (e :: es) t env Q := fun J G0 H0 G H σ S => by
  refine WA.of (pa_cons pe_w pa_w hs) ((h J G0 H0 G H σ S).mono fun v H1 ⟨G1, t1, x, e1, S1, r1, q1⟩ => ?_)
  refine (q1 J G0 H0 G1 H1 σ S1).mono fun vs H2 ⟨G2, t2, ds, e2, S2, r2, q2⟩ => ?_
  exact ⟨G2, t2, x :: ds, e1.trans e2, S2, ⟨v, vs, rfl, r1.mono e2, r2⟩, q2⟩
/-- *e, a tuple or a list -/
theorem xa_star {p : Pos} {Q : Nat → List D → Prop} (h : XE X e t env fun t1 d => ∃ xs, (d = .tup xs ∨ d = .lst xs) ∧ XA X es t1 env fun t2 ds => Q t2 (xs ++ ds)) (hs : starEach (.Starred e p :: es) X.env = (true, eval e X.env) :: starEach es X.env := by rfl) : XA X (.Starred e p :: es) t env Q := fun J G0 H0 G H σ S => by
  refine WA.of (StX.pa_star pe_w pa_w hs) ((h J G0 H0 G H σ S).mono fun v H1 ⟨G1, t1, x, e1, S1, r1, xs, hx, q1⟩ => ?_)
  rcases hx with rfl | rfl
  · obtain ⟨a, us, rfl, h1, h2⟩ := r1
    refine ⟨a, us, rfl, .inl (SqT.of (S1.sub _ _ h1)), (q1 J G0 H0 G1 H1 σ S1).mono fun vs H2 ⟨G2, t2, ds, e2, S2, r2, q2⟩ => ?_⟩
    exact ⟨G2, t2, xs ++ ds, e1.trans e2, S2, (h2.mono e2).append r2, q2⟩
  · obtain ⟨a, us, rfl, h1, h2⟩ := r1
    refine ⟨a, us, rfl, .inr (SqL.of (S1.sub _ _ h1)), (q1 J G0 H0 G1 H1 σ S1).mono fun vs H2 ⟨G2, t2, ds, e2, S2, r2, q2⟩ => ?_⟩
    exact ⟨G2, t2, xs ++ ds, e1.trans e2, S2, (h2.mono e2).append r2, q2⟩
theorem alloc_e {J : Option Addr} {G0 H0 Gb G H : Hp} {σ : L2.St} {p : Addr} {o : HO} {d : D} {Q : Nat → D → Prop} (s : Same Gb G) (S : Stt J G0 H0 G H t σ env) (n : H p = none) (r : Rep J (upd G p o) d (.ref p)) (q : Q t d) : PostE J G0 H0 Gb σ env Q (.ref p) (upd H p o) :=
  ⟨upd G p o, t, d, s.trans (same_new (S.sub.free n)), S.alloc n, r, q⟩
theorem xe_tup {k : Nat} {Q : Nat → D → Prop} (h : XA X es t env fun t1 ds => ds.length ≤ 1000 ∧ Q t1 (.tup ds)) : XE X (.Tuple es k pos) t env Q := fun J G0 H0 G H σ S => by
  refine WE.of (pe_tup pa_w) ((h J G0 H0 G H σ S).mono fun vs H1 ⟨G1, t1, ds, e1, S1, r1, hl, q1⟩ => ?_)
  refine ⟨Nat.le_of_lt (small1000 (by rw [r1.length]; exact hl)), fun p np => alloc_e e1 S1 np ?_ q1⟩
  exact ⟨p, vs, rfl, upd_same, r1.mono (same_new (S1.sub.free np))⟩
/-- a new list that is nobody's yet -/
theorem loose_l {J : Option Addr} {G0 H0 Gb G H : Hp} {σ : L2.St} {p : Addr} {xs : List V} {ds : List D} {Q : Nat → List D → Prop} (s : Same Gb G) (S : Stt J G0 H0 G H t σ env) (n : H p = none) (r : RepL J G ds xs) (q : Q t ds) : PostL J G0 H0 Gb σ env Q (.ref p) (upd H p (.lst xs)) := by
  refine ⟨G, t, p, xs, ds, rfl, s, S.loose n, upd_same, r, S.sub.free n, ?_, fun e => ?_, fun k c e z => ?_, q⟩
  · cases h : H0 p with
    | none => rfl
    | some o =>
      have : J ≠ some p := fun e => by
        obtain ⟨o', h'⟩ := S.jar.jh e
        rw [n] at h'; cases h'
      have := S.gr.exH p o h this
      rw [n] at this; cases this
  · obtain ⟨o', h'⟩ := S.jar.jh e
    rw [n] at h'; cases h'
  · obtain ⟨p', o, h1, h2, _⟩ := S.own k c e
    rw [z] at h1
    have e5 : p = p' := by
      have := Option.some.inj (Option.some.inj h1)
      injection this
    subst e5
    rw [n] at h2; cases h2
theorem xl_lst {Q : Nat → List D → Prop} (h : XA X es t env fun t1 ds => ds.length ≤ 1000 ∧ Q t1 ds) : XL X (.List es pos) t env Q := fun J G0 H0 G H σ S => by
  refine WE.of (pe_lst pa_w) ((h J G0 H0 G H σ S).mono fun vs H1 ⟨G1, t1, ds, e1, S1, r1, hl, q1⟩ => ?_)
  exact ⟨Nat.le_of_lt (small1000 (by rw [r1.length]; exact hl)), fun p np => loose_l e1 S1 np r1 q1⟩
/-- a new list, held firm at once -/
theorem Stt.hold {J : Option Addr} {G0 H0 G H : Hp} {σ : L2.St} {p : Addr} {o : HO} (S : Stt J G0 H0 G H t σ env) (h : H p = some o) (g : G p = none) (h0 : H0 p = none) (hj : J ≠ some p) (ho : ∀ (k : Nat) c, env[k]? = some (Sl.own c) → σ[k]? ≠ some (some (.ref p))) :
    Stt J G0 H0 (upd G p o) H t σ env := by
  have sG : Same G (upd G p o) := same_new g
  refine ⟨⟨S.gr.exG.trans sG, S.gr.exH, fun a u ha k => ?_⟩, fun a u ha => ?_, fun j ej => ?_, S.len, fun k x e1 => ?_, fun k c e1 => ?_, S.dist⟩
  · rw [upd_ne (ne_of_none ha h0)]
    exact S.gr.nof a u ha k
  · by_cases e : a = p
    · subst e
      rw [upd_same] at ha
      rw [← ha]
      exact h
    · rw [upd_ne e] at ha
      exact S.sub a u ha
  · obtain ⟨c, u, r, cells, z1, z2, z3, z4⟩ := S.jar j ej
    refine ⟨c, u, r, cells, z1, sG _ _ z2, ?_, z4⟩
    rw [upd_ne fun z => hj (by rw [ej, z])]
    exact z3
  · obtain ⟨v, z1, z2⟩ := S.val k x e1
    exact ⟨v, z1, z2.mono sG⟩
  · obtain ⟨q, u, z1, z2, z3, z4, z5⟩ := S.own k c e1
    refine ⟨q, u, z1, z2, z3.mono sG, ?_, z5⟩
    rw [upd_ne fun z => ho k c e1 (by rw [← z]; exact z1)]
    exact z4
theorem xe_l {Q : Nat → D → Prop} (h : XL X e t env fun t1 ds => Q t1 (.lst ds)) : XE X e t env Q := fun J G0 H0 G H σ S => by
  refine (h J G0 H0 G H σ S).mono fun v H1 ⟨G1, t1, p, xs, ds, e0, e1, S1, h1, r1, g1, h0, hj, ho, q1⟩ => ?_
  subst e0
  exact ⟨upd G1 p (.lst xs), t1, .lst ds, e1.trans (same_new g1), S1.hold h1 g1 h0 hj ho, ⟨p, xs, rfl, upd_same, r1.mono (same_new g1)⟩, q1⟩
end
end BS

set_option Elab.async false
set_option linter.all false
set_option maxRecDepth 100000
set_option maxHeartbeats 4000000
/-! calls, built-ins, subscripts, attributes -/
namespace BS
open PySem PySem.Spec PyProof.Rows L2

/-! ### promises -/
def spD (S : List D → Nat → (Nat → D → Prop) → Prop) : Sp := fun vs H Q E => ∃ (J : Option Addr) (G : Hp) (t : Nat) (ds : List D) (Q' : Nat → D → Prop), Same G H ∧ JarB J G H t ∧ RepL J G ds vs ∧ S ds t Q' ∧
  ∀ t' d, Q' t' d → ∀ v G' H', Gr J G H G' H' → Same G' H' → JarB J G' H' t' → Rep J G' d v → Q v H'
/-- an __init__ of the class at C: what it leaves in the new instance -/
def spI (C : Addr) (S : List D → Nat → (Nat → List Str → List D → Prop) → Prop) : Sp := fun vs H Q E => ∃ (x dx : Addr) (us : List V) (J : Option Addr) (G : Hp) (t : Nat) (ds : List D) (Q' : Nat → List Str → List D → Prop),
  vs = .ref x :: us ∧ H x = some (.ins C dx []) ∧ G x = none ∧ J ≠ some x ∧ Same G H ∧ JarB J G H t ∧ RepL J G ds us ∧ S ds t Q' ∧
  ∀ t' ks fs, Q' t' ks fs → ∀ dx' fv G' H', Same G G' → (∀ a o, H a = some o → a ≠ x → J ≠ some a → H' a = some o) → (∀ a o, H a = some o → G a = none → G' a = none) → Same G' H' → JarB J G' H' t' → H' x = some (.ins C dx' fv) → fv.map (·.1) = ks → RepL J G' fs (fv.map (·.2)) → Q .non H'
/-- what the walk knows of a def: where it stands, how it is called, what it promises; dds: its defaults -/
structure Fn (P : Program) (w : World) (K : PySem.W.Frag) (mg : Str → Option Value) (base : Heap) (k : Nat) (x : Str) (dds : List D) (S : List D → Nat → (Nat → D → Prop) → Prop) : Prop where
  ex : ∃ (f : Addr) (fd : FuncData) (ps : List Str) (ds : List Value) (dvs : List V), FnOk P w K mg base CX0 k f fd ps (spD S) ∧ mg x = some (.ref f) ∧ PySem.W.keepIn K (.ref f) = true ∧ Binds K fd ps ds ∧ Vals dvs ds ∧ ∀ J G, RepL J G dds dvs
structure Cl (P : Program) (w : World) (K : PySem.W.Frag) (mg : Str → Option Value) (base : Heap) (k : Nat) (x : Str) (C : Addr) (S : List D → Nat → (Nat → List Str → List D → Prop) → Prop) : Prop where
  ex : ∃ (f : Addr) (fd : FuncData) (ps : List Str), FnOk P w K mg base CX0 k f fd ps (spI C S) ∧ Mk K C f ∧ mg x = some (.ref C) ∧ Binds K fd ps []

section
variable {X : Cx} {e a b c : Expr} {es : List Expr} {t k : Nat} {env : List Sl} {pos p : Pos} {x : Str}
theorem fin_call {J : Option Addr} {G0 H0 Gb G H : Hp} {σ : L2.St} {S : List D → Nat → (Nat → D → Prop) → Prop} {Q : Nat → D → Prop} {ds : List D} {vs : List V} {E : XK} (s : Same Gb G) (St : Stt J G0 H0 G H t σ env) (r : RepL J G ds vs) (h : S ds t Q) :
    spD S vs H (PostE J G0 H0 Gb σ env Q) E := ⟨J, G, t, ds, Q, St.sub, St.jar, r, h, fun t' d q v G' H' g sb jr rv => ⟨G', t', d, s.trans g.exG, St.gr' g sb jr, rv, q⟩⟩
theorem xe_call {dds : List D} {S : List D → Nat → (Nat → D → Prop) → Prop} {Q : Nat → D → Prop} (F : Fn X.prog X.w X.K X.mg X.base k x dds S) (hr : Room k X.A) (h : XA X (e :: es) t env fun t1 as => S (as ++ dds) t1 Q)
    (hg : Gl X x := by rfl) (hdb : (x == ("__debug__" : Str)) = false := by decide) (he : starEach (e :: es) X.env = (false, eval e X.env) :: starEach es X.env := by rfl) (hpl : (backTo pos (starEach es X.env)).any (·.1) = false := by rfl) :
    XE X (.Call (.Name x p) (e :: es) [] pos) t env Q := fun J G0 H0 G H σ St => by
  obtain ⟨f, fd, ps, ds, dvs, Fo, hm, hk, hb, hd, hdd⟩ := F.ex
  refine WE.of (pe_call Fo hr hg hm hk hb hd pass0 pa_w hdb he hpl) ((h J G0 H0 G H σ St).mono fun vs H1 ⟨G1, t1, as, e1, S1, r1, q1⟩ => ?_)
  exact fin_call e1 S1 (r1.append (hdd J G1)) q1
/-- f(k = v, ..): keywords alone -/
theorem xe_callK {kws : List Keyword} {ks ps : List Str} {f : Addr} {fd : FuncData} {g : List Value → List Value → List Value} {gV : List V → List V → List V} {gD : List D → List D} {S : List D → Nat → (Nat → D → Prop) → Prop} {Q : Nat → D → Prop}
    (F : FnOk X.prog X.w X.K X.mg X.base CX0 k f fd ps (spD S)) (hm : X.mg x = some (.ref f)) (hk : PySem.W.keepIn X.K (.ref f) = true) (hr : Room k X.A) (hb : KBn X.K fd ps 0 ks g gV) (hgD : ∀ J G ds vs, ds.length = ks.length → RepL J G ds vs → RepL J G (gD ds) (gV [] vs))
    {ta : TA} (hkw : PK X kws ta) (h : ∀ J G0 H0 G H σ, Stt J G0 H0 G H t σ env → ta σ H (PostA J G0 H0 G σ env fun t1 as => as.length = ks.length ∧ S (gD as) t1 Q))
    (hg : Gl X x := by rfl) (hall : (backToKw pos (keywordEach kws X.env)).all (·.1.isSome) = true := by rfl) (hks : (backToKw pos (keywordEach kws X.env)).filterMap (·.1) = ks := by rfl) (hdb : (x == ("__debug__" : Str)) = false := by decide)
    (hpl : ((backTo pos (starEach [] X.env)).any (·.1) || (backToKw pos (keywordEach kws X.env)).any (·.1.isNone)) = false := by rfl) :
    XE X (.Call (.Name x p) [] kws pos) t env Q := fun J G0 H0 G H σ St pins s I => by
  refine wpAny_Call_Name_kw (ld_glob I hg hm ?_ hdb)
  refine PySem.W.callWith_KW0 (h₀ := X.base) I.ok.mod.kin hk hall ?_ hpl
  refine thn (hkw.run pos pins s σ H _ I (h J G0 H0 G H σ St)) fun ws s2 ⟨zs, H2, I2, rz, G1, t1, as, e1, S1, r1, hl, q1⟩ => ⟨I2.kIn, ?_⟩
  rw [hks]
  exact run_fnN (us := []) (vs := []) F hr hb pass0 I2 .nil rz rfl (by rw [r1.length]; exact hl) (fin_call e1 S1 (hgD J G1 as zs hl r1) q1)
theorem xe_make {C : Addr} {S : List D → Nat → (Nat → List Str → List D → Prop) → Prop} {Q : Nat → D → Prop} (F : Cl X.prog X.w X.K X.mg X.base k x C S) (hr : Room (k + 1) X.A) (h : XA X (e :: es) t env fun t1 as => S as t1 fun t2 ks fs => Q t2 (.ins C ks fs))
    (hg : Gl X x := by rfl) (hdb : (x == ("__debug__" : Str)) = false := by decide) (he : starEach (e :: es) X.env = (false, eval e X.env) :: starEach es X.env := by rfl) (hpl : (backTo pos (starEach es X.env)).any (·.1) = false := by rfl) :
    XE X (.Call (.Name x p) (e :: es) [] pos) t env Q := fun J G0 H0 G H σ St => by
  obtain ⟨f, fd, ps, Fo, M, hm, hb⟩ := F.ex
  refine WE.of (pe_make M Fo hr hg hm hb .nil pass0 pa_w hdb he hpl) ((h J G0 H0 G H σ St).mono fun vs H1 ⟨G1, t1, as, e1, S1, r1, q1⟩ => ?_)
  intro x dx nx ndx ne
  rw [List.append_nil]
  have S2 : Stt J G0 H0 G1 (upd (upd H1 dx (.own x)) x (.ins C dx [])) t1 σ env := (S1.loose ndx).loose (by rw [upd_ne ne.symm]; exact nx)
  have jx : J ≠ some x := fun e => by
    obtain ⟨o, ho⟩ := S1.jar.jh e
    rw [nx] at ho; cases ho
  have gx : G1 x = none := S1.sub.free nx
  have own' : ∀ (k : Nat) c, env[k]? = some (Sl.own c) → σ[k]? ≠ some (some (.ref x)) := fun k c e z => by
    obtain ⟨p', o, h1, h2, _⟩ := S1.own k c e
    rw [z] at h1
    have e5 : x = p' := by
      have := Option.some.inj (Option.some.inj h1)
      injection this
    subst e5
    rw [nx] at h2; cases h2
  have h0x : H0 x = none := by
    cases h : H0 x with
    | none => rfl
    | some o =>
      have := S1.gr.exH x o h jx
      rw [nx] at this; cases this
  refine ⟨x, dx, vs, J, G1, t1, as, _, rfl, upd_same, gx, jx, S2.sub, S2.jar, r1, q1, fun t' ks fs q dx' fv G' H' g1 g2 g3 g4 jr hx hks rf => ⟨rfl, ?_⟩⟩
  -- the instance is held firm
  have S3 : Stt J G0 H0 G' H' t' σ env := by
    refine ⟨⟨S2.gr.exG.trans g1, fun a o ha n => g2 a o (S2.gr.exH a o ha n) (fun z => by rw [z, h0x] at ha; cases ha) n, fun a o ha n => ?_⟩, g4, jr, S2.len, fun i d e => ?_, fun i c e => ?_, S2.dist⟩
    · by_cases e : J = some a
      · exact jr.jg e
      · exact g3 a o (S2.gr.exH a o ha e) (S2.gr.nof a o ha n)
    · obtain ⟨v, h1, h2⟩ := S2.val i d e
      exact ⟨v, h1, h2.mono g1⟩
    · obtain ⟨p', o, h1, h2, h3, h4, h5, h6⟩ := S2.own i c e
      exact ⟨p', o, h1, g2 p' o h2 (fun z => own' i c e (by rw [← z]; exact h1)) h6, h3.mono g1, g3 p' o h2 h4, h5, h6⟩
  have gx' : G' x = none := g3 x _ upd_same gx
  exact ⟨upd G' x (.ins C dx' fv), t', .ins C ks fs, e1.trans (g1.trans (same_new gx')), S3.hold hx gx' h0x jx own', ⟨x, dx', fv, rfl, upd_same, hks, rf.mono (same_new gx')⟩, q⟩

/-! ### built-ins -/
theorem xe_blt {id : String} {r : List V → Hp → VK → Prop} {Q : Nat → D → Prop} (hc : CallR X (.builtin id) r) (hm : X.mg x = none)
    (h : XA X (e :: es) t env fun t1 ds => ∀ J G0 H0 Gb G H σ vs, Same Gb G → Stt J G0 H0 G H t1 σ env → RepL J G ds vs → r vs H (PostE J G0 H0 Gb σ env Q)) (hv : bootBuiltins x = some (.builtin id) := by decide +kernel) (hg : Gl X x := by rfl) (hn : x ≠ "__name__" := by decide)
    (hdb : (x == ("__debug__" : Str)) = false := by decide) (he : starEach (e :: es) X.env = (false, eval e X.env) :: starEach es X.env := by rfl) (hpl : (backTo pos (starEach es X.env)).any (·.1) = false := by rfl) : XE X (.Call (.Name x p) (e :: es) [] pos) t env Q := fun J G0 H0 G H σ St => by
  refine WE.of (pe_callB hc hg hm hv pa_w hn hdb he hpl) ((h J G0 H0 G H σ St).mono fun vs H1 ⟨G1, t1, as, e1, S1, r1, q1⟩ => ?_)
  exact q1 J G0 H0 G G1 H1 σ vs e1 S1 r1
theorem xe_bty {id : String} {r : List V → Hp → VK → Prop} {Q : Nat → D → Prop} (hc : CallR X (.type id) r) (hm : X.mg x = none)
    (h : XA X (e :: es) t env fun t1 ds => ∀ J G0 H0 Gb G H σ vs, Same Gb G → Stt J G0 H0 G H t1 σ env → RepL J G ds vs → r vs H (PostE J G0 H0 Gb σ env Q)) (hv : bootBuiltins x = some (.type id) := by decide +kernel) (hg : Gl X x := by rfl) (hn : x ≠ "__name__" := by decide)
    (hdb : (x == ("__debug__" : Str)) = false := by decide) (he : starEach (e :: es) X.env = (false, eval e X.env) :: starEach es X.env := by rfl) (hpl : (backTo pos (starEach es X.env)).any (·.1) = false := by rfl) : XE X (.Call (.Name x p) (e :: es) [] pos) t env Q := fun J G0 H0 G H σ St => by
  refine WE.of (pe_callTy hc hg hm hv pa_w hn hdb he hpl) ((h J G0 H0 G H σ St).mono fun vs H1 ⟨G1, t1, as, e1, S1, r1, q1⟩ => ?_)
  exact q1 J G0 H0 G G1 H1 σ vs e1 S1 r1
/-- a new list -/
theorem xl_bty {id : String} {r : List V → Hp → VK → Prop} {Q : Nat → List D → Prop} (hc : CallR X (.type id) r) (hm : X.mg x = none)
    (h : XA X (e :: es) t env fun t1 ds => ∀ J G0 H0 Gb G H σ vs, Same Gb G → Stt J G0 H0 G H t1 σ env → RepL J G ds vs → r vs H (PostL J G0 H0 Gb σ env Q)) (hv : bootBuiltins x = some (.type id) := by decide +kernel) (hg : Gl X x := by rfl) (hn : x ≠ "__name__" := by decide)
    (hdb : (x == ("__debug__" : Str)) = false := by decide) (he : starEach (e :: es) X.env = (false, eval e X.env) :: starEach es X.env := by rfl) (hpl : (backTo pos (starEach es X.env)).any (·.1) = false := by rfl) : XL X (.Call (.Name x p) (e :: es) [] pos) t env Q := fun J G0 H0 G H σ St => by
  refine WE.of (pe_callTy hc hg hm hv pa_w hn hdb he hpl) ((h J G0 H0 G H σ St).mono fun vs H1 ⟨G1, t1, as, e1, S1, r1, q1⟩ => ?_)
  exact q1 J G0 H0 G G1 H1 σ vs e1 S1 r1
theorem xe_bfn {id : String} {r : List V → Hp → VK → Prop} {Q : Nat → D → Prop} (hc : CallR X (.builtin id) r) (hm : X.mg x = some (.builtin id))
    (h : XA X (e :: es) t env fun t1 ds => ∀ J G0 H0 Gb G H σ vs, Same Gb G → Stt J G0 H0 G H t1 σ env → RepL J G ds vs → r vs H (PostE J G0 H0 Gb σ env Q)) (hg : Gl X x := by rfl)
    (hdb : (x == ("__debug__" : Str)) = false := by decide) (he : starEach (e :: es) X.env = (false, eval e X.env) :: starEach es X.env := by rfl) (hpl : (backTo pos (starEach es X.env)).any (·.1) = false := by rfl) : XE X (.Call (.Name x p) (e :: es) [] pos) t env Q := fun J G0 H0 G H σ St => by
  refine WE.of (pe_callBfun hc hg hm pa_w hdb he hpl) ((h J G0 H0 G H σ St).mono fun vs H1 ⟨G1, t1, as, e1, S1, r1, q1⟩ => ?_)
  exact q1 J G0 H0 G G1 H1 σ vs e1 S1 r1
theorem rep1 {J : Option Addr} {G : Hp} {d : D} {vs : List V} (r : RepL J G [d] vs) : ∃ v, vs = [v] ∧ Rep J G d v := by
  obtain ⟨v, u, e1, h1, h2⟩ := r
  rw [show u = [] from h2] at e1
  exact ⟨v, e1, h1⟩
theorem rep2 {J : Option Addr} {G : Hp} {d d' : D} {vs : List V} (r : RepL J G [d, d'] vs) : ∃ v v', vs = [v, v'] ∧ Rep J G d v ∧ Rep J G d' v' := by
  obtain ⟨v, u, e1, h1, h2⟩ := r
  obtain ⟨v', e2, h3⟩ := rep1 h2
  exact ⟨v, v', by rw [e1, e2], h1, h3⟩
/-- an argument list of one, of two -/
theorem xa_1 {Q : Nat → List D → Prop} (h : XE X e t env fun t1 d => Q t1 [d]) (hs : starEach [e] X.env = (false, eval e X.env) :: starEach [] X.env := by rfl) : XA X [e] t env Q := xa_cons (h.mono fun _ _ q => xa_nil q) hs
theorem xa_2 {Q : Nat → List D → Prop} (h : XE X a t env fun t1 d => XE X b t1 env fun t2 d2 => Q t2 [d, d2]) (hs : starEach [a, b] X.env = (false, eval a X.env) :: starEach [b] X.env := by rfl) (hs2 : starEach [b] X.env = (false, eval b X.env) :: starEach [] X.env := by rfl) : XA X [a, b] t env Q := xa_cons (h.mono fun _ _ q => xa_1 q hs2) hs
/-- a list or tuple -/
def Sq (d : D) (ds : List D) : Prop := d = .lst ds ∨ d = .tup ds
theorem Sq.get {d : D} {ds : List D} {J : Option Addr} {G H : Hp} {v : V} (h : Sq d ds) (r : Rep J G d v) (s : Same G H) {K : PySem.W.Frag} : ∃ a xs, v = .ref a ∧ (SqL K H a xs ∨ SqT K H a xs) ∧ RepL J G ds xs := by
  rcases h with rfl | rfl
  · obtain ⟨a, xs, h1, h2, h3⟩ := r
    exact ⟨a, xs, h1, .inl (SqL.of (s _ _ h2)), h3⟩
  · obtain ⟨a, xs, h1, h2, h3⟩ := r
    exact ⟨a, xs, h1, .inr (SqT.of (s _ _ h2)), h3⟩
theorem xe_len {Q : Nat → D → Prop} (hm : X.mg "len" = none) (h : XE X e t env fun t1 d => ∃ ds, Sq d ds ∧ Q t1 (.int ds.length)) (hg : Gl X "len" := by rfl) (he : starEach [e] X.env = (false, eval e X.env) :: starEach [] X.env := by rfl) : XE X (.Call (.Name "len" p) [e] [] pos) t env Q :=
  xe_blt call_len_seq hm (xa_1 (h.mono fun t1 d ⟨ds, hd, q⟩ J G0 H0 Gb G H σ vs s S r => by
    obtain ⟨v, rfl, r1⟩ := rep1 r
    obtain ⟨a, xs, rfl, h1, h2⟩ := hd.get (K := X.K) r1 S.sub
    refine ⟨a, xs, rfl, h1, fin_e (d := .int ds.length) s S ?_ q⟩
    rw [h2.length]
    rfl) he) PySem.boot_len hg (he := he)
theorem xe_abs {Q : Nat → D → Prop} (hm : X.mg "abs" = none) (h : XE X e t env fun t1 d => ∃ i, d = .int i ∧ Q t1 (.int (if i < 0 then -i else i))) (hg : Gl X "abs" := by rfl) (he : starEach [e] X.env = (false, eval e X.env) :: starEach [] X.env := by rfl) : XE X (.Call (.Name "abs" p) [e] [] pos) t env Q :=
  xe_blt call_abs hm (xa_1 (h.mono fun t1 d ⟨i, hd, q⟩ J G0 H0 Gb G H σ vs s S r => by
    obtain ⟨v, rfl, r1⟩ := rep1 r
    subst hd
    obtain rfl : v = .int i := r1
    exact ⟨i, rfl, fin_e (d := .int (if i < 0 then -i else i)) s S rfl q⟩) he) (by decide +kernel) hg (he := he)
theorem xe_int1 {Q : Nat → D → Prop} (hm : X.mg "int" = none) (h : XE X e t env fun t1 d => (∃ i, d = .int i ∧ Q t1 (.int i)) ∨ ∃ k, d = .bl k ∧ Q t1 (.int (if k then 1 else 0))) (hg : Gl X "int" := by rfl) (he : starEach [e] X.env = (false, eval e X.env) :: starEach [] X.env := by rfl) : XE X (.Call (.Name "int" p) [e] [] pos) t env Q :=
  xe_bty call_int1 hm (xa_1 (h.mono fun t1 d hd J G0 H0 Gb G H σ vs s S r => by
    obtain ⟨v, rfl, r1⟩ := rep1 r
    rcases hd with ⟨i, rfl, q⟩ | ⟨k, rfl, q⟩
    · obtain rfl : v = .int i := r1
      exact .inl ⟨i, rfl, fin_e (d := .int i) s S rfl q⟩
    · obtain rfl : v = .bl k := r1
      exact .inr ⟨k, rfl, fin_e (d := .int (if k then 1 else 0)) s S rfl q⟩) he) (by decide +kernel) hg (he := he)
theorem xe_max2 {Q : Nat → D → Prop} (hc : X.calm = true) (hm : X.mg "max" = none) (h : XE X a t env fun t1 x => XE X b t1 env fun t2 y => I2 x y fun i j => Q t2 (.int (if j > i then j else i))) (hg : Gl X "max" := by rfl) (he : starEach [a, b] X.env = (false, eval a X.env) :: starEach [b] X.env := by rfl)
    (he2 : starEach [b] X.env = (false, eval b X.env) :: starEach [] X.env := by rfl) (hpl : (backTo pos (starEach [b] X.env)).any (·.1) = false := by rfl) : XE X (.Call (.Name "max" p) [a, b] [] pos) t env Q :=
  xe_blt (call_max2 hc) hm (xa_2 (h.mono fun t1 x h1 => h1.mono fun t2 y ⟨i, j, e1, e2, q⟩ J G0 H0 Gb G H σ vs s S r => by
    obtain ⟨v, v', rfl, r1, r2⟩ := rep2 r
    subst e1 e2
    obtain rfl : v = .int i := r1
    obtain rfl : v' = .int j := r2
    exact ⟨i, j, rfl, fin_e (d := .int (if j > i then j else i)) s S rfl q⟩) he he2) (by decide +kernel) hg (he := he) (hpl := hpl)
theorem xe_repr {Q : Nat → D → Prop} (hm : X.mg "repr" = none) (h : XE X e t env fun t1 d => ∃ i : Int, d = .int i ∧ i.natAbs.log2 < 1920 ∧ Q t1 (.str (toString i))) (hg : Gl X "repr" := by rfl) (he : starEach [e] X.env = (false, eval e X.env) :: starEach [] X.env := by rfl) : XE X (.Call (.Name "repr" p) [e] [] pos) t env Q :=
  xe_blt SkE.call_repr_int hm (xa_1 (h.mono fun t1 d ⟨i, hd, hz, q⟩ J G0 H0 Gb G H σ vs s S r => by
    obtain ⟨v, rfl, r1⟩ := rep1 r
    subst hd
    obtain rfl : v = .int i := r1
    exact ⟨i, rfl, hz, fin_e (d := .str (toString i)) s S rfl q⟩) he) (by decide +kernel) hg (he := he)
theorem call_isqrtR : CallR X (.builtin "math.isqrt") (fun vs H Q => ∃ i : Int, vs = [.int i] ∧ 0 ≤ i ∧ i < 2 ^ 64 ∧ Q (.int ((PySem.Float64.isqrt i.toNat : Nat) : Int)) H) := by
  intro pins s σ H vs us Q I r h
  obtain ⟨i, rfl, h0, h1, q⟩ := h
  obtain ⟨u, rfl, t, rfl⟩ := vals1 r
  exact PySem.W.mg_isqrt h0 h1 ⟨.int _, H, I.tok _, ⟨_, rfl⟩, q⟩
theorem xe_isqrt {Q : Nat → D → Prop} (hm : X.mg "isqrt" = some (.builtin "math.isqrt")) (h : XE X e t env fun t1 d => ∃ i : Int, d = .int i ∧ 0 ≤ i ∧ i < 2 ^ 64 ∧ Q t1 (.int ((PySem.Float64.isqrt i.toNat : Nat) : Int))) (hg : Gl X "isqrt" := by rfl) (he : starEach [e] X.env = (false, eval e X.env) :: starEach [] X.env := by rfl) :
    XE X (.Call (.Name "isqrt" p) [e] [] pos) t env Q :=
  xe_bfn call_isqrtR hm (xa_1 (h.mono fun t1 d ⟨i, hd, h0, h1, q⟩ J G0 H0 Gb G H σ vs s S r => by
    obtain ⟨v, rfl, r1⟩ := rep1 r
    subst hd
    obtain rfl : v = .int i := r1
    exact ⟨i, rfl, h0, h1, fin_e (d := .int _) s S rfl q⟩) he) hg (he := he)
theorem xe_gcd {Q : Nat → D → Prop} (hm : X.mg "gcd" = some (.builtin "math.gcd")) (h : XE X a t env fun t1 x => XE X b t1 env fun t2 y => I2 x y fun i j => Q t2 (.int ((Nat.gcd i.natAbs j.natAbs : Nat) : Int))) (hg : Gl X "gcd" := by rfl) (he : starEach [a, b] X.env = (false, eval a X.env) :: starEach [b] X.env := by rfl)
    (he2 : starEach [b] X.env = (false, eval b X.env) :: starEach [] X.env := by rfl) (hpl : (backTo pos (starEach [b] X.env)).any (·.1) = false := by rfl) : XE X (.Call (.Name "gcd" p) [a, b] [] pos) t env Q :=
  xe_bfn cr_gcd hm (xa_2 (h.mono fun t1 x h1 => h1.mono fun t2 y ⟨i, j, e1, e2, q⟩ J G0 H0 Gb G H σ vs s S r => by
    obtain ⟨v, v', rfl, r1, r2⟩ := rep2 r
    subst e1 e2
    obtain rfl : v = .int i := r1
    obtain rfl : v' = .int j := r2
    exact ⟨i, j, rfl, fin_e (d := .int _) s S rfl q⟩) he he2) hg (he := he) (hpl := hpl)
theorem call_sumR (hc : X.calm = true) : CallR X (.builtin "sum") (fun vs H Q => ∃ (a : Addr) (ns : List Int), vs = [V.ref a] ∧ (SqL X.K H a (ns.map V.int) ∨ SqT X.K H a (ns.map V.int)) ∧ Q (.int ns.sum) H) := by
  intro pins s σ H vs us Q I r h
  obtain ⟨a, ns, e, hs, q⟩ := h
  rcases hs with hs | hs
  · exact cr_sum hc pins s σ H vs us Q I r ⟨a, ns, e, hs, q⟩
  · subst e
    obtain ⟨its, rv, hl, _⟩ := I.tuple hs
    rw [Vals.ref1 r]
    obtain ⟨xs, e⟩ := rv.ints.allInts.items
    have hn : numsOf (intItems xs).toList = ns := by rw [← e]; exact rv.ints.numsOf
    rw [nums_intItems] at hn
    rw [e] at hl
    refine PySem.W.ktm_sumG (I.ok.hd hc) hl fun h' tk t' hk => ?_
    refine ⟨.int ns.sum, H, I.kept hk, ⟨t', ?_⟩, q⟩
    rw [preSum_eq, List.take_of_length_le (by simp), hn]
theorem xe_sum {Q : Nat → D → Prop} (hc : X.calm = true) (hm : X.mg "sum" = none) (h : XE X e t env fun t1 d => ∃ ns : List Int, Sq d (ns.map D.int) ∧ Q t1 (.int ns.sum)) (hg : Gl X "sum" := by rfl) (he : starEach [e] X.env = (false, eval e X.env) :: starEach [] X.env := by rfl) :
    XE X (.Call (.Name "sum" p) [e] [] pos) t env Q :=
  xe_blt (call_sumR hc) hm (xa_1 (h.mono fun t1 d ⟨ns, hd, q⟩ J G0 H0 Gb G H σ vs s S r => by
    obtain ⟨v, rfl, r1⟩ := rep1 r
    obtain ⟨a, xs, rfl, h1, h2⟩ := hd.get (K := X.K) r1 S.sub
    rw [h2.ints] at h1
    exact ⟨a, ns, rfl, h1, fin_e (d := .int ns.sum) s S rfl q⟩) he) (by decide +kernel) hg (he := he)
theorem xe_all {Q : Nat → D → Prop} (hc : X.calm = true) (hm : X.mg "all" = none) (h : XE X e t env fun t1 d => ∃ bs : List Bool, d = .lst (bs.map D.bl) ∧ Q t1 (.bl (bs.all id))) (hg : Gl X "all" := by rfl) (he : starEach [e] X.env = (false, eval e X.env) :: starEach [] X.env := by rfl) :
    XE X (.Call (.Name "all" p) [e] [] pos) t env Q :=
  xe_blt (cr_all hc) hm (xa_1 (h.mono fun t1 d ⟨bs, hd, q⟩ J G0 H0 Gb G H σ vs s S r => by
    obtain ⟨v, rfl, r1⟩ := rep1 r
    subst hd
    obtain ⟨a, xs, rfl, h1, h2⟩ := r1
    rw [h2.bls] at h1
    exact ⟨a, bs, rfl, SqL.of (S.sub _ _ h1), fin_e (d := .bl (bs.all id)) s S rfl q⟩) he) (by decide +kernel) hg (he := he)
/-- tuple(x): of a list a new one, of a tuple itself -/
theorem xe_tuple {Q : Nat → D → Prop} (hm : X.mg "tuple" = none) (h : XE X e t env fun t1 d => ∃ ds, Sq d ds ∧ Q t1 (.tup ds)) (hg : Gl X "tuple" := by rfl) (he : starEach [e] X.env = (false, eval e X.env) :: starEach [] X.env := by rfl) :
    XE X (.Call (.Name "tuple" p) [e] [] pos) t env Q :=
  xe_bty call_tuple_of hm (xa_1 (h.mono fun t1 d ⟨ds, hd, q⟩ J G0 H0 Gb G H σ vs s S r => by
    obtain ⟨v, rfl, r1⟩ := rep1 r
    rcases hd with rfl | rfl
    · obtain ⟨a, xs, rfl, h1, h2⟩ := r1
      exact ⟨a, xs, rfl, .inl ⟨SqL.of (S.sub _ _ h1), fun l nl => alloc_e (d := .tup ds) s S nl ⟨l, xs, rfl, upd_same, h2.mono (same_new (S.sub.free nl))⟩ q⟩⟩
    · obtain ⟨a, xs, rfl, h1, h2⟩ := r1
      exact ⟨a, xs, rfl, .inr ⟨SqT.of (S.sub _ _ h1), fin_e (d := .tup ds) s S ⟨a, xs, rfl, h1, h2⟩ q⟩⟩) he) (by decide +kernel) hg (he := he)
/-- list(x) -/
theorem xl_list {Q : Nat → List D → Prop} (hm : X.mg "list" = none) (h : XE X e t env fun t1 d => ∃ ds, Sq d ds ∧ Q t1 ds) (hg : Gl X "list" := by rfl) (he : starEach [e] X.env = (false, eval e X.env) :: starEach [] X.env := by rfl) :
    XL X (.Call (.Name "list" p) [e] [] pos) t env Q :=
  xl_bty call_list_of hm (xa_1 (h.mono fun t1 d ⟨ds, hd, q⟩ J G0 H0 Gb G H σ vs s S r => by
    obtain ⟨v, rfl, r1⟩ := rep1 r
    obtain ⟨a, xs, rfl, h1, h2⟩ := hd.get (K := X.K) r1 S.sub
    exact ⟨a, xs, rfl, h1, fun l nl => loose_l s S nl h2 q⟩) he) (by decide +kernel) hg (he := he)
/-- list(range(a, b)), list(range(b)) -/
theorem rep_rg {J : Option Addr} {G : Hp} (i j : Int) : RepL J G ((List.range (j - i).toNat).map fun k => D.int (i + (k : Nat))) (rgV i j) := by
  have h := RepL.of_ints (J := J) (G := G) ((List.range (j - i).toNat).map fun k => i + ((k : Nat) : Int))
  rw [List.map_map, List.map_map] at h
  exact h
theorem xe_listRg2 {p2 pos2 : Pos} {Q : Nat → D → Prop} (hc : X.calm = true) (hm : X.mg "list" = none) (hm2 : X.mg "range" = none) (h : XE X a t env fun t1 x => XE X b t1 env fun t2 y => I2 x y fun i j => RgOk i j ∧ Q t2 (.lst ((List.range (j - i).toNat).map fun k => D.int (i + (k : Nat)))))
    (hg : Gl X "list" := by rfl) (hg2 : Gl X "range" := by rfl) (na : starEach [a, b] X.env = (false, eval a X.env) :: starEach [b] X.env := by rfl)
    (nb : starEach [b] X.env = (false, eval b X.env) :: starEach [] X.env := by rfl) (hp : (backTo pos2 (starEach [b] X.env)).any (·.1) = false := by rfl) (nl : starEach [.Call (.Name "range" p2) [a, b] [] pos2] X.env = (false, eval (.Call (.Name "range" p2) [a, b] [] pos2) X.env) :: starEach [] X.env := by rfl) :
    XE X (.Call (.Name "list" p) [.Call (.Name "range" p2) [a, b] [] pos2] [] pos) t env Q := fun J G0 H0 G H σ St => by
  refine WE.of (pe_listRg hc hg hm (prg_2 hg2 hm2 pe_w pe_w na nb hp) nl) ?_
  refine (h J G0 H0 G H σ St).mono fun v H1 ⟨G1, t1, x, e1, S1, r1, q1⟩ => ?_
  refine (q1 J G0 H0 G1 H1 σ S1).mono fun u H2 ⟨G2, t2, y, e2, S2, r2, i, j, ex, ey, ok, q2⟩ => ?_
  subst ex ey
  exact ⟨i, j, r1, r2, ok, fun q nq => alloc_e (d := .lst _) (e1.trans e2) S2 nq ⟨q, _, rfl, upd_same, rep_rg i j⟩ q2⟩
theorem xe_listRg1 {p2 pos2 : Pos} {Q : Nat → D → Prop} (hc : X.calm = true) (hm : X.mg "list" = none) (hm2 : X.mg "range" = none) (h : XE X b t env fun t2 y => ∃ j, y = .int j ∧ RgOk 0 j ∧ Q t2 (.lst ((List.range (j - 0).toNat).map fun k => D.int (0 + (k : Nat)))))
    (hg : Gl X "list" := by rfl) (hg2 : Gl X "range" := by rfl)
    (nb : starEach [b] X.env = (false, eval b X.env) :: starEach [] X.env := by rfl) (nl : starEach [.Call (.Name "range" p2) [b] [] pos2] X.env = (false, eval (.Call (.Name "range" p2) [b] [] pos2) X.env) :: starEach [] X.env := by rfl) :
    XE X (.Call (.Name "list" p) [.Call (.Name "range" p2) [b] [] pos2] [] pos) t env Q := fun J G0 H0 G H σ St => by
  refine WE.of (pe_listRg hc hg hm (prg_1 hg2 hm2 pe_w nb) nl) ?_
  refine (h J G0 H0 G H σ St).mono fun u H2 ⟨G2, t2, y, e2, S2, r2, j, ey, ok, q2⟩ => ?_
  subst ey
  exact ⟨j, r2, ok, fun q nq => alloc_e (d := .lst _) e2 S2 nq ⟨q, _, rfl, upd_same, rep_rg 0 j⟩ q2⟩
/-- a + b of lists -/
theorem xe_cat {Q : Nat → D → Prop} (h : XE X a t env fun t1 x => XE X b t1 env fun t2 y => ∃ ds es, x = .lst ds ∧ y = .lst es ∧ ds.length + es.length ≤ 100000 ∧ Q t2 (.lst (ds ++ es))) : XE X (.BinOp a .Add b pos) t env Q :=
  xe_op op_cat (h.mono fun t1 x h1 => h1.mono fun t2 y ⟨ds, es, e1, e2, hl, q⟩ J G0 H0 Gb G H σ v u s S r1 r2 => by
    subst e1 e2
    obtain ⟨p1, xs, rfl, z1, z2⟩ := r1
    obtain ⟨p2, ys, rfl, z3, z4⟩ := r2
    refine ⟨p1, p2, xs, ys, rfl, rfl, S.sub _ _ z1, S.sub _ _ z3, ?_, fun p np => alloc_e (d := .lst (ds ++ es)) s S np ⟨p, _, rfl, upd_same, (z2.append z4).mono (same_new (S.sub.free np))⟩ q⟩
    rw [z2.length, z4.length]
    exact Nat.le_trans hl (by decide))

/-! ### subscripts, attributes -/
/-- xs[i], a list or tuple, an int at hand -/
theorem xe_ix {Q : Nat → D → Prop} (hs : PlainIx b) (h : XE X a t env fun t1 x => XE X b t1 env fun t2 y => ∃ ds i d, Sq x ds ∧ y = .int i ∧ 0 ≤ i ∧ ds[i.toNat]? = some d ∧ Q t2 d) : XE X (.Subscript a b pos) t env Q := fun J G0 H0 G H σ St => by
  refine WE.of (pe_ix ix_seq pe_w pe_w hs) ?_
  refine (h J G0 H0 G H σ St).mono fun v H1 ⟨G1, t1, x, e1, S1, r1, q1⟩ => ?_
  refine (q1 J G0 H0 G1 H1 σ S1).mono fun u H2 ⟨G2, t2, y, e2, S2, r2, ds, i, d, hx, ey, h0, hd, q2⟩ => ?_
  subst ey
  obtain rfl : u = .int i := r2
  obtain ⟨p, xs, rfl, z1, z2⟩ := hx.get (K := X.K) (r1.mono e2) S2.sub
  obtain ⟨z, z3, z4⟩ := z2.get hd
  have ei : ((i.toNat : Nat) : Int) = i := by omega
  have za : atI xs i = some z := by
    rw [← ei]
    exact atI_nat z3
  rcases z1 with z1 | z1
  · exact .inl ⟨p, xs, i, z, rfl, rfl, z1, za, fin_e (e1.trans e2) S2 z4 q2⟩
  · exact .inr (.inl ⟨p, xs, i, z, rfl, rfl, z1, za, fin_e (e1.trans e2) S2 z4 q2⟩)
theorem lookup_at {fs : List (Str × V)} {f : Str} {i : Nat} {v : V} (hk : (fs.map (·.1))[i]? = some f) (hv : (fs.map (·.2))[i]? = some v) (hn : ∀ j, j < i → (fs.map (·.1))[j]? ≠ some f) : fs.lookup f = some v := by
  induction fs generalizing i with
  | nil => simp at hk
  | cons q r ih =>
    cases i with
    | zero =>
      have e1 : q.1 = f := by simpa using hk
      have e2 : q.2 = v := by simpa using hv
      obtain ⟨q1, q2⟩ := q
      simp only at e1 e2
      subst e1 e2
      simp [List.lookup]
    | succ i =>
      have ne : q.1 ≠ f := fun e => hn 0 (Nat.succ_pos _) (by simp [e])
      have hb : (f == q.1) = false := beq_eq_false_iff_ne.mpr (Ne.symm ne)
      obtain ⟨q1, q2⟩ := q
      simp only [List.lookup, hb]
      exact ih (i := i) (by simpa using hk) (by simpa using hv) fun j hj => by
        have := hn (j + 1) (Nat.succ_lt_succ hj)
        simpa using this
/-- e.f, an instance's attribute at place i of its fields -/
theorem xe_fld (i : Nat) {C : Addr} {f : Str} {Q : Nat → D → Prop} (cl : Cls X.K C) (na : NoAttr X.K C f) (h : XE X e t env fun t1 x => ∃ ks ds d, x = .ins C ks ds ∧ ks[i]? = some f ∧ (∀ j, j < i → ks[j]? ≠ some f) ∧ ds[i]? = some d ∧ Q t1 d) (hb : attributeBase e f X.env (eval e X.env) = eval e X.env := by rfl) :
    XE X (.Attribute e f pos) t env Q := fun J G0 H0 G H σ St => by
  refine WE.of (pe_fld pe_w hb) ?_
  refine (h J G0 H0 G H σ St).mono fun v H1 ⟨G1, t1, x, e1, S1, r1, ks, ds, d, ex, hk, hn, hd, q1⟩ => ?_
  subst ex
  obtain ⟨p, dx, fs, rfl, z1, z2, z3⟩ := r1
  obtain ⟨z, z4, z5⟩ := z3.get hd
  subst z2
  exact ⟨p, C, dx, fs, z, rfl, S1.sub _ _ z1, cl, na, lookup_at hk z4 hn, fin_e e1 S1 z5 q1⟩
end
end BS

set_option Elab.async false
set_option linter.all false
set_option maxRecDepth 100000
set_option maxHeartbeats 4000000
/-! statements, targets, loops, comprehensions -/
namespace BS
open PySem PySem.Spec PyProof.Rows L2
section
variable {X : Cx} {e a b c : Expr} {es : List Expr} {st : Stmt} {sts rest body orelse : List Stmt} {tg iter : Expr} {t k : Nat} {env : List Sl} {pos p px py pz pt : Pos} {x y z : Str}
variable {Q : Nat → List Sl → Prop} {R : Nat → List Sl → D → Prop}

/-! ### blocks -/
theorem xss_nil (q : Q t env) : XSs X [] t env Q R := fun J G0 H0 G H σ S => WSs.of pss_nil (show PostN _ _ _ _ _ _ _ from ⟨G, t, env, Same.refl _, S, q⟩)
theorem xss_cons (h : XS X st t env (fun t1 env1 => XSs X rest t1 env1 Q R) R) : XSs X (st :: rest) t env Q R := fun J G0 H0 G H σ S => by
  refine WSs.of (pss_cons ps_w pss_w) ?_
  refine (h J G0 H0 G H σ S).mono (fun σ1 H1 ⟨G1, t1, env1, e1, S1, q1⟩ => ?_) (fun v H1 r => r) (fun _ _ z => z) fun _ _ z => z
  exact (q1 J G0 H0 G1 H1 σ1 S1).mono (fun σ2 H2 q => q.sub e1) (fun v H1 r => r) (fun _ _ z => z) fun _ _ z => z
theorem xss_one (h : XS X st t env Q R) : XSs X [st] t env Q R := xss_cons (h.mono (fun _ _ q => xss_nil q) fun _ _ _ r => r)
theorem xs_expr (h : XE X e t env fun t1 _ => Q t1 env) (hs : swapsWith e none pos.line X.env = pure false := by rfl) : XS X (.Expr e pos) t env Q R := fun J G0 H0 G H σ S =>
  WS.of (ps_expr pe_w hs) ((h J G0 H0 G H σ S).mono fun v H1 ⟨G1, t1, x, e1, S1, r1, q1⟩ => ⟨G1, t1, env, e1, S1, q1⟩)
theorem xs_ret (h : XE X e t env fun t1 d => R t1 env d) : XS X (.Return (some e) pos) t env Q R := fun J G0 H0 G H σ S =>
  WS.of (ps_ret pe_w) ((h J G0 H0 G H σ S).mono fun v H1 ⟨G1, t1, x, e1, S1, r1, q1⟩ => ⟨G1, t1, σ, env, x, S1, r1, q1⟩)
theorem xs_if (h : XT X c t env fun t1 k => (k = true → XSs X body t1 env Q R) ∧ (k = false → XSs X orelse t1 env Q R)) : XS X (.If c body orelse pos) t env Q R := fun J G0 H0 G H σ S => by
  refine WS.of (ps_if pt_w pss_w pss_w) ((h J G0 H0 G H σ S).mono fun v H1 ⟨G1, t1, e1, S1, q1⟩ => ?_)
  cases v with
  | true =>
    rw [if_pos rfl]
    exact (q1.1 rfl J G0 H0 G1 H1 σ S1).mono (fun σ2 H2 q => q.sub e1) (fun v H1 r => r) (fun _ _ z => z) fun _ _ z => z
  | false =>
    rw [if_neg Bool.false_ne_true]
    exact (q1.2 rfl J G0 H0 G1 H1 σ S1).mono (fun σ2 H2 q => q.sub e1) (fun v H1 r => r) (fun _ _ z => z) fun _ _ z => z
/-- a way that isn't taken -/
theorem xss_never (h : False) : XSs X sts t env Q R := h.elim

/-! ### names are stored -/
theorem xs_set (i : Nat) (hN : X.N.Nodup) (h : XE X e t env fun t1 d => Q t1 (env.set i (.d d))) (hi : X.N[i]? = some x := by rfl) (hx : Loc X.env.scope x := by first | exact Or.inl rfl | exact Or.inr rfl)
    (hs : swapsWith e (some (.Name x px)) pos.line X.env = pure false := by rfl) (hf : X.fn x = true ∨ X.env.scope.names.lookup x = some .local := by first | exact Or.inl rfl | exact Or.inr rfl) : XS X (.Assign [.Name x px] e pos) t env Q R := fun J G0 H0 G H σ S =>
  WS.of (ps_set hN hi hx pe_w hs hf) ((h J G0 H0 G H σ S).mono fun v H1 ⟨G1, t1, d, e1, S1, r1, q1⟩ => ⟨G1, t1, _, e1, S1.put r1 i, q1⟩)
/-- .. a list of its own -/
theorem xs_own (i : Nat) (hN : X.N.Nodup) (h : XL X e t env fun t1 ds => Q t1 (env.set i (.own (.lst none ds)))) (hi : X.N[i]? = some x := by rfl) (hx : Loc X.env.scope x := by first | exact Or.inl rfl | exact Or.inr rfl)
    (hs : swapsWith e (some (.Name x px)) pos.line X.env = pure false := by rfl) (hf : X.fn x = true ∨ X.env.scope.names.lookup x = some .local := by first | exact Or.inl rfl | exact Or.inr rfl) : XS X (.Assign [.Name x px] e pos) t env Q R := fun J G0 H0 G H σ S =>
  WS.of (ps_set hN hi hx pe_w hs hf) ((h J G0 H0 G H σ S).mono fun v H1 ⟨G1, t1, p, xs, ds, e0, e1, S1, h1, r1, g1, h0, hj, ho, q1⟩ => by
    subst e0
    exact ⟨G1, t1, _, e1, S1.putOwn (c := .lst none ds) i h1 ⟨fun _ z => (nomatch z), xs, rfl, r1⟩ g1 h0 hj (fun k c _ z => ho k c z), q1⟩)
theorem xs_par (i j : Nat) {kt k2 : Nat} {pt2 : Pos} (hc : X.calm = true) (hN : X.N.Nodup) (h : XE X a t env fun t1 d => XE X b t1 env fun t2 d2 => Q t2 ((env.set i (.d d)).set j (.d d2))) (hi : X.N[i]? = some x := by rfl) (hj : X.N[j]? = some y := by rfl) (hij : i ≠ j := by decide)
    (hx : X.env.scope.names.lookup x = some .local := by rfl) (hy : X.env.scope.names.lookup y = some .local := by rfl)
    (hw : swappedStores [.Tuple [.Name x px, .Name y py] kt pt] (.Tuple [a, b] k2 pt2) X.env = pure (some [x, y]) := by rfl)
    (hs : swapsWithSole [.Tuple [.Name x px, .Name y py] kt pt] (.Tuple [a, b] k2 pt2) pos.line X.env = pure false := by rfl)
    (h1 : starEach [a, b] X.env = (false, eval a X.env) :: starEach [b] X.env := by rfl) (h2 : starEach [b] X.env = (false, eval b X.env) :: starEach [] X.env := by rfl) :
    XS X (.Assign [.Tuple [.Name x px, .Name y py] kt pt] (.Tuple [a, b] k2 pt2) pos) t env Q R := fun J G0 H0 G H σ S => by
  refine WS.of (ps_par hc hN hi hj hij hx hy (pa_cons pe_w (pa_cons pe_w pa_nil h2) h1) hw hs) ?_
  refine (h J G0 H0 G H σ S).mono fun v H1 ⟨G1, t1, d, e1, S1, r1, q1⟩ => ?_
  refine (q1 J G0 H0 G1 H1 σ S1).mono fun w H2 ⟨G2, t2, d2, e2, S2, r2, q2⟩ => ?_
  exact ⟨v, w, rfl, G2, t2, _, e1.trans e2, (S2.put (r1.mono e2) i).put r2 j, q2⟩
/-- .. both new lists of their own -/
theorem xs_parL (i j : Nat) {kt k2 : Nat} {pt2 : Pos} (hc : X.calm = true) (hN : X.N.Nodup) (h : XL X a t env fun t1 d => XL X b t1 (unown env) fun t2 d2 => Q t2 ((env.set i (.own (.lst none d))).set j (.own (.lst none d2)))) (hi : X.N[i]? = some x := by rfl) (hj : X.N[j]? = some y := by rfl) (hij : i ≠ j := by decide)
    (hx : X.env.scope.names.lookup x = some .local := by rfl) (hy : X.env.scope.names.lookup y = some .local := by rfl)
    (hw : swappedStores [.Tuple [.Name x px, .Name y py] kt pt] (.Tuple [a, b] k2 pt2) X.env = pure (some [x, y]) := by rfl)
    (hs : swapsWithSole [.Tuple [.Name x px, .Name y py] kt pt] (.Tuple [a, b] k2 pt2) pos.line X.env = pure false := by rfl)
    (h1 : starEach [a, b] X.env = (false, eval a X.env) :: starEach [b] X.env := by rfl) (h2 : starEach [b] X.env = (false, eval b X.env) :: starEach [] X.env := by rfl) :
    XS X (.Assign [.Tuple [.Name x px, .Name y py] kt pt] (.Tuple [a, b] k2 pt2) pos) t env Q R := fun J G0 H0 G H σ S => by
  refine WS.of (ps_par hc hN hi hj hij hx hy (pa_cons pe_w (pa_cons pe_w pa_nil h2) h1) hw hs) ?_
  refine (h J G0 H0 G H σ S).mono fun v H1 ⟨G1, t1, p, xs, ds, e0, e1, S1, z1, r1, g1, z0, zj, zo, q1⟩ => ?_
  subst e0
  refine (q1 J G1 H1 G1 H1 σ S1.block).mono fun w H2 ⟨G2, t2, p2, ys, ds2, e20, e2, S2, y1, r2, g2, y0, yj, yo, q2⟩ => ?_
  subst e20
  have S3 := S1.gr' S2.gr S2.sub S2.jar
  have z2 : H2 p = some (.lst xs) := S2.gr.exH p _ z1 zj
  have ne : p ≠ p2 := fun e => by
    rw [e, y0] at z1
    cases z1
  have y00 : H0 p2 = none := by
    cases h : H0 p2 with
    | none => rfl
    | some o =>
      have := S1.gr.exH p2 o h yj
      rw [y0] at this; cases this
  have yo' : ∀ (k : Nat) c, env[k]? = some (Sl.own c) → σ[k]? ≠ some (some (.ref p2)) := fun k c e z => by
    obtain ⟨p', o, h1, h2, _⟩ := S1.own k c e
    rw [z] at h1
    have e5 : p2 = p' := by
      have := Option.some.inj (Option.some.inj h1)
      injection this
    subst e5
    rw [y0] at h2; cases h2
  have S4 := S3.putOwn (c := .lst none ds) i z2 ⟨fun _ z => (nomatch z), xs, rfl, r1.mono e2⟩ (S2.gr.nof p _ z1 g1) z0 zj fun k c _ z => zo k c z
  refine ⟨.ref p, .ref p2, rfl, G2, t2, _, e1.trans e2, S4.putOwn (c := .lst none ds2) j y1 ⟨fun _ z => (nomatch z), ys, rfl, r2⟩ g2 y00 yj fun k c hk z z' => ?_, q2⟩
  rcases get_set_cases z with ⟨rfl, z, _⟩ | ⟨hk2, z⟩
  · by_cases hl : k < σ.length
    · rw [List.getElem?_set_self hl] at z'
      have := Option.some.inj (Option.some.inj z')
      injection this with this
      exact ne this
    · rw [List.getElem?_eq_none (by rw [List.length_set]; omega)] at z'
      cases z'
  · rw [List.getElem?_set_ne (Ne.symm hk2)] at z'
    exact yo' k c z z'
theorem xs_par3 (i j l : Nat) {kt k2 : Nat} {pt2 : Pos} (hc : X.calm = true) (hN : X.N.Nodup) (h : XE X a t env fun t1 d => XE X b t1 env fun t2 d2 => XE X c t2 env fun t3 d3 => Q t3 (((env.set i (.d d)).set j (.d d2)).set l (.d d3)))
    (hi : X.N[i]? = some x := by rfl) (hj : X.N[j]? = some y := by rfl) (hl : X.N[l]? = some z := by rfl) (hij : i ≠ j := by decide) (hil : i ≠ l := by decide) (hjl : j ≠ l := by decide)
    (hx : X.env.scope.names.lookup x = some .local := by rfl) (hy : X.env.scope.names.lookup y = some .local := by rfl) (hz : X.env.scope.names.lookup z = some .local := by rfl)
    (hw : swappedStores [.Tuple [.Name x px, .Name y py, .Name z pz] kt pt] (.Tuple [a, b, c] k2 pt2) X.env = pure (some [x, y, z]) := by rfl)
    (hs : swapsWithSole [.Tuple [.Name x px, .Name y py, .Name z pz] kt pt] (.Tuple [a, b, c] k2 pt2) pos.line X.env = pure false := by rfl)
    (h1 : starEach [a, b, c] X.env = (false, eval a X.env) :: starEach [b, c] X.env := by rfl) (h2 : starEach [b, c] X.env = (false, eval b X.env) :: starEach [c] X.env := by rfl) (h3 : starEach [c] X.env = (false, eval c X.env) :: starEach [] X.env := by rfl) :
    XS X (.Assign [.Tuple [.Name x px, .Name y py, .Name z pz] kt pt] (.Tuple [a, b, c] k2 pt2) pos) t env Q R := fun J G0 H0 G H σ S => by
  refine WS.of (ps_par3 hc hN hi hj hl hij hil hjl hx hy hz (pa_cons pe_w (pa_cons pe_w (pa_cons pe_w pa_nil h3) h2) h1) hw hs) ?_
  refine (h J G0 H0 G H σ S).mono fun v H1 ⟨G1, t1, d, e1, S1, r1, q1⟩ => ?_
  refine (q1 J G0 H0 G1 H1 σ S1).mono fun w H2 ⟨G2, t2, d2, e2, S2, r2, q2⟩ => ?_
  refine (q2 J G0 H0 G2 H2 σ S2).mono fun u H3 ⟨G3, t3, d3, e3, S3, r3, q3⟩ => ?_
  exact ⟨v, w, u, rfl, G3, t3, _, (e1.trans e2).trans e3, ((S3.put (r1.mono (e2.trans e3)) i).put (r2.mono e3) j).put r3 l, q3⟩

/-! ### targets -/
def WGs (X : Cx) (tgs : List Expr) : TGs := fun vs σ H Q => ∃ g, PGs X tgs g ∧ ∃ Q0, g vs σ H Q0 ∧ ∀ σ H, Q0 σ H → Q σ H
theorem pgs_w {tgs : List Expr} : PGs X tgs (WGs X tgs) := ⟨fun pins s σ H vs us Q I r ⟨g, hg, Q0, h, k⟩ => thn (hg.run pins s σ H vs us Q0 I r h) fun _ s' ⟨σ', H', I', q⟩ => ⟨σ', H', I', k _ _ q⟩⟩
theorem WGs.of {tgs : List Expr} {g : TGs} {vs : List V} {σ : L2.St} {H : Hp} {Q : L2.St → Hp → Prop} (h : PGs X tgs g) (q : g vs σ H Q) : WGs X tgs vs σ H Q := ⟨g, h, Q, q, fun _ _ z => z⟩
theorem WGs.mono {tgs : List Expr} {vs : List V} {σ : L2.St} {H : Hp} {Q Q' : L2.St → Hp → Prop} (h : WGs X tgs vs σ H Q) (k : ∀ σ H, Q σ H → Q' σ H) : WGs X tgs vs σ H Q' := by
  obtain ⟨g, hg, Q0, h, k0⟩ := h
  exact ⟨g, hg, Q0, h, fun σ H z => k σ H (k0 σ H z)⟩
def XGs (X : Cx) (tgs : List Expr) (t : Nat) (env : List Sl) (ds : List D) (Qe : List Sl → Prop) : Prop := ∀ J G0 H0 G H σ vs, Stt J G0 H0 G H t σ env → RepL J G ds vs → WGs X tgs vs σ H (PostN J G0 H0 G fun t' env' => t' = t ∧ Qe env')
theorem xg_name (i : Nat) {Qe : List Sl → Prop} {d : D} (hN : X.N.Nodup) (q : Qe (env.set i (.d d))) (hi : X.N[i]? = some x := by rfl) (hx : Loc X.env.scope x := by first | exact Or.inl rfl | exact Or.inr rfl)
    (hf : X.fn x = true ∨ X.env.scope.names.lookup x = some .local := by first | exact Or.inl rfl | exact Or.inr rfl) : XG X (.Name x pos) t env d Qe := fun J G0 H0 G H σ v S r =>
  WG.of (pg_name hN hi hx hf) (show PostN _ _ _ _ _ _ _ from ⟨G, t, _, Same.refl _, S.put r i, rfl, q⟩)
theorem xgs_nil {Qe : List Sl → Prop} (q : Qe env) : XGs X [] t env [] Qe := fun J G0 H0 G H σ vs S r => WGs.of pgs_nil ⟨r, G, t, env, Same.refl _, S, rfl, q⟩
theorem xgs_cons {tgs : List Expr} {d : D} {ds : List D} {Qe : List Sl → Prop} (h : XG X tg t env d fun env1 => XGs X tgs t env1 ds Qe) (hs : (assignEach (tg :: tgs) X.env).map (·.2) = assign tg X.env :: (assignEach tgs X.env).map (·.2) := by rfl) : XGs X (tg :: tgs) t env (d :: ds) Qe := fun J G0 H0 G H σ vs S r => by
  refine WGs.of (pgs_cons pg_w pgs_w hs) ?_
  obtain ⟨v, r', e1, r1, r2⟩ := r
  refine ⟨v, r', e1, (h J G0 H0 G H σ v S r1).mono fun σ1 H1 ⟨G1, t1, env1, s1, S1, et, q1⟩ => ?_⟩
  subst et
  exact (q1 J G0 H0 G1 H1 σ1 r' S1 (r2.mono s1)).mono fun σ2 H2 q => q.sub s1
theorem xg_tup {k : Nat} {ds : List D} {Qe : List Sl → Prop} (hc : X.calm = true) (h : XGs X es t env ds Qe) (hl : (assignEach es X.env).length = ds.length := by rfl) (hst : (assignEach es X.env).findIdx? (·.1) = none := by rfl) : XG X (.Tuple es k pos) t env (.tup ds) Qe := fun J G0 H0 G H σ v S r => by
  obtain ⟨a, xs, e1, h1, h2⟩ := r
  exact WG.of (pg_tup (n := ds.length) hc pgs_w hl hst) ⟨a, xs, e1, SqT.of (S.sub _ _ h1), h2.length, h J G0 H0 G H σ xs S h2⟩
/-- target = value -/
theorem xs_asg (h : XE X e t env fun t1 d => XG X tg t1 env d fun env1 => Q t1 env1) (hs : swapsWithSole [tg] e pos.line X.env = pure false := by rfl) (hw : swappedStores [tg] e X.env = pure none := by rfl)
    (h1 : (assignEach [tg] X.env).map (·.2) = [assign tg X.env] := by rfl) : XS X (.Assign [tg] e pos) t env Q R := fun J G0 H0 G H σ S => by
  refine WS.of (ps_asg pe_w pg_w hs hw h1) ?_
  refine (h J G0 H0 G H σ S).mono fun v H1 ⟨G1, t1, d, e1, S1, r1, q1⟩ => ?_
  exact (q1 J G0 H0 G1 H1 σ v S1 r1).mono fun σ2 H2 ⟨G2, t2, env2, e2, S2, et, q2⟩ => ⟨G2, t2, env2, e1.trans e2, S2, by rw [et]; exact q2⟩

/-! ### a name's own list -/
/-- held firm from now on -/
theorem xss_firm (i : Nat) {ao : Option Addr} {ds : List D} (he : env[i]? = some (.own (.lst ao ds)) := by rfl) (h : XSs X sts t (env.set i (.d (.lst ds))) Q R) : XSs X sts t env Q R := fun J G0 H0 G H σ S => by
  obtain ⟨G', p, _, _, _, sG, S'⟩ := S.firm he
  exact (h J G0 H0 G' H σ S').mono (fun σ2 H2 q => q.sub sG) (fun v H1 r => r) (fun _ _ z => z) fun _ _ z => z
/-- forgotten -/
theorem xss_any (i : Nat) (h : XSs X sts t (env.set i .any) Q R) : XSs X sts t env Q R := fun J G0 H0 G H σ S => by
  by_cases hl : i < σ.length
  · have S' := S.drop1 i σ[i]
    rw [show σ.set i σ[i] = σ from List.set_getElem_self hl] at S'
    exact h J G0 H0 G H σ S'
  · have S' := S.drop1 i none
    rw [show σ.set i none = σ from List.set_eq_of_length_le (by omega)] at S'
    exact h J G0 H0 G H σ S'
/-- values that speak of no object -/
def flatD : D → Bool
  | .tup _ => false | .lst _ => false | .ins _ _ _ => false | .jar => false | .fz _ _ => false | _ => true
theorem Rep.flat {d : D} {v : V} {J J' : Option Addr} {G G' : Hp} (h : flatD d = true) (r : Rep J G d v) : Rep J' G' d v := by
  cases d <;> first | exact r | cases h
theorem RepL.flat {J J' : Option Addr} {G G' : Hp} : ∀ {ds : List D} {xs : List V}, ds.all flatD = true → RepL J G ds xs → RepL J' G' ds xs
  | [], _, _, r => r
  | d :: ds, _, h, r => by
    rw [List.all_cons, Bool.and_eq_true] at h
    obtain ⟨v, u, e, r1, r2⟩ := r
    exact ⟨v, u, e, r1.flat h.1, RepL.flat h.2 r2⟩
/-- what an expression sees that only looks at the i-th name's list -/
def peekEnv (env : List Sl) (i : Nat) (ds : List D) : List Sl := (env.map fun s => match s with
  | .d d => if flatD d then .d d else .any
  | _ => .any).set i (.d (.lst ds))
theorem peek_stt {J : Option Addr} {G0 H0 G H : Hp} {σ : L2.St} {i : Nat} {ao : Option Addr} {ds : List D} (S : Stt J G0 H0 G H t σ env) (he : env[i]? = some (.own (.lst ao ds))) (hf : ds.all flatD = true) : ∃ G1, Stt none G1 H G1 H t σ (peekEnv env i ds) := by
  obtain ⟨p, o, h1, h2, ⟨hao, xs, h3, hr⟩, _⟩ := S.own i _ he
  subst h3
  have hl : i < env.length := (List.getElem?_eq_some_iff.mp he).1
  refine ⟨fun a => if a = p then some (.lst xs) else none, Gr.refl _ _ _, fun a u e => ?_, fun j e => (nomatch e), ?_, fun k d e => ?_, fun k c e => ?_, fun k l c c' q e => ?_⟩
  · have e' : (if a = p then some (HO.lst xs) else none) = some u := e
    by_cases ha : a = p
    · rw [if_pos ha] at e'
      rw [ha, h2]
      exact e'
    · rw [if_neg ha] at e'; cases e'
  · unfold peekEnv
    rw [List.length_set, List.length_map]
    exact S.len
  · unfold peekEnv at e
    rcases get_set_cases e with ⟨rfl, e1, _⟩ | ⟨hk, e1⟩
    · injection e1 with e1
      subst e1
      exact ⟨.ref p, h1, p, xs, rfl, if_pos rfl, hr.flat hf⟩
    · rw [List.getElem?_map] at e1
      cases q : env[k]? with
      | none => rw [q] at e1; cases e1
      | some s =>
        rw [q] at e1
        have e2 := Option.some.inj e1
        cases s with
        | any => cases e2
        | own c => cases e2
        | d x =>
          have e3 : (if flatD x then Sl.d x else Sl.any) = Sl.d d := e2
          cases hx : flatD x with
          | false =>
            rw [hx, if_neg Bool.false_ne_true] at e3
            cases e3
          | true =>
            rw [hx, if_pos rfl] at e3
            injection e3 with e3
            subst e3
            obtain ⟨v, z1, z2⟩ := S.val k x q
            exact ⟨v, z1, z2.flat hx⟩
  · exfalso
    unfold peekEnv at e
    rcases get_set_cases e with ⟨rfl, e1, _⟩ | ⟨hk, e1⟩
    · cases e1
    · rw [List.getElem?_map] at e1
      cases q : env[k]? with
      | none => rw [q] at e1; cases e1
      | some s =>
        rw [q] at e1
        have e2 := Option.some.inj e1
        cases s with
        | any => cases e2
        | own c => cases e2
        | d x =>
          have e3 : (if flatD x then Sl.d x else Sl.any) = Sl.own c := e2
          split at e3 <;> cases e3
  · exfalso
    unfold peekEnv at e
    rcases get_set_cases e with ⟨rfl, e1, _⟩ | ⟨hk, e1⟩
    · cases e1
    · rw [List.getElem?_map] at e1
      cases q : env[k]? with
      | none => rw [q] at e1; cases e1
      | some s =>
        rw [q] at e1
        have e2 := Option.some.inj e1
        cases s with
        | any => cases e2
        | own c => cases e2
        | d x =>
          have e3 : (if flatD x then Sl.d x else Sl.any) = Sl.own c := e2
          split at e3 <;> cases e3
theorem peek_back {J : Option Addr} {G0 H0 G H G1 G' H' : Hp} {t' : Nat} {σ : L2.St} {env' : List Sl} (S : Stt J G0 H0 G H t σ env) (S' : Stt none G1 H G' H' t' σ env') : Stt J G0 H0 G H' t σ env := by
  have k : ∀ a o, H a = some o → H' a = some o := fun a o e => S'.gr.exH a o e fun z => nomatch z
  exact S.gr' ⟨Same.refl _, fun a o e _ => k a o e, fun a o e n => n⟩ (fun a o e => k a o (S.sub a o e)) (S.jar.grow k (Same.refl _) fun j e => S.jar.jg e)
theorem xe_peek (i : Nat) {ao : Option Addr} {ds : List D} {Qe : Nat → D → Prop} (he : env[i]? = some (.own (.lst ao ds))) (hf : ds.all flatD = true) (h : XE X e t (peekEnv env i ds) fun _ d => flatD d = true ∧ Qe t d) : XE X e t env Qe := fun J G0 H0 G H σ S => by
  obtain ⟨G1, S1⟩ := peek_stt S he hf
  refine (h none G1 H G1 H σ S1).mono fun v H' ⟨G', t', d, _, S', r, hd, q⟩ => ?_
  exact ⟨G, t, d, Same.refl _, peek_back S S', r.flat hd, q⟩
theorem xt_peek (i : Nat) {ao : Option Addr} {ds : List D} {Qe : Nat → Bool → Prop} (he : env[i]? = some (.own (.lst ao ds))) (hf : ds.all flatD = true) (h : XT X e t (peekEnv env i ds) fun _ d => Qe t d) : XT X e t env Qe := fun J G0 H0 G H σ S => by
  obtain ⟨G1, S1⟩ := peek_stt S he hf
  refine (h none G1 H G1 H σ S1).mono fun v H' ⟨G', t', _, S', q⟩ => ?_
  exact ⟨G, t, Same.refl _, peek_back S S', q⟩

/-! ### methods of a name's own list -/
theorem ty_list {K : PySem.W.Frag} {H : Hp} {p : Addr} {xs : List V} (h : H p = some (.lst xs)) : tyV K "list" (.ref p) H := .inl ⟨rfl, xs, SqL.of h⟩
theorem xs_append (i : Nat) {ao : Option Addr} {ds : List D} {ap : Pos} (he : env[i]? = some (.own (.lst ao ds))) (hz : ds.length < 100000) (h : XE X e t env fun t1 d => Q t1 (env.set i (.own (.lst ao (ds ++ [d]))))) (hN : X.N[i]? = some x := by rfl)
    (hv : Vis X.env.scope x := by first | exact Or.inl rfl | exact Or.inr (Or.inl rfl)) (hd : (x == ("__debug__" : Str)) = false := by decide) (hcd : (x == ("__classdict__" : Str)) = false := by decide)
    (hbase : attributeBase (.Name x px) "append" X.env (eval (.Name x px) X.env) = eval (.Name x px) X.env := by rfl)
    (hfew : ((backTo p (starEach [e] X.env)).all (fun x => !x.1) && (backToKw p (keywordEach [] X.env)).all (fun x => x.1.isSome) && decide ([e].length + ([] : List Keyword).length + (if ([] : List Keyword).isEmpty then 0 else 1) < 30)) = true := by rfl)
    (hline : (ap.endLine == p.line) = true := by rfl) (hs : starEach [e] X.env = (false, eval e X.env) :: starEach [] X.env := by rfl) (hpl : (backTo p (starEach [] X.env)).any (·.1) = false := by rfl)
    (hsw : swapsWith (.Call (.Attribute (.Name x px) "append" ap) [e] [] p) none pos.line X.env = pure false := by rfl) :
    XS X (.Expr (.Call (.Attribute (.Name x px) "append" ap) [e] [] p) pos) t env Q R := fun J G0 H0 G H σ S => by
  obtain ⟨q, o, h1, h2, ⟨hao, xs, h3, hr⟩, h4, h5, h6⟩ := S.own i _ he
  subst h3
  refine WS.of (ps_expr (pe_bm PySem.F.plainAttrs_list PySem.F.slot_list_append PySem.F.type_list_append mt_append (pe_var hN hv hd hcd) (pa_cons pe_w pa_nil hs) hbase hfew hline hs hpl) hsw) ?_
  refine ⟨.ref q, h1, ty_list h2, (h J G0 H0 G H σ S).mono fun v H1 ⟨G1, t1, d, e1, S1, r1, q1⟩ => ?_⟩
  obtain ⟨q', o', z1, z2, ⟨hao', ys, z3, zr⟩, _⟩ := S1.own i _ he
  subst z3
  have eq : q' = q := by
    rw [h1] at z1
    have := Option.some.inj (Option.some.inj z1)
    injection this with this
    exact this.symm
  subst eq
  refine ⟨q', ys, v, rfl, rfl, z2, ?_, G1, t1, _, e1, S1.mut (c' := .lst ao (ds ++ [d])) he h1 ⟨hao', _, rfl, zr.append (.one r1)⟩, q1⟩
  rw [zr.length]
  exact Nat.lt_of_lt_of_le hz (by decide)
theorem xs_extend (i : Nat) {ao : Option Addr} {ds : List D} {ap : Pos} (he : env[i]? = some (.own (.lst ao ds))) (h : XE X e t env fun t1 d => ∃ es, d = .lst es ∧ ds.length + es.length < 1000000 ∧ Q t1 (env.set i (.own (.lst ao (ds ++ es))))) (hN : X.N[i]? = some x := by rfl)
    (hv : Vis X.env.scope x := by first | exact Or.inl rfl | exact Or.inr (Or.inl rfl)) (hd : (x == ("__debug__" : Str)) = false := by decide) (hcd : (x == ("__classdict__" : Str)) = false := by decide)
    (hbase : attributeBase (.Name x px) "extend" X.env (eval (.Name x px) X.env) = eval (.Name x px) X.env := by rfl)
    (hfew : ((backTo p (starEach [e] X.env)).all (fun x => !x.1) && (backToKw p (keywordEach [] X.env)).all (fun x => x.1.isSome) && decide ([e].length + ([] : List Keyword).length + (if ([] : List Keyword).isEmpty then 0 else 1) < 30)) = true := by rfl)
    (hline : (ap.endLine == p.line) = true := by rfl) (hs : starEach [e] X.env = (false, eval e X.env) :: starEach [] X.env := by rfl) (hpl : (backTo p (starEach [] X.env)).any (·.1) = false := by rfl)
    (hsw : swapsWith (.Call (.Attribute (.Name x px) "extend" ap) [e] [] p) none pos.line X.env = pure false := by rfl) :
    XS X (.Expr (.Call (.Attribute (.Name x px) "extend" ap) [e] [] p) pos) t env Q R := fun J G0 H0 G H σ S => by
  obtain ⟨q, o, h1, h2, ⟨hao, xs, h3, hr⟩, h4, h5, h6⟩ := S.own i _ he
  subst h3
  refine WS.of (ps_expr (pe_bm PySem.F.plainAttrs_list PySem.F.slot_list_extend PySem.F.type_list_extend mt_extend (pe_var hN hv hd hcd) (pa_cons pe_w pa_nil hs) hbase hfew hline hs hpl) hsw) ?_
  refine ⟨.ref q, h1, ty_list h2, (h J G0 H0 G H σ S).mono fun v H1 ⟨G1, t1, d, e1, S1, r1, es, ed, hz, q1⟩ => ?_⟩
  subst ed
  obtain ⟨b, zs, rfl, y1, y2⟩ := r1
  obtain ⟨q', o', z1, z2, ⟨hao', ys, z3, zr⟩, _⟩ := S1.own i _ he
  subst z3
  have eq : q' = q := by
    rw [h1] at z1
    have := Option.some.inj (Option.some.inj z1)
    injection this with this
    exact this.symm
  subst eq
  refine ⟨q', b, ys, zs, rfl, rfl, z2, S1.sub _ _ y1, ?_, G1, t1, _, e1, S1.mut (c' := .lst ao (ds ++ es)) he h1 ⟨hao', _, rfl, zr.append y2⟩, q1⟩
  rw [zr.length, y2.length]
  exact Nat.le_of_lt (Nat.lt_of_lt_of_le hz (by decide))
/-- xs[e] = v -/
theorem xs_setIx (i : Nat) {ao : Option Addr} {ds : List D} {sp : Pos} (he : env[i]? = some (.own (.lst ao ds))) (h : XE X a t env fun t1 d => XE X b t1 env fun t2 d2 => ∃ k : Nat, d2 = .int k ∧ k < ds.length ∧ Q t2 (env.set i (.own (.lst ao (ds.set k d))))) (hN : X.N[i]? = some x := by rfl)
    (hv : Vis X.env.scope x := by first | exact Or.inl rfl | exact Or.inr (Or.inl rfl)) (hd : (x == ("__debug__" : Str)) = false := by decide) (hcd : (x == ("__classdict__" : Str)) = false := by decide)
    (ha : ∀ v, assign (.Subscript (.Name x px) b sp) X.env v = (do
      let ov ← holding [v] (eval (.Name x px) X.env)
      let iv ← holding [v, ov] (eval b X.env)
      standAt sp
      holding [v, ov, iv] (setItem ov iv v)
      release [v, ov, iv] []) := by intro _; rfl)
    (hs : swapsWithSole [.Subscript (.Name x px) b sp] a pos.line X.env = pure false := by rfl) (hw : swappedStores [.Subscript (.Name x px) b sp] a X.env = pure none := by rfl) (h1 : (assignEach [.Subscript (.Name x px) b sp] X.env).map (·.2) = [assign (.Subscript (.Name x px) b sp) X.env] := by rfl) :
    XS X (.Assign [.Subscript (.Name x px) b sp] a pos) t env Q R := fun J G0 H0 G H σ S => by
  refine WS.of (ps_asg pe_w (pg_sub (pe_var hN hv hd hcd) pe_w set_list ha) hs hw h1) ?_
  refine (h J G0 H0 G H σ S).mono fun v H1 ⟨G1, t1, d, e1, S1, r1, q1⟩ => ?_
  obtain ⟨q, o, y1, _⟩ := S.own i _ he
  refine ⟨.ref q, y1, (q1 J G0 H0 G1 H1 σ S1).mono fun u H2 ⟨G2, t2, d2, e2, S2, r2, k, ed, hk, q2⟩ => ?_⟩
  subst ed
  obtain rfl : u = .int k := r2
  obtain ⟨q', o', z1, z2, ⟨hao', ys, z3, zr⟩, _⟩ := S2.own i _ he
  subst z3
  have eq : q' = q := by
    rw [y1] at z1
    have := Option.some.inj (Option.some.inj z1)
    injection this with this
    exact this.symm
  subst eq
  refine ⟨q', ys, (k : Int), k, rfl, rfl, z2, ?_, G2, t2, _, e1.trans e2, S2.mut (c' := .lst ao (ds.set k d)) he y1 ⟨hao', _, rfl, zr.set k (r1.mono e2)⟩, q2⟩
  unfold ixN
  rw [if_pos (by omega), if_pos (by rw [zr.length]; omega)]
  rw [Int.toNat_natCast]
/-- xs.append(ys.pop(e)) -/
theorem xs_appendPop (i j : Nat) {ao ao2 : Option Addr} {ds es' : List D} {ap ap2 p2 : Pos} (hij : i ≠ j) (he : env[i]? = some (.own (.lst ao ds))) (he2 : env[j]? = some (.own (.lst ao2 es'))) (hz : ds.length < 100000)
    (h : XE X e t env fun t1 d => ∃ (k : Nat) (y : D), d = .int k ∧ k < 2 ^ 63 ∧ es'[k]? = some y ∧ Q t1 ((env.set j (.own (.lst ao2 (es'.eraseIdx k)))).set i (.own (.lst ao (ds ++ [y]))))) (hN : X.N[i]? = some x := by rfl) (hN2 : X.N[j]? = some y := by rfl)
    (hv : Vis X.env.scope x := by first | exact Or.inl rfl | exact Or.inr (Or.inl rfl)) (hd : (x == ("__debug__" : Str)) = false := by decide) (hcd : (x == ("__classdict__" : Str)) = false := by decide)
    (hv2 : Vis X.env.scope y := by first | exact Or.inl rfl | exact Or.inr (Or.inl rfl)) (hd2 : (y == ("__debug__" : Str)) = false := by decide) (hcd2 : (y == ("__classdict__" : Str)) = false := by decide)
    (hbase2 : attributeBase (.Name y py) "pop" X.env (eval (.Name y py) X.env) = eval (.Name y py) X.env := by rfl)
    (hfew2 : ((backTo p2 (starEach [e] X.env)).all (fun x => !x.1) && (backToKw p2 (keywordEach [] X.env)).all (fun x => x.1.isSome) && decide ([e].length + ([] : List Keyword).length + (if ([] : List Keyword).isEmpty then 0 else 1) < 30)) = true := by rfl)
    (hline2 : (ap2.endLine == p2.line) = true := by rfl) (hs2 : starEach [e] X.env = (false, eval e X.env) :: starEach [] X.env := by rfl) (hpl2 : (backTo p2 (starEach [] X.env)).any (·.1) = false := by rfl)
    (hbase : attributeBase (.Name x px) "append" X.env (eval (.Name x px) X.env) = eval (.Name x px) X.env := by rfl)
    (hfew : ((backTo p (starEach [.Call (.Attribute (.Name y py) "pop" ap2) [e] [] p2] X.env)).all (fun x => !x.1) && (backToKw p (keywordEach [] X.env)).all (fun x => x.1.isSome) && decide ([Expr.Call (.Attribute (.Name y py) "pop" ap2) [e] [] p2].length + ([] : List Keyword).length + (if ([] : List Keyword).isEmpty then 0 else 1) < 30)) = true := by rfl)
    (hline : (ap.endLine == p.line) = true := by rfl) (hs : starEach [.Call (.Attribute (.Name y py) "pop" ap2) [e] [] p2] X.env = (false, eval (.Call (.Attribute (.Name y py) "pop" ap2) [e] [] p2) X.env) :: starEach [] X.env := by rfl) (hpl : (backTo p (starEach [] X.env)).any (·.1) = false := by rfl)
    (hsw : swapsWith (.Call (.Attribute (.Name x px) "append" ap) [.Call (.Attribute (.Name y py) "pop" ap2) [e] [] p2] [] p) none pos.line X.env = pure false := by rfl) :
    XS X (.Expr (.Call (.Attribute (.Name x px) "append" ap) [.Call (.Attribute (.Name y py) "pop" ap2) [e] [] p2] [] p) pos) t env Q R := fun J G0 H0 G H σ S => by
  obtain ⟨q, o, h1, h2, ⟨hao, xs, h3, hr⟩, h4, h5, h6⟩ := S.own i _ he
  subst h3
  obtain ⟨q2, o2, k1, k2, ⟨hao2, xs2, k3, kr⟩, k4, k5, k6⟩ := S.own j _ he2
  subst k3
  refine WS.of (ps_expr (pe_bm PySem.F.plainAttrs_list PySem.F.slot_list_append PySem.F.type_list_append mt_append (pe_var hN hv hd hcd)
    (pa_cons (pe_bm PySem.F.plainAttrs_list PySem.F.slot_list_pop PySem.F.type_list_pop mt_popAt (pe_var hN2 hv2 hd2 hcd2) (pa_cons pe_w pa_nil hs2) hbase2 hfew2 hline2 hs2 hpl2) pa_nil hs) hbase hfew hline hs hpl) hsw) ?_
  refine ⟨.ref q, h1, ty_list h2, .ref q2, k1, ty_list k2, (h J G0 H0 G H σ S).mono fun v H1 ⟨G1, t1, d, e1, S1, r1, k, yd, ed, hk63, hy, q1⟩ => ?_⟩
  subst ed
  obtain rfl : v = .int k := r1
  obtain ⟨q', o', z1, z2, ⟨hao', ys, z3, zr⟩, _⟩ := S1.own i _ he
  subst z3
  obtain ⟨q2', o2', w1, w2, ⟨hao2', ys2, w3, wr⟩, _⟩ := S1.own j _ he2
  subst w3
  have eq : q' = q := by
    rw [h1] at z1
    have := Option.some.inj (Option.some.inj z1)
    injection this with this
    exact this.symm
  have eq2 : q2' = q2 := by
    rw [k1] at w1
    have := Option.some.inj (Option.some.inj w1)
    injection this with this
    exact this.symm
  subst eq eq2
  have ne : q' ≠ q2' := fun e => hij (S1.dist i j _ _ q' he he2 h1 (by rw [e]; exact k1))
  obtain ⟨yv, y1, y2⟩ := wr.get hy
  have hlt : k < ys2.length := (List.getElem?_eq_some_iff.mp y1).1
  have S2 := S1.mut (c' := .lst ao2 (es'.eraseIdx k)) he2 k1 ⟨hao2', _, rfl, wr.eraseIdx k⟩
  have he' : (env.set j (Sl.own (.lst ao2 (es'.eraseIdx k))))[i]? = some (.own (.lst ao ds)) := by
    rw [List.getElem?_set_ne (Ne.symm hij)]
    exact he
  have S3 := S2.mut (c' := .lst ao (ds ++ [yd])) he' h1 ⟨hao', _, rfl, zr.append (.one y2)⟩
  have sq : seqIndex? (k : Int) ys2.length = some k := by
    rw [seqIndex_of (by omega) (by omega), Int.toNat_natCast]
  refine ⟨q2', ys2, (k : Int), k, yv, rfl, rfl, w2, by omega, by omega, sq, y1, q', ys, yv, rfl, rfl, ?_, ?_, G1, t1, _, e1, S3, q1⟩
  · rw [upd_ne ne]
    exact z2
  · rw [zr.length]
    exact Nat.lt_of_lt_of_le hz (by decide)

/-! ### attributes of the instance that is made -/
theorem putF_new {f : Str} {v : V} : ∀ {fs : List (Str × V)}, f ∉ fs.map (·.1) → putF f v fs = fs ++ [(f, v)]
  | [], _ => rfl
  | (g, x) :: r, h => by
    rw [List.map_cons, List.mem_cons, not_or] at h
    show (if g = f then (g, v) :: r else (g, x) :: putF f v r) = _
    rw [if_neg (fun e => h.1 e.symm), putF_new h.2]
    rfl
theorem xs_fld (i : Nat) {ia C : Addr} {f : Str} {ks : List Str} {ao : Option Addr} {ds : List D} {ap : Pos} (he : env[i]? = some (.own (.obj ia C ks ds))) (cl : Cls X.K C) (na : NoAttr X.K C f) (hf : f ∉ ks) (hl : ks.length < 100) (h : XE X e t env fun t1 d => Q t1 (env.set i (.own (.obj ia C (ks ++ [f]) (ds ++ [d]))))) (hN : X.N[i]? = some x := by rfl)
    (hv : Vis X.env.scope x := by first | exact Or.inl rfl | exact Or.inr (Or.inl rfl)) (hd : (x == ("__debug__" : Str)) = false := by decide) (hcd : (x == ("__classdict__" : Str)) = false := by decide)
    (hs : swapsWith e (some (.Attribute (.Name x px) f ap)) pos.line X.env = pure false := by rfl) : XS X (.Assign [.Attribute (.Name x px) f ap] e pos) t env Q R := fun J G0 H0 G H σ S => by
  refine WS.of (ps_fld (pe_var hN hv hd hcd) pe_w hs) ?_
  refine (h J G0 H0 G H σ S).mono fun v H1 ⟨G1, t1, d, e1, S1, r1, q1⟩ => ?_
  obtain ⟨q, o, z1, z2, ⟨hia, dx, fs, z3, z4, zr, z5⟩, _⟩ := S1.own i _ he
  subst z3 z4
  have hlen : fs.length < 100 := by rw [List.length_map] at hl; exact hl
  refine ⟨.ref q, z1, q, C, dx, fs, rfl, z2, cl, na, by omega, G1, t1, _, e1, S1.mut (c' := .obj ia C (fs.map (·.1) ++ [f]) (ds ++ [d])) he z1 ⟨hia, dx, putF f v fs, rfl, ?_, ?_, ?_⟩, q1⟩
  · rw [putF_new hf, List.map_append]
    rfl
  · rw [putF_new hf, List.map_append]
    exact zr.append (.one r1)
  · rw [putF_new hf, List.length_append]
    show fs.length + 1 < 900
    omega
end
end BS

set_option Elab.async false
set_option linter.all false
set_option maxRecDepth 100000
set_option maxHeartbeats 4000000
/-! loops, comprehensions -/
namespace BS
open PySem PySem.Spec PyProof.Rows L2
section
variable {X : Cx} {e a b c elt : Expr} {es ifs : List Expr} {st : Stmt} {sts rest body : List Stmt} {tg iter : Expr} {t k : Nat} {env : List Sl} {pos p px : Pos} {x y z : Str}
variable {Q : Nat → List Sl → Prop} {R : Nat → List Sl → D → Prop}

/-! ### what is walked -/
theorem itOk_lst {K : PySem.W.Frag} {J : Option Addr} {G : Hp} {a : Addr} {xs : List V} {ds : List D} (h : G a = some (.lst xs)) (r : RepL J G ds xs) : ItOk J (Itl K a) G ds := fun G' H' s1 s2 => by
  have hq : SqL K H' a xs := SqL.of (s2 _ _ (s1 _ _ h))
  refine ⟨fun i d hd => ?_, xs, hq, by rw [r.length]; exact Nat.le_refl _⟩
  obtain ⟨v, h1, h2⟩ := r.get hd
  refine ⟨⟨xs, v, hq, h1⟩, fun x H3 y => ?_⟩
  obtain ⟨e1, e2⟩ := y
  have e3 : some v = some x := h1.symm.trans (e2 xs hq)
  injection e3 with e3
  subst e3
  exact ⟨e1, h2.mono s1⟩
theorem itOk_tup {K : PySem.W.Frag} {J : Option Addr} {G : Hp} {a : Addr} {xs : List V} {ds : List D} (h : G a = some (.tup xs)) (r : RepL J G ds xs) : ItOk J (Itt K a) G ds := fun G' H' s1 s2 => by
  have hq : SqT K H' a xs := SqT.of (s2 _ _ (s1 _ _ h))
  refine ⟨fun i d hd => ?_, xs, hq, by rw [r.length]; exact Nat.le_refl _⟩
  obtain ⟨v, h1, h2⟩ := r.get hd
  refine ⟨⟨xs, v, hq, h1⟩, fun x H3 y => ?_⟩
  obtain ⟨e1, e2⟩ := y
  have e3 : some v = some x := h1.symm.trans (e2 xs hq)
  injection e3 with e3
  subst e3
  exact ⟨e1, h2.mono s1⟩
/-- the ints lo, lo + 1, .. -/
def rgD (lo : Int) (n : Nat) : List D := (List.range n).map fun i => D.int (lo + (i : Nat))
theorem rgD_len (lo : Int) (n : Nat) : (rgD lo n).length = n := by unfold rgD; rw [List.length_map, List.length_range]
theorem rgD_at {lo : Int} {n i : Nat} {d : D} (h : (rgD lo n)[i]? = some d) : i < n ∧ d = .int (lo + i) := by
  unfold rgD at h
  rw [List.getElem?_map] at h
  have hi : i < n := by
    by_cases hi : i < n
    · exact hi
    · rw [List.getElem?_eq_none (by rw [List.length_range]; omega)] at h; cases h
  rw [List.getElem?_range hi] at h
  exact ⟨hi, (Option.some.inj h).symm⟩
theorem itOk_rng {J : Option Addr} {G : Hp} {lo : Int} {n : Nat} : ItOk J (Itr lo n) G (rgD lo n) := fun G' H' _ _ => by
  refine ⟨fun i d hd => ?_, by rw [rgD_len]; exact Nat.le_refl _⟩
  obtain ⟨h1, h2⟩ := rgD_at hd
  subst h2
  exact ⟨h1, fun x H3 y => ⟨y.1, y.2⟩⟩
variable {Qi : Nat → List D → Prop}
theorem xi_lst (h : XE X iter t env fun t1 d => ∃ ds, d = .lst ds ∧ Qi t1 ds) : XI X tg iter t env Qi := fun J G0 H0 G H σ S => by
  refine WI.of (pi_list pe_w) ((h J G0 H0 G H σ S).mono fun v H1 ⟨G1, t1, d, e1, S1, r1, ds, ed, q1⟩ => ?_)
  subst ed
  obtain ⟨a, xs, rfl, z1, z2⟩ := r1
  exact ⟨a, rfl, ⟨xs, SqL.of (S1.sub _ _ z1)⟩, G1, t1, ds, e1, S1, itOk_lst z1 z2, q1⟩
theorem xi_tup (h : XE X iter t env fun t1 d => ∃ ds, d = .tup ds ∧ Qi t1 ds) : XI X tg iter t env Qi := fun J G0 H0 G H σ S => by
  refine WI.of (pi_tup pe_w) ((h J G0 H0 G H σ S).mono fun v H1 ⟨G1, t1, d, e1, S1, r1, ds, ed, q1⟩ => ?_)
  subst ed
  obtain ⟨a, xs, rfl, z1, z2⟩ := r1
  exact ⟨a, rfl, ⟨xs, SqT.of (S1.sub _ _ z1)⟩, G1, t1, ds, e1, S1, itOk_tup z1 z2, q1⟩
theorem xi_rg1 (hm : X.mg "range" = none) (h : XE X a t env fun t1 d => ∃ n : Nat, d = .int n ∧ n < 1000000 ∧ Qi t1 (rgD 0 n)) (hg : Gl X "range" := by rfl) (hs : starEach [a] X.env = [(false, eval a X.env)] := by rfl) : XI X tg (.Call (.Name "range" p) [a] [] pos) t env Qi := fun J G0 H0 G H σ S => by
  refine WI.of (pi_range1 hg hm (pa_cons pe_w pa_nil hs) hs) ((h J G0 H0 G H σ S).mono fun v H1 ⟨G1, t1, d, e1, S1, r1, n, ed, hn, q1⟩ => ?_)
  subst ed
  obtain rfl : v = .int n := r1
  exact ⟨(n : Int), rfl, by omega, by omega, G1, t1, _, e1, S1, by rw [Int.toNat_natCast]; exact itOk_rng, q1⟩
theorem xi_rg2 (hm : X.mg "range" = none) (h : XE X a t env fun t1 d => XE X b t1 env fun t2 d2 => I2 d d2 fun i j => (-1000000 < i ∧ i < 1000000 ∧ -1000000 < j ∧ j < 1000000) ∧ Qi t2 (rgD i (j - i).toNat)) (hg : Gl X "range" := by rfl) (hs : starEach [a, b] X.env = [(false, eval a X.env), (false, eval b X.env)] := by rfl)
    (hs2 : starEach [b] X.env = [(false, eval b X.env)] := by rfl) : XI X tg (.Call (.Name "range" p) [a, b] [] pos) t env Qi := fun J G0 H0 G H σ S => by
  refine WI.of (pi_range2 hg hm (pa_cons pe_w (pa_cons pe_w pa_nil hs2) (by rw [hs, hs2])) hs hs2) ?_
  refine (h J G0 H0 G H σ S).mono fun v H1 ⟨G1, t1, d, e1, S1, r1, q1⟩ => ?_
  refine (q1 J G0 H0 G1 H1 σ S1).mono fun w H2 ⟨G2, t2, d2, e2, S2, r2, i, j, ed, ed2, hb, q2⟩ => ?_
  subst ed ed2
  obtain rfl : v = .int i := r1
  obtain rfl : w = .int j := r2
  exact ⟨i, j, rfl, ⟨by omega, by omega, by omega, by omega⟩, G2, t2, _, e1.trans e2, S2, itOk_rng, q2⟩

/-! ### loops -/
theorem xs_for (hp : PassesOwn (model X.prog X.w) X.A X.env X.xe) (hc : X.calm = true) (h : XI X tg iter t env fun t1 ds => ∃ I : Nat → Nat → List Sl → Prop, I 0 t1 env ∧
      (∀ i d t2 env2, ds[i]? = some d → I i t2 env2 → XG X tg t2 env2 d fun env3 => XSs X body t2 env3 (I (i + 1)) R) ∧ ∀ t2 env2, I ds.length t2 env2 → Q t2 env2)
    (hs : ∀ x, foldedSetIterable iter X.env x = pure x := by intro _; rfl) : XS X (.For tg iter body [] pos) t env Q R := fun J G0 H0 G H σ S => by
  refine WS.of (ps_for hp hc pi_w pg_w pss_w hs) ?_
  refine (fun pins s I0 => thn (h J G0 H0 G H σ S pins s I0) fun v s1 h1 => thn h1 fun u s2 ⟨it, fp, tn, It, H', e1, e2, e3, e4, e5, G1, t1, ds, sG, S1, ok, I, i0, step, done⟩ => ⟨it, fp, tn, It, H', e1, e2, e3, e4, e5, ?_⟩ : WI X tg iter σ H _)
  refine ⟨fun i m σ2 H2 => m = ds.length - i ∧ i ≤ ds.length ∧ ∃ G2 t2 env2, Same G1 G2 ∧ Stt J G0 H0 G2 H2 t2 σ2 env2 ∧ I i t2 env2, ⟨_, rfl, Nat.zero_le _, G1, t1, env, Same.refl _, S1, i0⟩, ?_⟩
  rintro i m σ2 H2 ⟨rfl, hi, G2, t2, env2, s2, S2, i2⟩
  by_cases hlt : i < ds.length
  · have hd : ds[i]? = some ds[i] := by simp [hlt]
    obtain ⟨go, yl⟩ := (ok G2 H2 s2 S2.sub).1 i _ hd
    refine .inr ⟨go, fun σ' H' => ∃ G2 t2 env2, Same G1 G2 ∧ Stt J G0 H0 G2 H' t2 σ' env2 ∧ I (i + 1) t2 env2, fun σ' H' n => ⟨ds.length - (i + 1), by omega, rfl, hlt, n⟩, fun x H3 y => ?_⟩
    obtain ⟨e3, r3⟩ := yl x H3 y
    subst e3
    refine (step i _ t2 env2 hd i2 J G0 H0 G2 H3 σ2 x S2 r3).mono fun σ3 H4 ⟨G3, t3, env3, s3, S3, et, b3⟩ => ?_
    subst et
    exact (b3 J G0 H0 G3 H4 σ3 S3).mono (fun σ4 H5 ⟨G4, t4, env4, s4, S4, i4⟩ => ⟨G4, t4, env4, (s2.trans s3).trans s4, S4, i4⟩) (fun v H r => r) (fun _ _ z => z.elim) fun _ _ z => z.elim
  · have e : i = ds.length := by omega
    subst e
    exact .inl ⟨(ok G2 H2 s2 S2.sub).2, G2, t2, env2, sG.trans s2, S2, done t2 env2 i2⟩
theorem xs_while (hp : PassesOwn (model X.prog X.w) X.A X.env X.xe) (W : Nat → Nat → List Sl → Prop) (m : Nat) (w0 : W m t env)
    (h : ∀ m t env, W m t env → XT X c t env fun t1 k => (k = true → XSs X body t1 env (fun t2 env2 => ∃ m', m' < m ∧ W m' t2 env2) R) ∧ (k = false → Q t1 env)) : XS X (.While c body [] pos) t env Q R := fun J G0 H0 G H σ S => by
  refine WS.of (ps_while hp pt_w pss_w) ?_
  refine ⟨fun m σ2 H2 => ∃ G2 t2 env2, Same G G2 ∧ Stt J G0 H0 G2 H2 t2 σ2 env2 ∧ W m t2 env2, ⟨m, G, t, env, Same.refl _, S, w0⟩, ?_⟩
  rintro m σ2 H2 ⟨G2, t2, env2, s2, S2, w2⟩
  refine (h m t2 env2 w2 J G0 H0 G2 H2 σ2 S2).mono fun v H3 ⟨G3, t3, s3, S3, q3⟩ => ?_
  cases v with
  | true =>
    rw [if_pos rfl]
    refine ⟨fun σ' H' => ∃ m', m' < m ∧ ∃ G2 t2 env2, Same G G2 ∧ Stt J G0 H0 G2 H' t2 σ' env2 ∧ W m' t2 env2, fun σ' H' z => z, ?_⟩
    exact (q3.1 rfl J G0 H0 G3 H3 σ2 S3).mono (fun σ4 H5 ⟨G4, t4, env4, s4, S4, m', hm, w4⟩ => ⟨m', hm, G4, t4, env4, (s2.trans s3).trans s4, S4, w4⟩) (fun v H r => r) (fun _ _ z => z.elim) fun _ _ z => z.elim
  | false =>
    rw [if_neg Bool.false_ne_true]
    exact ⟨G3, t3, env2, s2.trans s3, S3, q3.2 rfl⟩

/-! ### comprehensions -/
def WTs (X : Cx) (ifs : List Expr) : TT := fun σ H Q => ∃ tt, PTs X ifs tt ∧ ∃ Q0, tt σ H Q0 ∧ ∀ b H, Q0 b H → Q b H
theorem pts_w : PTs X ifs (WTs X ifs) := ⟨fun pins s σ H Q I ⟨tt, ht, Q0, h, k⟩ => thn (ht.run pins s σ H Q0 I h) fun b s' ⟨H', I', q⟩ => ⟨H', I', k _ _ q⟩⟩
theorem WTs.of {tt : TT} {σ : L2.St} {H : Hp} {Q : Bool → Hp → Prop} (h : PTs X ifs tt) (q : tt σ H Q) : WTs X ifs σ H Q := ⟨tt, h, Q, q, fun _ _ z => z⟩
theorem WTs.mono {σ : L2.St} {H : Hp} {Q Q' : Bool → Hp → Prop} (h : WTs X ifs σ H Q) (k : ∀ b H, Q b H → Q' b H) : WTs X ifs σ H Q' := by
  obtain ⟨tt, ht, Q0, h, k0⟩ := h
  exact ⟨tt, ht, Q0, h, fun b H z => k b H (k0 b H z)⟩
def XTs (X : Cx) (ifs : List Expr) (t : Nat) (env : List Sl) (Q : Nat → Bool → Prop) : Prop := ∀ J G0 H0 G H σ, Stt J G0 H0 G H t σ env → WTs X ifs σ H (PostT J G0 H0 G σ env Q)
theorem xts_nil {Qb : Nat → Bool → Prop} (q : Qb t true) : XTs X [] t env Qb := fun J G0 H0 G H σ S => WTs.of pts_nil (show PostT _ _ _ _ _ _ _ _ _ from ⟨G, t, Same.refl _, S, q⟩)
theorem xts_one {Qb : Nat → Bool → Prop} (h : XT X c t env Qb) : XTs X [c] t env Qb := fun J G0 H0 G H σ S => WTs.of (pts_one pt_w) (h J G0 H0 G H σ S)

theorem wipe_set {σ : L2.St} {j : Nat} {v : Option V} : ∀ {vs : List Nat}, j ∈ vs → wipe (σ.set j v) vs = wipe σ vs
  | [], h => by cases h
  | w :: vs, h => by
    unfold wipe
    by_cases e : j = w
    · subst e
      have comm : ∀ (us : List Nat) (σ : L2.St), (wipe (σ.set j v) us).set j none = (wipe σ us).set j none := by
        intro us
        induction us with
        | nil => intro σ; show (σ.set j v).set j none = σ.set j none; rw [List.set_set]
        | cons u us ih =>
          intro σ
          show ((wipe (σ.set j v) us).set u none).set j none = ((wipe σ us).set u none).set j none
          by_cases eu : u = j
          · subst eu
            rw [List.set_set, List.set_set]
            exact ih σ
          · rw [List.set_comm _ _ eu, ih σ, List.set_comm _ _ (Ne.symm eu)]
      exact comm vs σ
    · rcases List.mem_cons.mp h with h | h
      · exact absurd h e
      · rw [wipe_set h]
theorem wipe_wipe {σ : L2.St} : ∀ {us vs : List Nat}, (∀ u ∈ us, u ∈ vs) → wipe (wipe σ us) vs = wipe σ vs
  | [], _, _ => rfl
  | u :: us, vs, h => by
    show wipe ((wipe σ us).set u none) vs = wipe σ vs
    rw [wipe_set (h u List.mem_cons_self), wipe_wipe fun w hw => h w (List.mem_cons_of_mem _ hw)]
theorem stt_wipe {J : Option Addr} {G0 H0 G H : Hp} {σ : L2.St} : ∀ {vs : List Nat} {env : List Sl}, Stt J G0 H0 G H t σ env → Stt J G0 H0 G H t (wipe σ vs) (vs.foldr (fun i e => e.set i .any) env)
  | [], _, S => S
  | v :: vs, _, S => (stt_wipe (vs := vs) S).drop1 v none
/-- what a block's own names hold -/
def blkEnv (env : List Sl) (vs : List Nat) : List Sl := vs.foldr (fun i e => e.set i .any) (unown env)

abbrev BX (X : Cx) (scope : Scope) (s : Shared) (H : Hp) (C : Addr) (cl : List (Str × Addr)) (fp : List Addr) : Cx := X.blk s H scope (compEnvC scope cl C X.env) fp
/-- one turn of the block, at every block -/
def Blk (X : Cx) (scope : Scope) (P : Cx → Prop) : Prop := ∀ (s : Shared) (H : Hp) (C : Addr) (cl : List (Str × Addr)) (fp : List Addr), P (BX X scope s H C cl fp)
theorem lc_ok {scope : Scope} {vs : List Nat} {g : TG} {Qe : Nat → D → Prop} {Q' : VK} {J : Option Addr} {G0 H0 G H : Hp} {σ : L2.St} (S : Stt J G0 H0 G H t σ env)
    (h : XI X tg iter t env fun t1 ds => ds.length ≤ 100000 ∧ ∃ I : Nat → List D → Prop, I 0 [] ∧ (∀ acc, I ds.length acc → Qe t1 (.lst acc)) ∧
      ∀ i d acc, ds[i]? = some d → I i acc → ∃ env1, (∀ J G0 H0 G H σ v (Q : L2.St → Hp → Prop), Stt J G0 H0 G H t1 σ (blkEnv env vs) → Rep J G d v → (∀ σ2, Stt J G0 H0 G H t1 σ2 env1 → wipe σ2 vs = wipe σ vs → Q σ2 H) → g v σ H Q) ∧
        Blk X scope fun B => XTs B ifs t1 env1 fun t2 b => t2 = t1 ∧ (b = true → Blk X scope fun B2 => XE B2 elt t1 env1 fun t3 y => t3 = t1 ∧ I (i + 1) (acc ++ [y])) ∧ (b = false → I (i + 1) acc))
    (hQ : ∀ v H', PostE J G0 H0 G σ env Qe v H' → Q' v H') :
    tLc (WI X tg iter) g (fun σ H Q => ∀ s H0 C cl fp, WTs (BX X scope s H0 C cl fp) ifs σ H Q) (fun σ H Q => ∀ s H0 C cl fp, WE (BX X scope s H0 C cl fp) elt σ H Q) vs σ H Q' := by
  refine (fun pins s I0 => thn (h J G0 H0 G H σ S pins s I0) fun v s1 h1 => thn h1 fun u s2 ⟨it, fp, tn, It, H1, e1, e2, e3, e4, e5, G1, t1, ds, sG, S1, ok, hlen, I, i0, done, step⟩ => ⟨it, fp, tn, It, H1, e1, e2, e3, e4, e5, ?_⟩ : WI X tg iter σ H _)
  intro Dl nD
  have jD : J ≠ some Dl := fun e => by
    obtain ⟨o, ho⟩ := S1.jar.jh e
    rw [nD] at ho; cases ho
  have zD : H0 Dl = none := by
    cases q : H0 Dl with
    | none => rfl
    | some o =>
      have := S1.gr.exH Dl o q jD
      rw [nD] at this; cases this
  have oD : ∀ (k : Nat) c, env[k]? = some (Sl.own c) → σ[k]? ≠ some (some (.ref Dl)) := fun k c e z => by
    obtain ⟨p', o, h1, h2, _⟩ := S1.own k c e
    rw [z] at h1
    have e5 : Dl = p' := by
      have := Option.some.inj (Option.some.inj h1)
      injection this
    subst e5
    rw [nD] at h2; cases h2
  let Wd : Nat → Hp → Prop := fun i H2 => ∃ G2 acc xs, Same G1 G2 ∧ Stt J G0 H0 G2 H2 t1 σ env ∧ H2 Dl = some (.lst xs) ∧ RepL J G2 acc xs ∧ G2 Dl = none ∧ I i acc ∧ acc.length ≤ i
  refine ⟨fun i m H2 => m = ds.length - i ∧ i ≤ ds.length ∧ Wd i H2, ⟨_, rfl, Nat.zero_le _, G1, [], [], Same.refl _, S1.loose nD, upd_same, rfl, S1.sub.free nD, i0, Nat.le_refl _⟩, ?_⟩
  rintro i m H2 ⟨rfl, hi, G2, acc, xs, s2, S2, hD, rA, gD, iA, hA⟩
  by_cases hlt : i < ds.length
  · have hd : ds[i]? = some ds[i] := by simp [hlt]
    obtain ⟨go, yl⟩ := (ok G2 H2 s2 S2.sub).1 i _ hd
    refine .inr ⟨go, Wd (i + 1), fun H' n => ⟨ds.length - (i + 1), by omega, rfl, hlt, n⟩, fun x H3 y => ?_⟩
    obtain ⟨e3, r3⟩ := yl x H3 y
    subst e3
    obtain ⟨env1, hg, hb⟩ := step i _ acc hd iA
    have SB := stt_wipe (vs := vs) S2.block
    refine hg J G2 H3 G2 H3 (wipe σ vs) x _ SB r3 fun σ2 S4 hw => ⟨by rw [hw, wipe_wipe fun u hu => hu], fun s0 H00 C cl fp0 => ?_⟩
    refine (hb s0 H00 C cl fp0 J G2 H3 G2 H3 σ2 S4).mono fun b H5 ⟨G5, t5, s5, S5, et, q5⟩ => ?_
    subst et
    have O5 := S2.gr' S5.gr S5.sub S5.jar
    have D5 : H5 Dl = some (.lst xs) := S5.gr.exH Dl _ hD jD
    have g5 : G5 Dl = none := S5.gr.nof Dl _ hD gD
    cases b with
    | false =>
      rw [if_neg Bool.false_ne_true]
      exact ⟨G5, acc, xs, s2.trans s5, O5, D5, rA.mono s5, g5, q5.2 rfl, Nat.le_succ_of_le hA⟩
    | true =>
      rw [if_pos rfl]
      intro s6 H06 C6 cl6 fp6
      refine (q5.1 rfl s6 H06 C6 cl6 fp6 J G2 H3 G5 H5 σ2 S5).mono fun w H6 ⟨G6, t6, yd, s6, S6, r6, et6, q6⟩ => ?_
      subst et6
      have O6 := S2.gr' S6.gr S6.sub S6.jar
      have D6 : H6 Dl = some (.lst xs) := S6.gr.exH Dl _ hD jD
      have g6 : G6 Dl = none := S6.gr.nof Dl _ hD gD
      refine ⟨xs, D6, ?_, G6, acc ++ [yd], xs ++ [w], (s2.trans s5).trans s6, O6.wr g6 zD jD oD, upd_same, (rA.mono (s5.trans s6)).append (.one r6), g6, q6, ?_⟩
      · rw [rA.length]
        exact Nat.lt_of_le_of_lt (Nat.le_trans hA (Nat.le_trans hi hlen)) (by decide)
      · rw [List.length_append]
        exact Nat.succ_le_succ hA
  · have e : i = ds.length := by omega
    subst e
    refine .inl ⟨(ok G2 H2 s2 S2.sub).2, hQ _ _ ?_⟩
    exact ⟨upd G2 Dl (.lst xs), t1, .lst acc, (sG.trans s2).trans (same_new gD), S2.hold hD gD zD jD oD, ⟨Dl, xs, rfl, upd_same, rA.mono (same_new gD)⟩, done acc iA⟩
/-- what the target's names get -/
theorem tgt1 {j : Nat} {d : D} {env0 : List Sl} {J : Option Addr} {G0 H0 G H : Hp} {σ : L2.St} {v : V} {Qk : L2.St → Hp → Prop} (S : Stt J G0 H0 G H t σ env0) (r : Rep J G d v) (k : ∀ σ2, Stt J G0 H0 G H t σ2 (env0.set j (.d d)) → wipe σ2 [j] = wipe σ [j] → Qk σ2 H) : gName j v σ H Qk :=
  k _ (S.put r j) (wipe_set (List.mem_singleton.mpr rfl))
theorem tgt3 {i j l : Nat} {d1 d2 d3 : D} {env0 : List Sl} {K : PySem.W.Frag} {J : Option Addr} {G0 H0 G H : Hp} {σ : L2.St} {v : V} {Qk : L2.St → Hp → Prop} (S : Stt J G0 H0 G H t σ env0) (r : Rep J G (.tup [d1, d2, d3]) v) (k : ∀ σ2, Stt J G0 H0 G H t σ2 (((env0.set i (.d d1)).set j (.d d2)).set l (.d d3)) → wipe σ2 [i, j, l] = wipe σ [i, j, l] → Qk σ2 H) :
    gTup K 3 (gCons (gName i) (gCons (gName j) (gCons (gName l) gNil))) v σ H Qk := by
  obtain ⟨a, xs, e1, h1, v1, u1, e2, r1, v2, u2, e3, r2, v3, u3, e4, r3, e5⟩ := r
  have e5 : u3 = [] := e5
  subst e5 e4 e3 e2
  refine ⟨a, _, e1, SqT.of (S.sub _ _ h1), rfl, v1, _, rfl, v2, _, rfl, v3, _, rfl, rfl, ?_⟩
  refine k _ (((S.put r1 i).put r2 j).put r3 l) ?_
  rw [wipe_set (j := l) (by simp), wipe_set (j := j) (by simp), wipe_set (j := i) (by simp)]
/-- [elt for x in iter if ..], as a value -/
theorem xe_lc1 {scope : Scope} (j : Nat) {Qe : Nat → D → Prop} (hc : X.calm = true) (hN : X.N.Nodup) (h : XI X (.Name x px) iter t env fun t1 ds => ds.length ≤ 100000 ∧ ∃ I : Nat → List D → Prop, I 0 [] ∧ (∀ acc, I ds.length acc → Qe t1 (.lst acc)) ∧
      ∀ i d acc, ds[i]? = some d → I i acc → Blk X scope fun B => XTs B ifs t1 ((blkEnv env [j]).set j (.d d)) fun t2 b => t2 = t1 ∧ (b = true → Blk X scope fun B2 => XE B2 elt t1 ((blkEnv env [j]).set j (.d d)) fun t3 y => t3 = t1 ∧ I (i + 1) (acc ++ [y])) ∧ (b = false → I (i + 1) acc))
    (hb : blkC X.N X.env.scope scope [(x, j)] = true := by decide +kernel) (hg : ∀ (s : Shared) (H : Hp) (C : Addr) (cl : List (Str × Addr)) (fp : List Addr), PG (X.blk s H scope (compEnvC scope cl C X.env) fp) (.Name x px) (gName j))
    (hs : ∀ x, foldedSetIterable iter X.env x = pure x := by intro _; rfl) : XE X (.ListComp elt [⟨.Name x px, iter, ifs, 0⟩] scope pos) t env Qe := fun J G0 H0 G H σ S => by
  refine WE.of (pe_lc (own := [(x, j)]) hc hN pi_w (blkOk_by hb) hg (tt := fun σ H Q => ∀ s H0 C cl fp, WTs (BX X scope s H0 C cl fp) ifs σ H Q) (te := fun σ H Q => ∀ s H0 C cl fp, WE (BX X scope s H0 C cl fp) elt σ H Q)
    (fun s H C cl fp => ⟨fun pins s' σ' H' Q I q => pts_w.run pins s' σ' H' Q I (q s H C cl fp)⟩) (fun s H C cl fp => ⟨fun pins s' σ' H' Q I q => pe_w.run pins s' σ' H' Q I (q s H C cl fp)⟩) hs) ?_
  refine lc_ok (Qe := Qe) S (fun J' G0' H0' G' H' σ' S' => (fun pins s I0 => thn (h J' G0' H0' G' H' σ' S' pins s I0) fun v s1 h1 => thn h1 fun u s2 ⟨it, fp, tn, It, H1, e1, e2, e3, e4, e5, G1, t1, ds, sG, S1, ok, hl, I, i0, dn, st⟩ =>
    ⟨it, fp, tn, It, H1, e1, e2, e3, e4, e5, G1, t1, ds, sG, S1, ok, hl, I, i0, dn, fun i d acc hd iA => ⟨_, fun J G0 H0 G H σ v Qk S r k => tgt1 S r k, st i d acc hd iA⟩⟩)) fun v H' q => q
theorem xe_lc3 {scope : Scope} {x1 x2 x3 : Str} {p1 p2 p3 pt : Pos} {kt : Nat} (j1 j2 j3 : Nat) {Qe : Nat → D → Prop} (hc : X.calm = true) (hN : X.N.Nodup) (h : XI X (.Tuple [.Name x1 p1, .Name x2 p2, .Name x3 p3] kt pt) iter t env fun t1 ds => ds.length ≤ 100000 ∧ ∃ I : Nat → List D → Prop, I 0 [] ∧ (∀ acc, I ds.length acc → Qe t1 (.lst acc)) ∧
      ∀ i d acc, ds[i]? = some d → I i acc → ∃ d1 d2 d3, d = .tup [d1, d2, d3] ∧ Blk X scope fun B => XTs B ifs t1 ((((blkEnv env [j1, j2, j3]).set j1 (.d d1)).set j2 (.d d2)).set j3 (.d d3)) fun t2 b => t2 = t1 ∧
        (b = true → Blk X scope fun B2 => XE B2 elt t1 ((((blkEnv env [j1, j2, j3]).set j1 (.d d1)).set j2 (.d d2)).set j3 (.d d3)) fun t3 y => t3 = t1 ∧ I (i + 1) (acc ++ [y])) ∧ (b = false → I (i + 1) acc))
    (hb : blkC X.N X.env.scope scope [(x1, j1), (x2, j2), (x3, j3)] = true := by decide +kernel) (hg : ∀ (s : Shared) (H : Hp) (C : Addr) (cl : List (Str × Addr)) (fp : List Addr), PG (X.blk s H scope (compEnvC scope cl C X.env) fp) (.Tuple [.Name x1 p1, .Name x2 p2, .Name x3 p3] kt pt) (gTup X.K 3 (gCons (gName j1) (gCons (gName j2) (gCons (gName j3) gNil)))))
    (hs : ∀ x, foldedSetIterable iter X.env x = pure x := by intro _; rfl) : XE X (.ListComp elt [⟨.Tuple [.Name x1 p1, .Name x2 p2, .Name x3 p3] kt pt, iter, ifs, 0⟩] scope pos) t env Qe := fun J G0 H0 G H σ S => by
  refine WE.of (pe_lc (own := [(x1, j1), (x2, j2), (x3, j3)]) hc hN pi_w (blkOk_by hb) hg (tt := fun σ H Q => ∀ s H0 C cl fp, WTs (BX X scope s H0 C cl fp) ifs σ H Q) (te := fun σ H Q => ∀ s H0 C cl fp, WE (BX X scope s H0 C cl fp) elt σ H Q)
    (fun s H C cl fp => ⟨fun pins s' σ' H' Q I q => pts_w.run pins s' σ' H' Q I (q s H C cl fp)⟩) (fun s H C cl fp => ⟨fun pins s' σ' H' Q I q => pe_w.run pins s' σ' H' Q I (q s H C cl fp)⟩) hs) ?_
  refine lc_ok (Qe := Qe) S (fun J' G0' H0' G' H' σ' S' => (fun pins s I0 => thn (h J' G0' H0' G' H' σ' S' pins s I0) fun v s1 h1 => thn h1 fun u s2 ⟨it, fp, tn, It, H1, e1, e2, e3, e4, e5, G1, t1, ds, sG, S1, ok, hl, I, i0, dn, st⟩ =>
    ⟨it, fp, tn, It, H1, e1, e2, e3, e4, e5, G1, t1, ds, sG, S1, ok, hl, I, i0, dn, fun i d acc hd iA => by
      obtain ⟨d1, d2, d3, ed, st'⟩ := st i d acc hd iA
      subst ed
      exact ⟨_, fun J G0 H0 G H σ v Qk S r k => tgt3 S r k, st'⟩⟩)) fun v H' q => q
/-- name = [elt for x in iter if ..] on one line, the name a local -/
theorem xs_setLc1 {scope : Scope} (i j : Nat) (hc : X.calm = true) (hN : X.N.Nodup) (h : XI X (.Name x px) iter t env fun t1 ds => ds.length ≤ 100000 ∧ ∃ I : Nat → List D → Prop, I 0 [] ∧ (∀ acc, I ds.length acc → Q t1 (env.set i (.d (.lst acc)))) ∧
      ∀ i d acc, ds[i]? = some d → I i acc → Blk X scope fun B => XTs B ifs t1 ((blkEnv env [j]).set j (.d d)) fun t2 b => t2 = t1 ∧ (b = true → Blk X scope fun B2 => XE B2 elt t1 ((blkEnv env [j]).set j (.d d)) fun t3 y => t3 = t1 ∧ I (i + 1) (acc ++ [y])) ∧ (b = false → I (i + 1) acc))
    {py : Pos} (hy : X.N[i]? = some y := by rfl) (hyl : X.env.scope.names.lookup y = some .local := by rfl) (hkd : X.env.scope.kind = .function := by rfl) (hln : (py.line == pos.line) = true := by rfl)
    (hay : (scope.names.any fun (n, k) => n == y && (k == .local || k == .cell)) = false := by decide +kernel)
    (hb : blkC X.N X.env.scope scope [(x, j)] = true := by decide +kernel) (hg : ∀ (s : Shared) (H : Hp) (C : Addr) (cl : List (Str × Addr)) (fp : List Addr), PG (X.blk s H scope (compEnvC scope cl C X.env) fp) (.Name x px) (gName j))
    (hs : ∀ x, foldedSetIterable iter X.env x = pure x := by intro _; rfl) : XS X (.Assign [.Name y py] (.ListComp elt [⟨.Name x px, iter, ifs, 0⟩] scope pos) p) t env Q R := fun J G0 H0 G H σ S => by
  refine WS.of (ps_setLc (i := i) (own := [(x, j)]) hc hN hy hyl (sw_true hkd hyl hln hay) pi_w (blkOk_by hb) hg (tt := fun σ H Q => ∀ s H0 C cl fp, WTs (BX X scope s H0 C cl fp) ifs σ H Q) (te := fun σ H Q => ∀ s H0 C cl fp, WE (BX X scope s H0 C cl fp) elt σ H Q)
    (fun s H C cl fp => ⟨fun pins s' σ' H' Q I q => pts_w.run pins s' σ' H' Q I (q s H C cl fp)⟩) (fun s H C cl fp => ⟨fun pins s' σ' H' Q I q => pe_w.run pins s' σ' H' Q I (q s H C cl fp)⟩) hs) ?_
  refine lc_ok (Qe := fun t1 d => Q t1 (env.set i (.d d))) S (fun J' G0' H0' G' H' σ' S' => (fun pins s I0 => thn (h J' G0' H0' G' H' σ' S' pins s I0) fun v s1 h1 => thn h1 fun u s2 ⟨it, fp, tn, It, H1, e1, e2, e3, e4, e5, G1, t1, ds, sG, S1, ok, hl, I, i0, dn, st⟩ =>
    ⟨it, fp, tn, It, H1, e1, e2, e3, e4, e5, G1, t1, ds, sG, S1, ok, hl, I, i0, dn, fun i d acc hd iA => ⟨_, fun J G0 H0 G H σ v Qk S r k => tgt1 S r k, st i d acc hd iA⟩⟩)) fun v H' ⟨G1, t1, d, e1, S1, r1, q1⟩ => ⟨G1, t1, _, e1, S1.put r1 i, q1⟩
theorem xs_setLc3 {scope : Scope} {x1 x2 x3 : Str} {p1 p2 p3 pt : Pos} {kt : Nat} (i j1 j2 j3 : Nat) (hc : X.calm = true) (hN : X.N.Nodup) (h : XI X (.Tuple [.Name x1 p1, .Name x2 p2, .Name x3 p3] kt pt) iter t env fun t1 ds => ds.length ≤ 100000 ∧ ∃ I : Nat → List D → Prop, I 0 [] ∧ (∀ acc, I ds.length acc → Q t1 (env.set i (.d (.lst acc)))) ∧
      ∀ i d acc, ds[i]? = some d → I i acc → ∃ d1 d2 d3, d = .tup [d1, d2, d3] ∧ Blk X scope fun B => XTs B ifs t1 ((((blkEnv env [j1, j2, j3]).set j1 (.d d1)).set j2 (.d d2)).set j3 (.d d3)) fun t2 b => t2 = t1 ∧
        (b = true → Blk X scope fun B2 => XE B2 elt t1 ((((blkEnv env [j1, j2, j3]).set j1 (.d d1)).set j2 (.d d2)).set j3 (.d d3)) fun t3 y => t3 = t1 ∧ I (i + 1) (acc ++ [y])) ∧ (b = false → I (i + 1) acc))
    {py : Pos} (hy : X.N[i]? = some y := by rfl) (hyl : X.env.scope.names.lookup y = some .local := by rfl) (hkd : X.env.scope.kind = .function := by rfl) (hln : (py.line == pos.line) = true := by rfl)
    (hay : (scope.names.any fun (n, k) => n == y && (k == .local || k == .cell)) = false := by decide +kernel)
    (hb : blkC X.N X.env.scope scope [(x1, j1), (x2, j2), (x3, j3)] = true := by decide +kernel) (hg : ∀ (s : Shared) (H : Hp) (C : Addr) (cl : List (Str × Addr)) (fp : List Addr), PG (X.blk s H scope (compEnvC scope cl C X.env) fp) (.Tuple [.Name x1 p1, .Name x2 p2, .Name x3 p3] kt pt) (gTup X.K 3 (gCons (gName j1) (gCons (gName j2) (gCons (gName j3) gNil)))))
    (hs : ∀ x, foldedSetIterable iter X.env x = pure x := by intro _; rfl) : XS X (.Assign [.Name y py] (.ListComp elt [⟨.Tuple [.Name x1 p1, .Name x2 p2, .Name x3 p3] kt pt, iter, ifs, 0⟩] scope pos) p) t env Q R := fun J G0 H0 G H σ S => by
  refine WS.of (ps_setLc (i := i) (own := [(x1, j1), (x2, j2), (x3, j3)]) hc hN hy hyl (sw_true hkd hyl hln hay) pi_w (blkOk_by hb) hg (tt := fun σ H Q => ∀ s H0 C cl fp, WTs (BX X scope s H0 C cl fp) ifs σ H Q) (te := fun σ H Q => ∀ s H0 C cl fp, WE (BX X scope s H0 C cl fp) elt σ H Q)
    (fun s H C cl fp => ⟨fun pins s' σ' H' Q I q => pts_w.run pins s' σ' H' Q I (q s H C cl fp)⟩) (fun s H C cl fp => ⟨fun pins s' σ' H' Q I q => pe_w.run pins s' σ' H' Q I (q s H C cl fp)⟩) hs) ?_
  refine lc_ok (Qe := fun t1 d => Q t1 (env.set i (.d d))) S (fun J' G0' H0' G' H' σ' S' => (fun pins s I0 => thn (h J' G0' H0' G' H' σ' S' pins s I0) fun v s1 h1 => thn h1 fun u s2 ⟨it, fp, tn, It, H1, e1, e2, e3, e4, e5, G1, t1, ds, sG, S1, ok, hl, I, i0, dn, st⟩ =>
    ⟨it, fp, tn, It, H1, e1, e2, e3, e4, e5, G1, t1, ds, sG, S1, ok, hl, I, i0, dn, fun i d acc hd iA => by
      obtain ⟨d1, d2, d3, ed, st'⟩ := st i d acc hd iA
      subst ed
      exact ⟨_, fun J G0 H0 G H σ v Qk S r k => tgt3 S r k, st'⟩⟩)) fun v H' ⟨G1, t1, d, e1, S1, r1, q1⟩ => ⟨G1, t1, _, e1, S1.put r1 i, q1⟩
end
end BS

set_option Elab.async false
set_option linter.all false
set_option maxRecDepth 100000
set_option maxHeartbeats 4000000
/-! sorted, ==, in, isinstance; the bodies of defs -/
namespace BSrt
open PySem PySem.Spec PyProof.Rows
section
variable {prog : Program} {w : World} {A : Around} {E : Value → Shared → Prop} {s : Shared}
/-- the model's own comparison of two tuples of ints, of one length -/
theorem lex_go {b : Bool} {xs ys : List Value} {ns ms : List Int} {Q : Bool → Shared → Prop} (i : Nat) (hx : IntsAre xs ns) (hy : IntsAre ys ms) (hl : ns.length = ms.length) (h : Q (HT.lexLt ns ms) s) : PySem.W.KatLex prog w A b false Q (xs.zip ys) i s := by
  induction hx generalizing ys ms i with
  | nil =>
    cases hy with
    | nil => exact PySem.W.kat_nil h
    | cons q u hy => exact absurd hl (by simp)
  | @cons p t xs ns hx ih =>
    cases hy with
    | nil => exact absurd hl (by simp)
    | @cons q u ys ms hy =>
      have hl2 : ns.length = ms.length := by simpa using hl
      rw [HT.lexLt_cons] at h
      refine PySem.W.kat_cons (wpAny_eqBool_int ?_)
      by_cases e : p = q
      · rw [if_pos e] at h
        rw [beq_iff_eq.mpr e]
        exact PySem.W.kat_yes (ih (i + 1) hy hl2 h)
      · rw [if_neg e] at h
        rw [beq_eq_false_iff_ne.mpr e]
        exact PySem.W.kat_no (TS.oneLt_ints _ h)
/-- tuples of n ints -/
def Tps (h : Heap) (n : Nat) (vs : List Value) : Prop := ∀ v ∈ vs, ∃ ns, TS.TupInts h v ns ∧ ns.length = n
theorem heads {h : Heap} {n : Nat} (hn : 1 ≤ n) : ∀ vs : List Value, Tps h n vs → ∃ fs, PySem.W.KatTups h vs fs ∧ fs.length = vs.length ∧ ∀ f ∈ fs, ∃ x t, f = Value.int x t
  | [], _ => ⟨[], PySem.W.KatTups.nil, rfl, fun f hf => nomatch hf⟩
  | v :: vs, hp => by
    obtain ⟨fs, k, hl, hi⟩ := heads hn vs fun u hu => hp u (List.mem_cons_of_mem _ hu)
    obtain ⟨ns, ⟨a, xs, ev, ⟨o, ho, hc, m, hd⟩, ia⟩, len⟩ := hp v List.mem_cons_self
    subst ev
    have sz := ia.length
    cases q : xs.toList with
    | nil =>
      rw [q] at sz
      simp at sz
      omega
    | cons y ys =>
      obtain ⟨x, t, hy⟩ := ia.all y (by rw [q]; exact List.mem_cons_self)
      refine ⟨y :: fs, PySem.W.KatTups.cons ho hc hd ?_ k, by rw [List.length_cons, List.length_cons, hl], fun f hf => ?_⟩
      · have z : xs.toList[0]? = some y := by rw [q]; rfl
        simpa using z
      · rcases List.mem_cons.mp hf with rfl | hf
        · exact ⟨x, t, hy⟩
        · exact hi f hf
theorem tot {n : Nat} {vs : List Value} (hp : Tps s.heap n vs) (b : Bool) : Srt.Tot prog w A s (tuples' b) (fun p => p.1 ∈ vs) := by
  intro p q h1 h2
  obtain ⟨ns, ⟨a, xs, ep, ⟨o, ho, hc, m, hd⟩, ia⟩, l1⟩ := hp _ h1
  obtain ⟨ms, ⟨a', xs', eq', ⟨o', ho', hc', m', hd'⟩, ia'⟩, l2⟩ := hp _ h2
  rw [ep, eq']
  refine ⟨HT.lexLt ns ms, PySem.W.kat_lt ho hd ho' hd' ?_⟩
  have sz : decide (xs.size < xs'.size) = false := by
    have z1 := ia.length
    have z2 := ia'.length
    rw [Array.length_toList] at z1 z2
    exact decide_eq_false (by omega)
  rw [sz]
  exact lex_go 0 ia ia' (by omega) ⟨rfl, rfl⟩
theorem sortable {n : Nat} {a : Addr} {vs : List Value} (hn : 1 ≤ n) (h0 : 0 < vs.length) (hp : Tps s.heap n vs) (ha : ∀ o, s.heap.get? a = some o → o.cls ≠ .type "tuple") : Srt.Sortable prog w A s a vs := fun h' keep => by
  have hp' : Tps h' n vs := fun v hv => by
    obtain ⟨ns, ti, l⟩ := hp v hv
    exact ⟨ns, ti.keeps fun b o e c => keep b o (fun z => ha o (by rw [← z]; exact e) c) e, l⟩
  obtain ⟨fs, k, hl, hi⟩ := heads hn vs hp'
  refine ⟨tuples' (Value.type "int" != Value.type "tuple"), fun Q E hq => PySem.W.kat_kind (T := .type "int") k (by omega) (fun f hf => ?_) rfl hq, tot hp' _⟩
  obtain ⟨x, t, rfl⟩ := hi f hf
  exact PySem.W.Looks.now
end
end BSrt
namespace BS
open PySem PySem.Spec PyProof.Rows L2
section
variable {X : Cx}
/-- sorted(xs), xs a list of tuples of n ints: a new list of the same in some order -/
def rSortN (K : PySem.W.Frag) (n : Nat) : List V → Hp → VK → Prop := fun vs H Q => ∃ (a : Addr) (xs : List V), vs = [V.ref a] ∧ SqL K H a xs ∧ (∀ x ∈ xs, ∃ (t : Addr) (ns : List Int), x = V.ref t ∧ H t = some (.tup (ns.map V.int)) ∧ ns.length = n) ∧ ∀ ys p, ys.Perm xs → H p = none → Q (.ref p) (upd H p (.lst ys))
theorem cr_sortN {n : Nat} (hn : 1 ≤ n) : CallR X (.builtin "sorted") (rSortN X.K n) := by
  intro pins s σ H vs us Q I r h
  obtain ⟨a, xs, rfl, hs, hx, q⟩ := h
  obtain ⟨its, rv, hl, hz⟩ := I.list hs
  obtain ⟨u, rfl, ru⟩ := vals1 r
  obtain rfl : u = Value.ref a := ru
  obtain ⟨e1, e2⟩ := refs_back rv fun x m => by
    obtain ⟨t, _, e, _⟩ := hx x m
    exact ⟨t, e⟩
  have hT : BSrt.Tps s.heap n its := fun v hv => by
    obtain ⟨t, rfl⟩ := e2 v hv
    obtain ⟨t', ns, e, ht, hl⟩ := hx (V.ref t) (by rw [e1]; exact List.mem_map.mpr ⟨_, hv, rfl⟩)
    injection e with e
    subst e
    obtain ⟨us, r2, ht2, _⟩ := I.tuple (SqT.of (K := X.K) ht)
    exact ⟨ns, ⟨t, us.toArray, rfl, ht2, by simpa using r2.ints⟩, hl⟩
  refine Srt.sorted_any hl.isList (by rw [← rv.length]; exact hz) (fun h2 h1 b hb kp => ?_) fun out hp => ?_
  · refine BSrt.sortable (s := { s with heap := h1 }) hn (by omega) (fun v hv => ?_) fun o e => ?_
    · obtain ⟨ns, ti, l⟩ := hT v hv
      exact ⟨ns, ti.keeps fun b o e _ => (kp b o e).2, l⟩
    · have e3 : some o = some _ := e.symm.trans hb
      injection e3 with e3
      subst e3
      exact fun c => absurd (Value.type.inj c) (by decide)
  · have h3 : ∀ u ∈ out, ∃ a, u = Value.ref a := fun u hu => e2 u (hp.mem_iff.mp hu)
    obtain ⟨m, hm⟩ := sortedAll_at s.heap its out.toArray
    have hlen : (out.map backV).length ≤ sizeLine := by rw [List.length_map, hp.length_eq, ← rv.length]; exact hz
    exact ⟨.ref _, upd H (s.heap.objs.size + 1) (.lst (out.map backV)), I.laid (t' := s.toks) (fun _ _ => sortedAll_old) (Nat.le_succ _) ⟨hlen, out, m, vals_back h3, hm⟩, rfl, q _ _ (by rw [e1]; exact hp.map backV) (I.hok.fresh (Nat.le_succ _))⟩
variable {e a b : Expr} {es : List Expr} {t k : Nat} {env : List Sl} {pos p : Pos} {x : Str}
/-- a tuple of n ints -/
def TupN (n : Nat) (d : D) : Prop := ∃ ns : List Int, d = .tup (ns.map D.int) ∧ ns.length = n
theorem xe_sortN (n : Nat) {Q : Nat → D → Prop} (hn : 1 ≤ n) (hm : X.mg "sorted" = none) (h : XE X e t env fun t1 d => ∃ ds, d = .lst ds ∧ (∀ y ∈ ds, TupN n y) ∧ ∀ es, es.Perm ds → Q t1 (.lst es)) (hg : Gl X "sorted" := by rfl) (he : starEach [e] X.env = (false, eval e X.env) :: starEach [] X.env := by rfl) :
    XE X (.Call (.Name "sorted" p) [e] [] pos) t env Q :=
  xe_blt (cr_sortN hn) hm (xa_1 (h.mono fun t1 d ⟨ds, hd, hT, q⟩ J G0 H0 Gb G H σ vs s S r => by
    obtain ⟨v, rfl, r1⟩ := rep1 r
    subst hd
    obtain ⟨a, xs, rfl, h1, h2⟩ := r1
    refine ⟨a, xs, rfl, SqL.of (S.sub _ _ h1), fun x hx => ?_, fun ys p pm np => ?_⟩
    · obtain ⟨i, hi⟩ := List.mem_iff_getElem?.mp hx
      obtain ⟨d, hd, rd⟩ := h2.get' hi
      obtain ⟨ns, ed, hl⟩ := hT d (List.mem_of_getElem? hd)
      subst ed
      obtain ⟨c, zs, e1, z1, z2⟩ := rd
      exact ⟨c, ns, e1, by rw [← z2.ints]; exact S.sub _ _ z1, hl⟩
    · obtain ⟨es, pe, re⟩ := h2.perm pm
      exact alloc_e (d := .lst es) s S np ⟨p, ys, rfl, upd_same, re.mono (same_new (S.sub.free np))⟩ (q es pe)) he) (by decide +kernel) hg (he := he)

/-! ### == of data -/
mutual
def pyD : D → Option PyData
  | .non => some .none | .bl b => some (.bool b) | .int i => some (.int i) | .str x => some (.str x)
  | .tup ds => (pyDs ds).map .tuple
  | .lst ds => (pyDs ds).map .list
  | .ty _ => none | .cls _ => none | .jar => none | .ins _ _ _ => none | .fz _ _ => none
def pyDs : List D → Option (List PyData)
  | [] => some []
  | d :: ds => match pyD d, pyDs ds with
    | some x, some xs => some (x :: xs)
    | _, _ => none
end
mutual
theorem dp_of {K : PySem.W.Frag} {J : Option Addr} {G H : Hp} (s : Same G H) : ∀ {d : D} {v : V} {z : PyData}, pyD d = some z → Rep J G d v → Dp K H v z
  | .non, v, z, h, r => by cases h; rw [show v = .non from r]; exact .non
  | .bl b, v, z, h, r => by cases h; rw [show v = .bl b from r]; exact .bl b
  | .int b, v, z, h, r => by cases h; rw [show v = .int b from r]; exact .int b
  | .str b, v, z, h, r => by cases h; rw [show v = .str b from r]; exact .str b
  | .tup ds, v, z, h, r => by
    obtain ⟨a, xs, e1, h1, h2⟩ := r
    have h' : (pyDs ds).map PyData.tuple = some z := h
    cases q : pyDs ds with
    | none => rw [q] at h'; cases h'
    | some zs =>
      rw [q] at h'
      have := Option.some.inj h'
      subst this e1
      exact .tup (SqT.of (s _ _ h1)) (dps_of s q h2)
  | .lst ds, v, z, h, r => by
    obtain ⟨a, xs, e1, h1, h2⟩ := r
    have h' : (pyDs ds).map PyData.list = some z := h
    cases q : pyDs ds with
    | none => rw [q] at h'; cases h'
    | some zs =>
      rw [q] at h'
      have := Option.some.inj h'
      subst this e1
      exact .lst (SqL.of (s _ _ h1)) (dps_of s q h2)
theorem dps_of {K : PySem.W.Frag} {J : Option Addr} {G H : Hp} (s : Same G H) : ∀ {ds : List D} {vs : List V} {zs : List PyData}, pyDs ds = some zs → RepL J G ds vs → DpAll K H vs zs
  | [], vs, zs, h, r => by cases h; rw [show vs = [] from r]; exact .nil
  | d :: ds, vs, zs, h, r => by
    obtain ⟨x, u, e1, h1, h2⟩ := r
    have h' : (match pyD d, pyDs ds with
      | some x, some xs => some (x :: xs)
      | _, _ => none) = some zs := h
    cases q1 : pyD d with
    | none => rw [q1] at h'; cases h'
    | some z1 =>
      cases q2 : pyDs ds with
      | none => rw [q1, q2] at h'; cases h'
      | some z2 =>
        rw [q1, q2] at h'
        have := Option.some.inj h'
        subst this e1
        exact .cons (dp_of s q1 h1) (dps_of s q2 h2)
end
/-- two data that == tells -/
def EqD (x y : D) (k : Bool → Prop) : Prop := ∃ u v, pyD x = some u ∧ pyD y = some v ∧ SeqAt.shaped u = true ∧ SeqAt.shaped v = true ∧ k (PyData.eqv u v)
theorem xt_eqD {Q : Nat → Bool → Prop} (hu : X.A.units + 64 < cLine) (h : XE X a t env fun t1 x => XE X b t1 env fun t2 y => EqD x y fun k => Q t2 k) : XT X (.Compare a [.Eq] [b] pos) t env Q :=
  xt_cmp (op_eqD hu) (nomark _) (h.mono fun t1 x h1 => h1.mono fun t2 y ⟨u, v, e1, e2, s1, s2, q⟩ J G0 H0 Gb G H σ v' u' s S r1 r2 =>
    ⟨u, v, dp_of S.sub e1 r1, dp_of S.sub e2 r2, s1, s2, _, rfl, G, t2, s, S, q⟩)
theorem xt_neD {Q : Nat → Bool → Prop} (hu : X.A.units + 64 < cLine) (h : XE X a t env fun t1 x => XE X b t1 env fun t2 y => EqD x y fun k => Q t2 (!k)) : XT X (.Compare a [.NotEq] [b] pos) t env Q :=
  xt_cmp (op_neD hu) (nomark _) (h.mono fun t1 x h1 => h1.mono fun t2 y ⟨u, v, e1, e2, s1, s2, q⟩ J G0 H0 Gb G H σ v' u' s S r1 r2 =>
    ⟨u, v, dp_of S.sub e1 r1, dp_of S.sub e2 r2, s1, s2, _, rfl, G, t2, s, S, q⟩)
theorem xe_eqD {Q : Nat → D → Prop} (hu : X.A.units + 64 < cLine) (h : XE X a t env fun t1 x => XE X b t1 env fun t2 y => EqD x y fun k => Q t2 (.bl k)) : XE X (.Compare a [.Eq] [b] pos) t env Q :=
  xe_cmp (op_eqD hu) (nomark _) (h.mono fun t1 x h1 => h1.mono fun t2 y ⟨u, v, e1, e2, s1, s2, q⟩ J G0 H0 Gb G H σ v' u' s S r1 r2 =>
    ⟨u, v, dp_of S.sub e1 r1, dp_of S.sub e2 r2, s1, s2, fin_e (d := .bl (PyData.eqv u v)) s S rfl q⟩)
theorem pyDs_ints : ∀ ns : List Int, pyDs (ns.map D.int) = some (ns.map PyData.int)
  | [] => rfl
  | n :: ns => by
    show (match pyD (.int n), pyDs (ns.map D.int) with
      | some x, some xs => some (x :: xs)
      | _, _ => none) = _
    rw [pyDs_ints ns]
    rfl
theorem lay_ints : ∀ ns : List Int, PyData.canLayAll0 (ns.map PyData.int) = true ∧ PyData.depthAll (ns.map PyData.int) ≤ 1
  | [] => ⟨rfl, by decide⟩
  | n :: ns => by
    obtain ⟨h1, h2⟩ := lay_ints ns
    refine ⟨?_, ?_⟩
    · show (PyData.canLay0 (.int n) && PyData.canLayAll0 (ns.map PyData.int)) = true
      rw [h1]
      rfl
    · show max (PyData.depth (.int n)) (PyData.depthAll (ns.map PyData.int)) ≤ 1
      have h3 : PyData.depth (.int n) ≤ 1 := by show (_ : Nat) ≤ 1; first | decide | exact Nat.le_refl _ | exact Nat.zero_le _ | simp [PyData.depth]
      omega
theorem eqv_ints : ∀ ns ms : List Int, PyData.eqvAll (ns.map PyData.int) (ms.map PyData.int) = decide (ns = ms)
  | [], [] => rfl
  | [], _ :: _ => by simp [PyData.eqvAll]
  | _ :: _, [] => by simp [PyData.eqvAll]
  | n :: ns, m :: ms => by
    show (PyData.eqv (.int n) (.int m) && PyData.eqvAll (ns.map PyData.int) (ms.map PyData.int)) = _
    rw [eqv_ints ns ms]
    show ((n == m) && decide (ns = ms)) = decide (n :: ns = m :: ms)
    by_cases h1 : n = m
    · subst h1
      simp
    · simp [h1]
theorem shaped_lst (ns : List Int) : SeqAt.shaped (.list (ns.map PyData.int)) = true := by
  obtain ⟨h1, h2⟩ := lay_ints ns
  show (PyData.canLayAll0 (ns.map PyData.int) && decide (PyData.depthAll (ns.map PyData.int) + 1 ≤ 64)) = true
  rw [h1, decide_eq_true (by omega)]
  rfl
theorem shaped_tup (ns : List Int) : SeqAt.shaped (.tuple (ns.map PyData.int)) = true := by
  obtain ⟨h1, h2⟩ := lay_ints ns
  show (PyData.canLayAll0 (ns.map PyData.int) && decide (PyData.depthAll (ns.map PyData.int) + 1 ≤ 64)) = true
  rw [h1, decide_eq_true (by omega)]
  rfl
/-- tuples of ints; lists of ints -/
theorem EqD.tups {ns ms : List Int} {k : Bool → Prop} (q : k (decide (ns = ms))) : EqD (.tup (ns.map D.int)) (.tup (ms.map D.int)) k := by
  refine ⟨_, _, ?_, ?_, shaped_tup ns, shaped_tup ms, ?_⟩
  · show (pyDs (ns.map D.int)).map PyData.tuple = _
    rw [pyDs_ints]
    rfl
  · show (pyDs (ms.map D.int)).map PyData.tuple = _
    rw [pyDs_ints]
    rfl
  · show k (PyData.eqvAll (ns.map PyData.int) (ms.map PyData.int))
    rw [eqv_ints]
    exact q
theorem EqD.lsts {ns ms : List Int} {k : Bool → Prop} (q : k (decide (ns = ms))) : EqD (.lst (ns.map D.int)) (.lst (ms.map D.int)) k := by
  refine ⟨_, _, ?_, ?_, shaped_lst ns, shaped_lst ms, ?_⟩
  · show (pyDs (ns.map D.int)).map PyData.list = _
    rw [pyDs_ints]
    rfl
  · show (pyDs (ms.map D.int)).map PyData.list = _
    rw [pyDs_ints]
    rfl
  · show k (PyData.eqvAll (ns.map PyData.int) (ms.map PyData.int))
    rw [eqv_ints]
    exact q
/-- a list of pairs of ints against the empty one -/
theorem pyDs_tups : ∀ nss : List (List Int), pyDs (nss.map fun ns => D.tup (ns.map D.int)) = some (nss.map fun ns => PyData.tuple (ns.map PyData.int)) ∧ PyData.canLayAll0 (nss.map fun ns => PyData.tuple (ns.map PyData.int)) = true ∧ PyData.depthAll (nss.map fun ns => PyData.tuple (ns.map PyData.int)) ≤ 2
  | [] => ⟨rfl, rfl, by decide⟩
  | ns :: nss => by
    obtain ⟨h1, h2, h3⟩ := pyDs_tups nss
    obtain ⟨h4, h5⟩ := lay_ints ns
    refine ⟨?_, ?_, ?_⟩
    · show (match (pyDs (ns.map D.int)).map PyData.tuple, pyDs (nss.map fun ns => D.tup (ns.map D.int)) with
        | some x, some xs => some (x :: xs)
        | _, _ => none) = _
      rw [h1, pyDs_ints]
      rfl
    · show (PyData.canLayAll0 (ns.map PyData.int) && PyData.canLayAll0 (nss.map fun ns => PyData.tuple (ns.map PyData.int))) = true
      rw [h2, h4]
      rfl
    · show max (PyData.depthAll (ns.map PyData.int) + 1) (PyData.depthAll (nss.map fun ns => PyData.tuple (ns.map PyData.int))) ≤ 2
      omega
theorem EqD.tupsNil {nss : List (List Int)} {k : Bool → Prop} (q : k nss.isEmpty) : EqD (.lst (nss.map fun ns => D.tup (ns.map D.int))) (.lst []) k := by
  obtain ⟨h1, h2, h3⟩ := pyDs_tups nss
  refine ⟨.list (nss.map fun ns => PyData.tuple (ns.map PyData.int)), .list [], ?_, rfl, ?_, by decide, ?_⟩
  · show (pyDs _).map PyData.list = _
    rw [h1]
    rfl
  · show (PyData.canLayAll0 _ && decide (PyData.depthAll _ + 1 ≤ 64)) = true
    rw [h2, decide_eq_true (by omega)]
    rfl
  · cases nss with
    | nil => exact q
    | cons a r => exact q
/-- x in (a, b) -/
theorem xt_in {Q : Nat → Bool → Prop} (hm : behindInMarks .In b = false) (h : XE X a t env fun t1 x => XE X b t1 env fun t2 y => ∃ (i : Int) (ns : List Int), x = .int i ∧ y = .tup (ns.map D.int) ∧ Q t2 (inV (.int i) (ns.map V.int))) : XT X (.Compare a [.In] [b] pos) t env Q :=
  xt_cmp op_in_seq hm (h.mono fun t1 x h1 => h1.mono fun t2 y ⟨i, ns, e1, e2, q⟩ J G0 H0 Gb G H σ v' u' s S r1 r2 => by
    subst e1 e2
    obtain ⟨c, xs, rfl, z1, z2⟩ := r2
    obtain rfl : v' = .int i := r1
    refine ⟨c, ns.map V.int, rfl, .inr (SqT.of (S.sub _ _ (by rw [z1, z2.ints]))), rfl, ?_, _, rfl, G, t2, s, S, q⟩
    rw [List.all_eq_true]
    intro v hv
    obtain ⟨n, _, rfl⟩ := List.mem_map.mp hv
    rfl)

/-! ### the bodies -/
def startE (N : List Str) (ds : List D) : List Sl := ds.map Sl.d ++ List.replicate (N.length - ds.length) Sl.any
theorem start_stt {J : Option Addr} {G H : Hp} {t : Nat} {N : List Str} {vs : List V} {ds : List D} (s : Same G H) (jar : JarB J G H t) (r : RepL J G ds vs) (hl : ds.length ≤ N.length) : Stt J G H G H t (L2.start N vs) (startE N ds) := by
  have el := r.length
  have cs : ∀ {i : Nat} {s : Sl}, (startE N ds)[i]? = some s → (∃ d, ds[i]? = some d ∧ s = .d d) ∨ s = .any := fun {i s} h => by
    unfold startE at h
    by_cases hi : i < ds.length
    · rw [List.getElem?_append_left (by rw [List.length_map]; exact hi), List.getElem?_map] at h
      cases q : ds[i]? with
      | none => rw [q] at h; cases h
      | some d => rw [q] at h; exact .inl ⟨d, rfl, (Option.some.inj h).symm⟩
    · rw [List.getElem?_append_right (by rw [List.length_map]; omega), List.getElem?_replicate] at h
      split at h
      · exact .inr (Option.some.inj h).symm
      · cases h
  refine ⟨Gr.refl _ _ _, s, jar, ?_, fun i d e => ?_, fun i c e => ?_, fun i k c c' p e => ?_⟩
  · unfold L2.start startE
    rw [List.length_append, List.length_append, List.length_map, List.length_map, List.length_replicate, List.length_replicate, el]
  · rcases cs e with ⟨d', h1, h2⟩ | h2
    · injection h2 with h2
      subst h2
      obtain ⟨v, z1, z2⟩ := r.get h1
      refine ⟨v, ?_, z2⟩
      have hi : i < vs.length := (List.getElem?_eq_some_iff.mp z1).1
      unfold L2.start
      rw [List.getElem?_append_left (by rw [List.length_map]; exact hi), List.getElem?_map, z1]
      rfl
    · cases h2
  · rcases cs e with ⟨d', h1, h2⟩ | h2 <;> cases h2
  · rcases cs e with ⟨d', h1, h2⟩ | h2 <;> cases h2
section
variable {P : Program} {w : World} {K : PySem.W.Frag} {mg : Str → Option Value} {base : Heap} {qual : Str} {st : Stmt} {dvs : List V} {f : Addr} {fd : FuncData} {N ps : List Str}
/-- the context of the body of the def st -/
abbrev CxB (P : Program) (w : World) (K : PySem.W.Frag) (mg : Str → Option Value) (base : Heap) (N : List Str) (qual : Str) (st : Stmt) (f : Addr) (cdv : Value) (A : Around) (outer : List Env) (s : Shared) (H : Hp) (E : XK) : Cx :=
  (cxOf CX0 P w K mg base N qual (defScope st) f cdv A outer s H E).nox
theorem mk_fn {S : List D → Nat → (Nat → D → Prop) → Prop} (F : FunD K x qual (defArgs st) (defBody st) (defScope st) dvs [] f fd) (Sc : FnScope N ps (defScope st)) (hl : ∀ ds t Q, S ds t Q → ds.length = ps.length)
    (hb : ∀ (cdv : Value) (A : Around) (outer : List Env) (s : Shared) (H : Hp) (E : XK), Room k (CxB P w K mg base N qual st f cdv A outer s H E).A → ∀ (ds : List D) (t : Nat) (Q' : Nat → D → Prop), S ds t Q' →
      XSs (CxB P w K mg base N qual st f cdv A outer s H E) (defBody st) t (startE N ds) (fun t' _ => Q' t' .non) (fun t' _ d => Q' t' d)) : FnOk P w K mg base CX0 (k + 1) f fd ps (spD S) := by
  refine F.ok Sc (fun vs H Q E h => ?_) (fun cdv A outer s H vs Q E hr h => ?_)
  · obtain ⟨J, G, t, ds, Q', h1, h2, h3, h4, _⟩ := h
    rw [h3.length, hl _ _ _ h4]
  · obtain ⟨J, G, t, ds, Q', h1, h2, h3, h4, q⟩ := h
    have hN : ds.length ≤ N.length := by
      have e := congrArg List.length Sc.pre
      rw [List.length_take] at e
      rw [hl _ _ _ h4]
      omega
    refine ⟨WSs (CxB P w K mg base N qual st f cdv A outer s H E) (defBody st), PSs.nox pss_w, ?_⟩
    refine (hb cdv A outer s H E hr ds t Q' h4 J G H G H _ (start_stt h1 h2 h3 hN)).mono (fun σ' H' ⟨G', t', env', _, S', q'⟩ => ?_) (fun v H' ⟨G', t', σ', env', d, S', r', q'⟩ => ?_) (fun _ _ z => z) fun _ _ z => z
    · exact q t' .non q' .non G' H' S'.gr S'.sub S'.jar rfl
    · exact q t' d q' v G' H' S'.gr S'.sub S'.jar r'
theorem mk_init {C : Addr} {S : List D → Nat → (Nat → List Str → List D → Prop) → Prop} (F : FunD K x qual (defArgs st) (defBody st) (defScope st) dvs [] f fd) (Sc : FnScope N ps (defScope st)) (hl : ∀ ds t Q, S ds t Q → ds.length + 1 = ps.length)
    (hb : ∀ (cdv : Value) (A : Around) (outer : List Env) (s : Shared) (H : Hp) (E : XK), Room k (CxB P w K mg base N qual st f cdv A outer s H E).A → ∀ (x : Addr) (ds : List D) (t : Nat) (Q' : Nat → List Str → List D → Prop), S ds t Q' →
      XSs (CxB P w K mg base N qual st f cdv A outer s H E) (defBody st) t (.own (.obj x C [] []) :: (startE N (.non :: ds)).drop 1) (fun t' env' => ∃ ks fs, env'[0]? = some (.own (.obj x C ks fs)) ∧ Q' t' ks fs) (fun t' env' d => d = .non ∧ ∃ ks fs, env'[0]? = some (.own (.obj x C ks fs)) ∧ Q' t' ks fs)) :
    FnOk P w K mg base CX0 (k + 1) f fd ps (spI C S) := by
  refine F.ok Sc (fun vs H Q E h => ?_) (fun cdv A outer s H vs Q E hr h => ?_)
  · obtain ⟨x, dx, us, J, G, t, ds, Q', h1, h2, h3, h4, h5, h6, h7, h8, _⟩ := h
    rw [h1, List.length_cons, h7.length, hl _ _ _ h8]
  · obtain ⟨x, dx, us, J, G, t, ds, Q', h1, h2, h3, h4, h5, h6, h7, h8, q⟩ := h
    subst h1
    have hN : (D.non :: ds).length ≤ N.length := by
      have e := congrArg List.length Sc.pre
      rw [List.length_take] at e
      rw [List.length_cons, hl _ _ _ h8]
      omega
    -- as if the first value were None: then the instance
    have S0 : Stt J G H G H t (L2.start N (.non :: us)) (startE N (.non :: ds)) := start_stt h5 h6 (show RepL J G (.non :: ds) (.non :: us) from ⟨.non, us, rfl, rfl, h7⟩) hN
    have S1 : Stt J G (fun a => if a = x then none else H a) G H t (L2.start N (.non :: us)) (startE N (.non :: ds)) := by
      refine ⟨⟨Same.refl _, fun a o e _ => ?_, fun a o _ n => n⟩, S0.sub, S0.jar, S0.len, S0.val, fun i c e => ?_, S0.dist⟩
      · have e' : (if a = x then none else H a) = some o := e
        by_cases ha : a = x
        · rw [if_pos ha] at e'; cases e'
        · rw [if_neg ha] at e'; exact e'
      · obtain ⟨p, o, z1, z2, z3, z4, z5, z6⟩ := S0.own i c e
        rw [z5] at z2; cases z2
    have S2 := S1.putOwn (c := .obj x C [] []) (p := x) 0 h2 ⟨rfl, dx, [], rfl, rfl, rfl, by show 0 < 900; decide⟩ h3 (if_pos rfl) h4 fun k c hk e => by
      obtain ⟨p, o, z1, z2, z3, z4, z5, z6⟩ := S0.own k c e
      rw [z5] at z2; cases z2
    have es : (L2.start N (V.non :: us)).set 0 (some (.ref x)) = L2.start N (.ref x :: us) := rfl
    have ee : (startE N (D.non :: ds)).set 0 (.own (.obj x C [] [])) = .own (.obj x C [] []) :: (startE N (.non :: ds)).drop 1 := rfl
    rw [es, ee] at S2
    have fin : ∀ {t' : Nat} {σ' : L2.St} {env' : List Sl} {G' H' : Hp} {ks : List Str} {fs : List D}, Stt J G (fun a => if a = x then none else H a) G' H' t' σ' env' → env'[0]? = some (Sl.own (.obj x C ks fs)) → Q' t' ks fs → Q .non H' := fun {t' σ' env' G' H' ks fs} S' e' q' => by
      obtain ⟨p, o, z1, z2, ⟨z3, dx', fv, z4, z5, z6, z7⟩, z8, z9, z10⟩ := S'.own 0 _ e'
      subst z3 z4
      refine q t' ks fs q' dx' fv G' H' S'.gr.exG (fun a o e n j => S'.gr.exH a o (by show (if a = p then none else H a) = some o; rw [if_neg n]; exact e) j) (fun a o e n => ?_) S'.sub S'.jar z2 z5 z6
      by_cases ha : a = p
      · rw [ha]; exact z8
      · exact S'.gr.nof a o (by show (if a = p then none else H a) = some o; rw [if_neg ha]; exact e) n
    refine ⟨WSs (CxB P w K mg base N qual st f cdv A outer s H E) (defBody st), PSs.nox pss_w, ?_⟩
    refine (hb cdv A outer s H E hr x ds t Q' h8 J G _ G H _ S2).mono (fun σ' H' ⟨G', t', env', _, S', ks, fs, e', q'⟩ => fin S' e' q') (fun v H' ⟨G', t', σ', env', d, S', r', ed, ks, fs, e', q'⟩ => ?_) (fun _ _ z => z) fun _ _ z => z
    subst ed
    rw [show v = .non from r']
    exact fin S' e' q'
end
end
end BS

set_option Elab.async false
set_option linter.all false
set_option maxRecDepth 100000
set_option maxHeartbeats 4000000
/-! more rules: names, chains of comparisons, isinstance -/
namespace BS
open PySem PySem.Spec PyProof.Rows L2
section
variable {X : Cx} {e a b c d e1 : Expr} {es : List Expr} {t k : Nat} {env : List Sl} {pos p : Pos} {x : Str}
theorem xv (i : Nat) {d : D} {Q : Nat → D → Prop} (he : env[i]? = some (Sl.d d)) (q : Q t d) (hN : X.N[i]? = some x := by rfl) (hv : Vis X.env.scope x := by first | exact Or.inl rfl | exact Or.inr (Or.inl rfl) | exact Or.inr (Or.inr rfl))
    (hd : (x == ("__debug__" : Str)) = false := by decide) (hcd : (x == ("__classdict__" : Str)) = false := by decide) : XE X (.Name x pos) t env Q := xe_var i q he hN hv hd hcd
theorem xe_gint {i : Int} {Q : Nat → D → Prop} (h : ∃ t, X.mg x = some (.int i t)) (q : Q t (.int i)) (hg : Gl X x := by rfl) (hd : (x == ("__debug__" : Str)) = false := by decide) : XE X (.Name x pos) t env Q := by
  obtain ⟨u, hu⟩ := h
  exact xe_glob (v := .int i) (d := .int i) hu ⟨u, rfl⟩ (fun _ _ => rfl) q hg hd
theorem xe_gcls {C : Addr} {Q : Nat → D → Prop} (h : X.mg x = some (.ref C)) (q : Q t (.cls C)) (hg : Gl X x := by rfl) (hd : (x == ("__debug__" : Str)) = false := by decide) : XE X (.Name x pos) t env Q := xe_glob (v := .ref C) (d := .cls C) h rfl (fun _ _ => rfl) q hg hd

/-! ### chains of comparisons -/
section
variable {ta tb tc td : TE}
def tChain3 (r r' r'' : R2) (ta tb tc td : TE) : TE := fun σ H Q => ta σ H fun x H1 => tb σ H1 fun y H2 => r x y H2 fun z H3 => ∃ k, z = .bl k ∧
  (if k = true then tc σ H3 fun w' H4 => r' y w' H4 fun z2 H5 => ∃ k2, z2 = .bl k2 ∧ (if k2 = true then td σ H5 fun v' H6 => r'' w' v' H6 Q else Q (.bl false) H5) else Q (.bl false) H3)
theorem pe_chain3 {op op' op'' : CmpOp} {r r' r'' : R2} (ho : OpR X (compareOp op) r) (ho' : OpR X (compareOp op') r') (ho'' : OpR X (compareOp op'') r'') (ha : PE X a ta) (hb : PE X b tb) (hc : PE X c tc) (hd : PE X d td)
    (hm : lastMarks [op, op', op''] [b, c, d] = false := by with_unfolding_all rfl) : PE X (.Compare a [op, op', op''] [b, c, d] pos) (tChain3 r r' r'' ta tb tc td) := by
  refine ⟨fun pins s σ H Q I h => ?_⟩
  refine Compare_chain (thn (ha.run pins s σ H _ I h) fun v s1 ⟨x, H1, I1, r1, q1⟩ => chain_link (thn (hb.run pins s1 σ H1 _ I1 q1) fun u s2 ⟨y, H2, I2, r2, q2⟩ =>
    thn (ho pins s2 σ H2 x y v u _ I2 r1 r2 q2) fun d s3 ⟨z, H3, I3, r3, k, e, q3⟩ => ?_)) hm
  subst e
  cases r3
  refine wpAny_truthy_bool ?_
  cases k with
  | false => exact ite_ff ⟨.bl false, H3, I3, rfl, q3⟩
  | true =>
    refine ite_tt (chain_link (thn (hc.run pins s3 σ H3 _ I3 q3) fun w' s4 ⟨z', H4, I4, r4, q4⟩ => thn (ho' pins s4 σ H4 y z' u w' _ I4 r2 r4 q4) fun d5 s5 ⟨z5, H5, I5, r5, k5, e5, q5⟩ => ?_))
    subst e5
    cases r5
    refine wpAny_truthy_bool ?_
    cases k5 with
    | false => exact ite_ff ⟨.bl false, H5, I5, rfl, q5⟩
    | true => exact ite_tt (chain_last (thn (hd.run pins s5 σ H5 _ I5 q5) fun w6 s6 ⟨z6, H6, I6, r6, q6⟩ => ho'' pins s6 σ H6 z' z6 w' w6 Q I6 r4 r6 q6))
end
/-- a < b <= c <= d, as a value -/
theorem xe_chain3 {Q : Nat → D → Prop} (h : XE X a t env fun t1 x => XE X b t1 env fun t2 y => I2 x y fun i j => (i < j → XE X c t2 env fun t3 z => I2 y z fun j k => (j ≤ k → XE X d t3 env fun t4 w => I2 z w fun k l => Q t4 (.bl (decide (k ≤ l)))) ∧ (¬ j ≤ k → Q t3 (.bl false))) ∧ (¬ i < j → Q t2 (.bl false)))
    (hm : lastMarks [.Lt, .LtE, .LtE] [b, c, d] = false := by with_unfolding_all rfl) : XE X (.Compare a [.Lt, .LtE, .LtE] [b, c, d] pos) t env Q := fun J G0 H0 G H σ S => by
  refine WE.of (pe_chain3 op_lt op_le op_le pe_w pe_w pe_w pe_w hm) ?_
  refine (h J G0 H0 G H σ S).mono fun v H1 ⟨G1, t1, x, s1, S1, r1, h1⟩ => ?_
  refine (h1 J G0 H0 G1 H1 σ S1).mono fun u H2 ⟨G2, t2, y, s2, S2, r2, i, j, e1, e2, q1, q2⟩ => ?_
  subst e1 e2
  obtain rfl : v = .int i := r1
  obtain rfl : u = .int j := r2
  refine ⟨i, j, rfl, rfl, _, rfl, ?_⟩
  by_cases hij : i < j
  · rw [if_pos (decide_eq_true hij)]
    refine (q1 hij J G0 H0 G2 H2 σ S2).mono fun w H3 ⟨G3, t3, z, s3, S3, r3, j', k, e3, e4, q3, q4⟩ => ?_
    cases e3
    subst e4
    obtain rfl : w = .int k := r3
    refine ⟨j, k, rfl, rfl, _, rfl, ?_⟩
    by_cases hjk : j ≤ k
    · rw [if_pos (decide_eq_true hjk)]
      refine (q3 hjk J G0 H0 G3 H3 σ S3).mono fun w' H4 ⟨G4, t4, z4, s4, S4, r4, k', l, e5, e6, q5⟩ => ?_
      cases e5
      subst e6
      obtain rfl : w' = .int l := r4
      exact ⟨k, l, rfl, rfl, G4, t4, .bl (decide (k ≤ l)), ((s1.trans s2).trans s3).trans s4, S4, rfl, q5⟩
    · rw [if_neg (by rw [decide_eq_false hjk]; exact Bool.false_ne_true)]
      exact ⟨G3, t3, .bl false, (s1.trans s2).trans s3, S3, rfl, q4 hjk⟩
  · rw [if_neg (by rw [decide_eq_false hij]; exact Bool.false_ne_true)]
    exact ⟨G2, t2, .bl false, s1.trans s2, S2, rfl, q2 hij⟩
/-- a < b < c, as a test -/
theorem xt_chain2 {Q : Nat → Bool → Prop} (h : XE X a t env fun t1 x => XE X b t1 env fun t2 y => I2 x y fun i j => (i < j → XE X c t2 env fun t3 z => I2 y z fun j k => Q t3 (decide (j < k))) ∧ (¬ i < j → Q t2 false))
    (hm : lastMarks [.Lt, .Lt] [b, c] = false := by with_unfolding_all rfl) : XT X (.Compare a [.Lt, .Lt] [b, c] pos) t env Q := fun J G0 H0 G H σ S => by
  refine WT.of (pt_chain op_lt op_lt pe_w pe_w pe_w hm) ?_
  refine (h J G0 H0 G H σ S).mono fun v H1 ⟨G1, t1, x, s1, S1, r1, h1⟩ => ?_
  refine (h1 J G0 H0 G1 H1 σ S1).mono fun u H2 ⟨G2, t2, y, s2, S2, r2, i, j, e1, e2, q1, q2⟩ => ?_
  subst e1 e2
  obtain rfl : v = .int i := r1
  obtain rfl : u = .int j := r2
  refine ⟨i, j, rfl, rfl, _, rfl, ?_⟩
  by_cases hij : i < j
  · rw [if_pos (decide_eq_true hij)]
    refine (q1 hij J G0 H0 G2 H2 σ S2).mono fun w H3 ⟨G3, t3, z, s3, S3, r3, j', k, e3, e4, q3⟩ => ?_
    cases e3
    subst e4
    obtain rfl : w = .int k := r3
    exact ⟨j, k, rfl, rfl, _, rfl, G3, t3, (s1.trans s2).trans s3, S3, q3⟩
  · rw [if_neg (by rw [decide_eq_false hij]; exact Bool.false_ne_true)]
    exact ⟨_, rfl, G2, t2, s1.trans s2, S2, q2 hij⟩

/-! ### isinstance -/
def DTy : D → Option String
  | .non => some "NoneType" | .bl _ => some "bool" | .int _ => some "int" | .str _ => some "str" | .tup _ => some "tuple" | .lst _ => some "list" | _ => none
theorem DTy.ty {K : PySem.W.Frag} {J : Option Addr} {G H : Hp} {d : D} {v : V} {T : String} (h : DTy d = some T) (r : Rep J G d v) (s : Same G H) : TyX K H v (.type T) := by
  cases d with
  | non => cases h; rw [show v = .non from r]; exact .base .non
  | bl b => cases h; rw [show v = .bl b from r]; exact .base (.bl b)
  | int i => cases h; rw [show v = .int i from r]; exact .base (.int i)
  | str x => cases h; rw [show v = .str x from r]; exact .base (.str x)
  | tup ds => cases h; obtain ⟨a, xs, e1, h1, _⟩ := r; subst e1; exact .base (.tup (s _ _ h1))
  | lst ds => cases h; obtain ⟨a, xs, e1, h1, _⟩ := r; subst e1; exact .base (.lst (s _ _ h1))
  | _ => cases h
/-- what isinstance asks of an own class -/
structure OwnC (K : PySem.W.Frag) (C : Addr) : Prop where
  cl : Cls K C
  at_ : PySem.W.findIn K (.ref C) "__class__" = some (some (.builtin "object.__class__"))
  sp : PySem.W.specialIn K (.builtin "object.__class__") "__get__" = some (some (.builtin "getset_descriptor.__get__"))
  tk : PySem.W.takesIn K (.builtin "object.__class__") = some true
  ob : PySem.W.mroIn K C (.type "object") = some true
theorem OwnC.ty {K : PySem.W.Frag} {J : Option Addr} {G H : Hp} {C : Addr} {ks : List Str} {ds : List D} {v : V} (o : OwnC K C) (r : Rep J G (.ins C ks ds) v) (s : Same G H) : TyX K H v (.ref C) := by
  obtain ⟨a, dx, fs, e1, h1, _⟩ := r
  subst e1
  exact .base (.ins (s _ _ h1) o.cl o.at_ o.sp o.tk o.ob)
/-- isinstance(x, T), T a built-in type -/
theorem xe_isi (n : String) {pc : Pos} {cn : Str} {Q : Nat → D → Prop} (hm : X.mg "isinstance" = none) (hm2 : X.mg cn = none) (h : XE X a t env fun t1 x => ∃ T b, DTy x = some T ∧ kitB T n = some b ∧ Q t1 (.bl b))
    (hg : Gl X "isinstance" := by rfl) (hg2 : Gl X cn := by rfl) (hv : bootBuiltins cn = some (.type n) := by decide +kernel) (hn : cn ≠ "__name__" := by decide) (hdb : (cn == ("__debug__" : Str)) = false := by decide)
    (he : starEach [a, .Name cn pc] X.env = (false, eval a X.env) :: starEach [.Name cn pc] X.env := by rfl) (he2 : starEach [.Name cn pc] X.env = (false, eval (.Name cn pc) X.env) :: starEach [] X.env := by rfl)
    (hpl : (backTo pos (starEach [.Name cn pc] X.env)).any (·.1) = false := by rfl) : XE X (.Call (.Name "isinstance" p) [a, .Name cn pc] [] pos) t env Q :=
  xe_blt call_isi hm (xa_2 (h.mono fun t1 x ⟨T, b, h1, h2, q⟩ => xe_ty (n := n) hm2 (fun J G0 H0 Gb G H σ vs s S r => by
    obtain ⟨v, v', rfl, r1, r2⟩ := rep2 r
    obtain rfl : v' = .ty n := r2
    exact ⟨v, .ty n, .type T, .type n, b, rfl, .ty n, DTy.ty h1 r1 S.sub, kit_ty h2, fin_e (d := .bl b) s S rfl q⟩) hv hg2 hn hdb) he he2) (by decide +kernel) hg (he := he) (hpl := hpl)
/-- isinstance(x, C), x an instance of the own class C -/
theorem xe_isiC {C : Addr} {pc : Pos} {cn : Str} {Q : Nat → D → Prop} (o : OwnC X.K C) (hm : X.mg "isinstance" = none) (hm2 : X.mg cn = some (.ref C)) (h : XE X a t env fun t1 x => (∃ ks ds, x = .ins C ks ds) ∧ Q t1 (.bl true))
    (hg : Gl X "isinstance" := by rfl) (hg2 : Gl X cn := by rfl) (hdb : (cn == ("__debug__" : Str)) = false := by decide)
    (he : starEach [a, .Name cn pc] X.env = (false, eval a X.env) :: starEach [.Name cn pc] X.env := by rfl) (he2 : starEach [.Name cn pc] X.env = (false, eval (.Name cn pc) X.env) :: starEach [] X.env := by rfl)
    (hpl : (backTo pos (starEach [.Name cn pc] X.env)).any (·.1) = false := by rfl) : XE X (.Call (.Name "isinstance" p) [a, .Name cn pc] [] pos) t env Q :=
  xe_blt call_isi hm (xa_2 (h.mono fun t1 x ⟨⟨ks, ds, ex⟩, q⟩ => xe_gcls hm2 (fun J G0 H0 Gb G H σ vs s S r => by
    obtain ⟨v, v', rfl, r1, r2⟩ := rep2 r
    obtain rfl : v' = .ref C := r2
    subst ex
    exact ⟨v, .ref C, .ref C, .ref C, true, rfl, .own C, o.ty r1 S.sub, by unfold PySem.W.kitOne; rw [if_pos (beq_self_eq_true _)], fin_e (d := .bl true) s S rfl q⟩) hg2 hdb) he he2) (by decide +kernel) hg (he := he) (hpl := hpl)
/-- a list or tuple, or not -/
def IsLT (K : PySem.W.Frag) (x : D) (b : Bool) : Prop := (∃ T, DTy x = some T ∧ PySem.W.kitAny K (.type T) [.type "list", .type "tuple"] = some b) ∨ ∃ C ks ds, x = .ins C ks ds ∧ OwnC K C ∧ PySem.W.kitAny K (.ref C) [.type "list", .type "tuple"] = some b
theorem isLT_int {K : PySem.W.Frag} {i : Int} : IsLT K (.int i) false := .inl ⟨_, rfl, kitAny_cons (kit_ty (by decide +kernel : kitB "int" "list" = some false)) (fun _ => kitAny_cons (kit_ty (by decide +kernel : kitB "int" "tuple" = some false)) (fun _ => kitAny_nil) fun z => nomatch z) fun z => nomatch z⟩
theorem isLT_lst {K : PySem.W.Frag} {ds : List D} : IsLT K (.lst ds) true := .inl ⟨_, rfl, kitAny_cons (kit_ty (by decide +kernel : kitB "list" "list" = some true)) (fun z => nomatch z) fun _ => rfl⟩
theorem isLT_tup {K : PySem.W.Frag} {ds : List D} : IsLT K (.tup ds) true := .inl ⟨_, rfl, kitAny_cons (kit_ty (by decide +kernel : kitB "tuple" "list" = some false)) (fun _ => kitAny_cons (kit_ty (by decide +kernel : kitB "tuple" "tuple" = some true)) (fun z => nomatch z) fun _ => rfl) fun z => nomatch z⟩
theorem xe_isiLT {p1 p2 : Pos} {kt : Nat} {pt : Pos} {Q : Nat → D → Prop} (hm : X.mg "isinstance" = none) (hm1 : X.mg "list" = none) (hm2 : X.mg "tuple" = none) (h : XE X a t env fun t1 x => ∃ b, IsLT X.K x b ∧ Q t1 (.bl b))
    (hg : Gl X "isinstance" := by rfl) (hg1 : Gl X "list" := by rfl) (hg2 : Gl X "tuple" := by rfl)
    (he : starEach [a, .Tuple [.Name "list" p1, .Name "tuple" p2] kt pt] X.env = (false, eval a X.env) :: starEach [.Tuple [.Name "list" p1, .Name "tuple" p2] kt pt] X.env := by rfl)
    (he2 : starEach [.Tuple [.Name "list" p1, .Name "tuple" p2] kt pt] X.env = (false, eval (.Tuple [.Name "list" p1, .Name "tuple" p2] kt pt) X.env) :: starEach [] X.env := by rfl)
    (he3 : starEach [.Name "list" p1, .Name "tuple" p2] X.env = (false, eval (.Name "list" p1) X.env) :: starEach [.Name "tuple" p2] X.env := by rfl) (he4 : starEach [.Name "tuple" p2] X.env = (false, eval (.Name "tuple" p2) X.env) :: starEach [] X.env := by rfl)
    (hpl : (backTo pos (starEach [.Tuple [.Name "list" p1, .Name "tuple" p2] kt pt] X.env)).any (·.1) = false := by rfl) : XE X (.Call (.Name "isinstance" p) [a, .Tuple [.Name "list" p1, .Name "tuple" p2] kt pt] [] pos) t env Q :=
  xe_blt call_isiT hm (xa_2 (h.mono fun t1 x ⟨b, h1, q⟩ => xe_tup (xa_2 (xe_ty (n := "list") hm1 (xe_ty (n := "tuple") hm2 ⟨by decide, fun J G0 H0 Gb G H σ vs s S r => by
    obtain ⟨v, v', rfl, r1, r2⟩ := rep2 r
    obtain ⟨tp, xs, e1, z1, z2⟩ := r2
    subst e1
    obtain ⟨w1, w2, rfl, y1, y2⟩ := rep2 z2
    obtain rfl : w1 = .ty "list" := y1
    obtain rfl : w2 = .ty "tuple" := y2
    rcases h1 with ⟨T, e, hk⟩ | ⟨C, ks, ds, e, o, hk⟩
    · exact ⟨v, tp, _, .type T, [.type "list", .type "tuple"], b, rfl, S.sub _ _ z1, .cons (.ty _) (.cons (.ty _) .nil), DTy.ty e r1 S.sub, hk, fin_e (d := .bl b) s S rfl q⟩
    · subst e
      exact ⟨v, tp, _, .ref C, [.type "list", .type "tuple"], b, rfl, S.sub _ _ z1, .cons (.ty _) (.cons (.ty _) .nil), o.ty r1 S.sub, hk, fin_e (d := .bl b) s S rfl q⟩⟩ (by decide +kernel) hg2) (by decide +kernel) hg1) he3 he4)) he he2) (by decide +kernel) hg (he := he) (hpl := hpl)
end
end BS

set_option Elab.async false
set_option linter.all false
set_option maxRecDepth 100000
set_option maxHeartbeats 4000000
/-! the text: the defs of the row, by place; what the head tells of them -/
namespace BS
open PySem PySem.Spec PyProof.Rows L2
def topS (i : Nat) : Stmt := PySem.Challenge.pw_bendsigns_k21_whole_bends_that_touch_a_r.main.body.getD i (.Pass ⟨0, 0, 0, 0⟩)
abbrev s_is_integer : Stmt := topS 14
abbrev s_is_within : Stmt := topS 15
abbrev s_is_place : Stmt := topS 16
abbrev s_are_integers : Stmt := topS 17
abbrev s_need_number : Stmt := topS 18
abbrev s_need_place : Stmt := topS 19
abbrev s_measure : Stmt := topS 20
abbrev s_root_of : Stmt := topS 21
abbrev s_need_numbers : Stmt := topS 27
abbrev s_need_form : Stmt := topS 28
abbrev s_worth_of : Stmt := topS 29
abbrev s_Form_init : Stmt := inClass (topS 30) 0
abbrev s_need_bends : Stmt := topS 32
abbrev s_need_four : Stmt := topS 33
abbrev s_Four_init : Stmt := inClass (topS 36) 0
abbrev s_others_of : Stmt := topS 38
abbrev s_numbers_at : Stmt := topS 39
abbrev s_bends_from : Stmt := topS 40
abbrev s_need_bent : Stmt := topS 41
abbrev s_need_round : Stmt := topS 42
abbrev s_form_at : Stmt := topS 43
abbrev s_four_from : Stmt := topS 44
abbrev s_fixed : Stmt := topS 46
abbrev s_Paper_init : Stmt := inClass (topS 47) 0
abbrev s_Paper_bool : Stmt := inClass (topS 47) 1
abbrev s_Denial_bool : Stmt := inClass (topS 48) 0
abbrev s_shifted : Stmt := topS 50
abbrev s_exchanged_ends : Stmt := topS 51
abbrev s_is_in_order : Stmt := topS 52
abbrev s_led : Stmt := topS 53
abbrev s_form_of : Stmt := topS 54
abbrev s_Touching_init : Stmt := inClass (topS 58) 0
abbrev s_Untouched_init : Stmt := inClass (topS 59) 0
abbrev s_told : Stmt := topS 60
abbrev s_columns : Stmt := topS 61
abbrev s_spots : Stmt := topS 62
abbrev s_forms_with : Stmt := topS 63
abbrev s_need_worth : Stmt := topS 64
abbrev s_touching : Stmt := topS 65
abbrev s_touches : Stmt := topS 66
abbrev s_roots_by : Stmt := topS 68
abbrev s_many_touching : Stmt := topS 69
abbrev s_numbers_of : Stmt := topS 72
abbrev s_all_bends : Stmt := topS 73
abbrev s_rim_fours : Stmt := topS 74
abbrev s_law_jar : Stmt := topS 76
abbrev s_law_lot : Stmt := topS 77
abbrev s_law_take : Stmt := topS 78
abbrev s_law_mixed : Stmt := topS 79
abbrev s_law_divisor : Stmt := topS 80
abbrev s_law_forms : Stmt := topS 81
abbrev s_law_walked : Stmt := topS 82
abbrev s_law_many : Stmt := topS 83
abbrev s_law_root : Stmt := topS 84
abbrev s_law_pairs : Stmt := topS 85
abbrev s_law_rim_right : Stmt := topS 86
abbrev s_law_circle_right : Stmt := topS 87
abbrev s_law : Stmt := topS 88
/-- what the head tells of a def, of an __init__ -/
def KnF (K : PySem.W.Frag) (mg : Str → Option Value) (x : Str) (st : Stmt) (dvs : List V) : Prop := ∃ f fd, FunD K x x (defArgs st) (defBody st) (defScope st) dvs [] f fd ∧ mg x = some (.ref f)
def KnI (K : PySem.W.Frag) (mg : Str → Option Value) (C q : Str) (st : Stmt) : Prop := ∃ f fd, FunD K "__init__" q (defArgs st) (defBody st) (defScope st) [] [] f fd ∧ Mk K (He.ga K C) f ∧ mg C = some (.ref (He.ga K C))
def KnM (K : PySem.W.Frag) (C m q : Str) (st : Stmt) : Prop := ∃ f fd, FunD K m q (defArgs st) (defBody st) (defScope st) [] [] f fd ∧ f = He.ma K (He.ga K C) m
structure HF (K : PySem.W.Frag) (mg : Str → Option Value) : Prop where
  d_is_integer : KnF K mg "is_integer" s_is_integer []
  d_is_within : KnF K mg "is_within" s_is_within []
  d_is_place : KnF K mg "is_place" s_is_place []
  d_are_integers : KnF K mg "are_integers" s_are_integers []
  d_need_number : KnF K mg "need_number" s_need_number []
  d_need_place : KnF K mg "need_place" s_need_place []
  d_measure : KnF K mg "measure" s_measure []
  d_root_of : KnF K mg "root_of" s_root_of []
  d_need_numbers : KnF K mg "need_numbers" s_need_numbers []
  d_need_form : KnF K mg "need_form" s_need_form [.str "form"]
  d_worth_of : KnF K mg "worth_of" s_worth_of []
  d_Form_init : KnI K mg "Form" "Form.__init__" s_Form_init
  d_need_bends : KnF K mg "need_bends" s_need_bends []
  d_need_four : KnF K mg "need_four" s_need_four [.str "four"]
  d_Four_init : KnI K mg "Four" "Four.__init__" s_Four_init
  d_others_of : KnF K mg "others_of" s_others_of []
  d_numbers_at : KnF K mg "numbers_at" s_numbers_at []
  d_bends_from : KnF K mg "bends_from" s_bends_from []
  d_need_bent : KnF K mg "need_bent" s_need_bent []
  d_need_round : KnF K mg "need_round" s_need_round []
  d_form_at : KnF K mg "form_at" s_form_at []
  d_four_from : KnF K mg "four_from" s_four_from []
  d_fixed : KnF K mg "fixed" s_fixed []
  d_Paper_init : KnI K mg "Paper" "Paper.__init__" s_Paper_init
  d_Paper_bool : KnM K "Paper" "__bool__" "Paper.__bool__" s_Paper_bool
  d_Denial_bool : KnM K "Denial" "__bool__" "Denial.__bool__" s_Denial_bool
  d_shifted : KnF K mg "shifted" s_shifted []
  d_exchanged_ends : KnF K mg "exchanged_ends" s_exchanged_ends []
  d_is_in_order : KnF K mg "is_in_order" s_is_in_order []
  d_led : KnF K mg "led" s_led []
  d_form_of : KnF K mg "form_of" s_form_of []
  d_told : KnF K mg "told" s_told []
  d_columns : KnF K mg "columns" s_columns []
  d_spots : KnF K mg "spots" s_spots []
  d_forms_with : KnF K mg "forms_with" s_forms_with []
  d_need_worth : KnF K mg "need_worth" s_need_worth []
  d_touching : KnF K mg "touching" s_touching []
  d_touches : KnF K mg "touches" s_touches []
  d_roots_by : KnF K mg "roots_by" s_roots_by []
  d_many_touching : KnF K mg "many_touching" s_many_touching []
  d_numbers_of : KnF K mg "numbers_of" s_numbers_of []
  d_all_bends : KnF K mg "all_bends" s_all_bends []
  d_rim_fours : KnF K mg "rim_fours" s_rim_fours []
  d_law_jar : KnF K mg "_law_jar" s_law_jar []
  d_law_lot : KnF K mg "_law_lot" s_law_lot []
  d_law_take : KnF K mg "_law_take" s_law_take []
  d_law_mixed : KnF K mg "_law_mixed" s_law_mixed []
  d_law_divisor : KnF K mg "_law_divisor" s_law_divisor []
  d_law_forms : KnF K mg "_law_forms" s_law_forms []
  d_law_walked : KnF K mg "_law_walked" s_law_walked []
  d_law_many : KnF K mg "_law_many" s_law_many []
  d_law_root : KnF K mg "_law_root" s_law_root []
  d_law_pairs : KnF K mg "_law_pairs" s_law_pairs []
  d_law_rim_right : KnF K mg "_law_rim_right" s_law_rim_right []
  d_law_circle_right : KnF K mg "_law_circle_right" s_law_circle_right []
  d_law : KnF K mg "law" s_law []
  f_isinstance : mg "isinstance" = none
  f_int : mg "int" = none
  f_bool : mg "bool" = none
  f_list : mg "list" = none
  f_tuple : mg "tuple" = none
  f_all : mg "all" = none
  f_len : mg "len" = none
  f_sum : mg "sum" = none
  f_sorted : mg "sorted" = none
  f_set : mg "set" = none
  f_range : mg "range" = none
  f_abs : mg "abs" = none
  f_max : mg "max" = none
  f_repr : mg "repr" = none
  f_str : mg "str" = none
  f_super : mg "super" = none
  g_gcd : mg "gcd" = some (.builtin "math.gcd")
  g_isqrt : mg "isqrt" = some (.builtin "math.isqrt")
  i_PLACES : ∃ t, mg "PLACES" = some (.int 4 t)
  i_MOST_BEND : ∃ t, mg "MOST_BEND" = some (.int 500 t)
  i_MOST_WORTH : ∃ t, mg "MOST_WORTH" = some (.int 2000 t)
  i_MOST_RIM : ∃ t, mg "MOST_RIM" = some (.int 60 t)
  c_Form : Cls K (He.ga K "Form")
  a_Form : PySem.W.findIn K (.ref (He.ga K "Form")) "__class__" = some (some (.builtin "object.__class__"))
  o_Form : PySem.W.mroIn K (He.ga K "Form") (.type "object") = some true
  m_Form : mg "Form" = some (.ref (He.ga K "Form"))
  c_Four : Cls K (He.ga K "Four")
  a_Four : PySem.W.findIn K (.ref (He.ga K "Four")) "__class__" = some (some (.builtin "object.__class__"))
  o_Four : PySem.W.mroIn K (He.ga K "Four") (.type "object") = some true
  m_Four : mg "Four" = some (.ref (He.ga K "Four"))
  c_Paper : Cls K (He.ga K "Paper")
  a_Paper : PySem.W.findIn K (.ref (He.ga K "Paper")) "__class__" = some (some (.builtin "object.__class__"))
  o_Paper : PySem.W.mroIn K (He.ga K "Paper") (.type "object") = some true
  m_Paper : mg "Paper" = some (.ref (He.ga K "Paper"))
  c_Denial : Cls K (He.ga K "Denial")
  a_Denial : PySem.W.findIn K (.ref (He.ga K "Denial")) "__class__" = some (some (.builtin "object.__class__"))
  o_Denial : PySem.W.mroIn K (He.ga K "Denial") (.type "object") = some true
  m_Denial : mg "Denial" = some (.ref (He.ga K "Denial"))
  c_Touching : Cls K (He.ga K "Touching")
  a_Touching : PySem.W.findIn K (.ref (He.ga K "Touching")) "__class__" = some (some (.builtin "object.__class__"))
  o_Touching : PySem.W.mroIn K (He.ga K "Touching") (.type "object") = some true
  m_Touching : mg "Touching" = some (.ref (He.ga K "Touching"))
  c_Untouched : Cls K (He.ga K "Untouched")
  a_Untouched : PySem.W.findIn K (.ref (He.ga K "Untouched")) "__class__" = some (some (.builtin "object.__class__"))
  o_Untouched : PySem.W.mroIn K (He.ga K "Untouched") (.type "object") = some true
  m_Untouched : mg "Untouched" = some (.ref (He.ga K "Untouched"))
  gs1 : PySem.W.specialIn K (.builtin "object.__class__") "__get__" = some (some (.builtin "getset_descriptor.__get__"))
  gs2 : PySem.W.takesIn K (.builtin "object.__class__") = some true
  n_Form_numbers : NoAttr K (He.ga K "Form") "numbers"
  n_Form_side : NoAttr K (He.ga K "Form") "side"
  n_Four_bends : NoAttr K (He.ga K "Four") "bends"
  n_Four_total : NoAttr K (He.ga K "Four") "total"
  n_Touching_word : NoAttr K (He.ga K "Touching") "word"
  n_Touching_parts : NoAttr K (He.ga K "Touching") "parts"
  n_Touching_x : NoAttr K (He.ga K "Touching") "x"
  n_Touching_y : NoAttr K (He.ga K "Touching") "y"
  n_Untouched_word : NoAttr K (He.ga K "Untouched") "word"
  n_Untouched_parts : NoAttr K (He.ga K "Untouched") "parts"
  n_Untouched_forms : NoAttr K (He.ga K "Untouched") "forms"
end BS

set_option Elab.async false
set_option linter.all false
set_option maxRecDepth 100000
set_option maxHeartbeats 4000000
/-! the walks: checks -/
namespace BS
open PySem PySem.Spec PyProof.Rows L2
abbrev SpT : Type := List D → Nat → (Nat → D → Prop) → Prop
section
variable {X : Cx} {e : Expr} {tg iter : Expr} {t : Nat} {env : List Sl} {Qi : Nat → List D → Prop}
theorem xi_sq (h : XE X iter t env fun t1 d => ∃ ds, Sq d ds ∧ Qi t1 ds) : XI X tg iter t env Qi := fun J G0 H0 G H σ S pins s I => by
  refine thn ((show WE X iter σ H _ from h J G0 H0 G H σ S) pins s I) fun v s1 q => ?_
  obtain ⟨u, H1, I1, r1, G1, t1, d, e1, S1, rr, ds, hd, q1⟩ := q
  rcases hd with rfl | rfl
  · obtain ⟨a, xs, rfl, z1, z2⟩ := rr
    cases r1
    obtain ⟨its, rv, p, hz⟩ := I1.list (SqL.of (S1.sub _ _ z1))
    refine wpAny_pyIter_list p.isList ?_
    refine ⟨s1.heap.objs.size, [s1.heap.objs.size], _, _, H1, rfl, I1.kept (t' := s1.toks) fun b o e => Heap.get?_push_of_some _ e, turn_list a _, ⟨_, Heap.get?_push_size _ rfl, rfl, rfl⟩, fun b hb => ?_, G1, t1, ds, e1, S1, itOk_lst (K := X.K) z1 z2, q1⟩
    rw [List.mem_singleton.mp hb]
    exact I1.fpOk (Nat.le_refl _) (I1.hok.fresh (Nat.le_refl _))
  · obtain ⟨a, xs, rfl, z1, z2⟩ := rr
    cases r1
    obtain ⟨its, rv, p, hz⟩ := I1.tuple (SqT.of (S1.sub _ _ z1))
    refine wpAny_pyIter_tuple (show s1.heap.IsTuple a its.toArray from p) ?_
    refine ⟨s1.heap.objs.size, [s1.heap.objs.size], _, _, H1, rfl, I1.kept (t' := s1.toks) fun b o e => Heap.get?_push_of_some _ e, turn_tuple a _, ⟨_, Heap.get?_push_size _ rfl, rfl, rfl⟩, fun b hb => ?_, G1, t1, ds, e1, S1, itOk_tup (K := X.K) z1 z2, q1⟩
    rw [List.mem_singleton.mp hb]
    exact I1.fpOk (Nat.le_refl _) (I1.hok.fresh (Nat.le_refl _))
end
section
variable {P : Program} {w : World} {K : PySem.W.Frag} {mg : Str → Option Value} {base : Heap} {x : Str} {st : Stmt} {N ps : List Str} {k : Nat}
/-- a def of the text -/
theorem mkF {S : SpT} (kn : KnF K mg x st []) (Sc : FnScope N ps (defScope st)) (hl : ∀ ds t Q, S ds t Q → ds.length = ps.length)
    (hbn : ∀ (kV doc pm : Value) (an : Option Addr) (cdv ct : Value) (us : List Value), us.length = ps.length → bindArgs (PySem.W.fnOf x x (defArgs st) (defBody st) (defScope st) .none kV doc pm an cdv ct) ⟨us, []⟩ = pure (ps.zip us))
    (hb : ∀ (f : Addr) (cdv : Value) (A : Around) (outer : List Env) (s : Shared) (H : Hp) (E : XK), Room k (CxB P w K mg base N x st f cdv A outer s H E).A → ∀ (ds : List D) (t : Nat) (Q' : Nat → D → Prop), S ds t Q' →
      XSs (CxB P w K mg base N x st f cdv A outer s H E) (defBody st) t (startE N ds) (fun t' _ => Q' t' .non) (fun t' _ d => Q' t' d)) : Fn P w K mg base (k + 1) x [] S := by
  obtain ⟨f, fd, F, hm⟩ := kn
  exact ⟨f, fd, ps, [], [], mk_fn F Sc hl fun cdv A outer s H E hr => hb f cdv A outer s H E hr, hm, F.kp, F.bindsN hbn, .nil, fun _ _ => rfl⟩
/-- a def with one default, a text -/
theorem mkF1 {S : SpT} {y : Str} (kn : KnF K mg x st [.str y]) (Sc : FnScope N ps (defScope st)) (hl : ∀ ds t Q, S ds t Q → ds.length = ps.length) (hp : ps.length = 2)
    (hbn : ∀ (T : Addr) (kV doc pm : Value) (an : Option Addr) (cdv ct : Value) (us its : List Value), us.length = 1 → its.length = 1 →
      ∃ k, bindArgs (PySem.W.fnOf x x (defArgs st) (defBody st) (defScope st) (.ref T) kV doc pm an cdv ct) ⟨us, []⟩ = seqItems? (.ref T) >>= k ∧ k (some its.toArray) = pure (ps.zip (us ++ its.drop 0)))
    (hb : ∀ (f : Addr) (cdv : Value) (A : Around) (outer : List Env) (s : Shared) (H : Hp) (E : XK), Room k (CxB P w K mg base N x st f cdv A outer s H E).A → ∀ (ds : List D) (t : Nat) (Q' : Nat → D → Prop), S ds t Q' →
      XSs (CxB P w K mg base N x st f cdv A outer s H E) (defBody st) t (startE N ds) (fun t' _ => Q' t' .non) (fun t' _ d => Q' t' d)) : Fn P w K mg base (k + 1) x [.str y] S := by
  obtain ⟨f, fd, F, hm⟩ := kn
  obtain ⟨ds, hv, hbd⟩ := F.binds1 1 0 (by simp) (by rw [hp] <;> rfl) hbn
  exact ⟨f, fd, ps, ds, [.str y], mk_fn F Sc hl fun cdv A outer s H E hr => hb f cdv A outer s H E hr, hm, F.kp, hbd, hv, fun _ _ => ⟨.str y, [], rfl, rfl, rfl⟩⟩
theorem mkI {S : List D → Nat → (Nat → List Str → List D → Prop) → Prop} {C q : Str} (kn : KnI K mg C q st) (Sc : FnScope N ps (defScope st)) (hl : ∀ ds t Q, S ds t Q → ds.length + 1 = ps.length)
    (hbn : ∀ (kV doc pm : Value) (an : Option Addr) (cdv ct : Value) (us : List Value), us.length = ps.length → bindArgs (PySem.W.fnOf "__init__" q (defArgs st) (defBody st) (defScope st) .none kV doc pm an cdv ct) ⟨us, []⟩ = pure (ps.zip us))
    (hb : ∀ (f : Addr) (cdv : Value) (A : Around) (outer : List Env) (s : Shared) (H : Hp) (E : XK), Room k (CxB P w K mg base N q st f cdv A outer s H E).A → ∀ (x : Addr) (ds : List D) (t : Nat) (Q' : Nat → List Str → List D → Prop), S ds t Q' →
      XSs (CxB P w K mg base N q st f cdv A outer s H E) (defBody st) t (.own (.obj x (He.ga K C) [] []) :: (startE N (.non :: ds)).drop 1) (fun t' env' => ∃ ks fs, env'[0]? = some (.own (.obj x (He.ga K C) ks fs)) ∧ Q' t' ks fs) (fun t' env' d => d = .non ∧ ∃ ks fs, env'[0]? = some (.own (.obj x (He.ga K C) ks fs)) ∧ Q' t' ks fs)) :
    Cl P w K mg base (k + 1) C (He.ga K C) S := by
  obtain ⟨f, fd, F, hm, hc⟩ := kn
  exact ⟨f, fd, ps, mk_init F Sc hl fun cdv A outer s H E hr => hb f cdv A outer s H E hr, hm, hc, F.bindsN hbn⟩
theorem sc_is_integer : FnScope ["value"] ["value"] (defScope s_is_integer) := ⟨rfl, rfl, rfl, by decide +kernel, rfl, by decide +kernel, by decide +kernel⟩
def S_is_integer : SpT := fun ds t Q => ∃ v : Int, ds = [.int v] ∧ Q t (.bl true)
theorem w_is_integer (hd : HF K mg) : Fn P w K mg base 1 "is_integer" [] S_is_integer := by
  refine mkF hd.d_is_integer sc_is_integer (fun ds t Q h => by obtain ⟨v, rfl, _⟩ := h; rfl) (fun _ _ _ _ _ _ us hl => match us, hl with | [_], _ => rfl) fun f cdv A outer s H E hr ds t Q h => ?_
  obtain ⟨v, rfl, q⟩ := h
  refine xss_one (xs_ret (xe_and (xe_isi "int" hd.f_isinstance hd.f_int (xv 0 rfl ⟨"int", true, rfl, by decide +kernel, true, rfl, fun _ => ?_, fun h => nomatch h⟩))))
  refine xe_one (xe_not (xe_isi "bool" hd.f_isinstance hd.f_bool (xv 0 rfl ⟨"int", false, rfl, by decide +kernel, false, rfl, q⟩)))
theorem sc_is_within : FnScope ["value", "least", "most"] ["value", "least", "most"] (defScope s_is_within) := ⟨rfl, rfl, rfl, by decide +kernel, rfl, by decide +kernel, by decide +kernel⟩
def S_is_within : SpT := fun ds t Q => ∃ v l m : Int, ds = [.int v, .int l, .int m] ∧ l ≤ v ∧ v ≤ m ∧ Q t (.bl true)
theorem w_is_within (hd : HF K mg) : Fn P w K mg base 2 "is_within" [] S_is_within := by
  refine mkF hd.d_is_within sc_is_within (fun ds t Q h => by obtain ⟨_, _, _, rfl, _⟩ := h; rfl) (fun _ _ _ _ _ _ us hl => match us, hl with | [_, _, _], _ => rfl) fun f cdv A outer s H E hr ds t Q h => ?_
  obtain ⟨v, l, m, rfl, h1, h2, q⟩ := h
  refine xss_cons (xs_if (xt_not (xt_val (xe_call (w_is_integer hd) (hr.mono (by decide)) (xa_cons (xv 0 rfl (xa_nil (⟨v, rfl, ⟨true, rfl, ⟨nofun, fun h => ?_⟩⟩⟩))))))))
  refine xss_nil ?_
  refine xss_one (xs_ret (xe_and (xe_or (xe_isN (xv 1 rfl (⟨false, rfl, nofun, fun _ => xe_one (xe_ge (xv 0 rfl (xv 1 rfl (I2.mk ⟨_, rfl, fun _ => ?_, fun h => absurd h1 (of_decide_eq_false h)⟩))))⟩))))))
  refine xe_one (xe_or (xe_isN (xv 2 rfl (⟨false, rfl, nofun, fun _ => xe_one (xe_le (xv 0 rfl (xv 2 rfl (I2.mk ?_))))⟩))))
  rw [decide_eq_true h2]
  exact q
theorem sc_is_place : FnScope ["value"] ["value"] (defScope s_is_place) := ⟨rfl, rfl, rfl, by decide +kernel, rfl, by decide +kernel, by decide +kernel⟩
def S_is_place : SpT := fun ds t Q => ∃ v : Int, ds = [.int v] ∧ 0 ≤ v ∧ v < 4 ∧ Q t (.bl true)
theorem w_is_place (hd : HF K mg) : Fn P w K mg base 3 "is_place" [] S_is_place := by
  refine mkF hd.d_is_place sc_is_place (fun ds t Q h => by obtain ⟨_, rfl, _⟩ := h; rfl) (fun _ _ _ _ _ _ us hl => match us, hl with | [_], _ => rfl) fun f cdv A outer s H E hr ds t Q h => ?_
  obtain ⟨v, rfl, h1, h2, q⟩ := h
  refine xss_one (xs_ret (xe_call (w_is_within hd) (hr.mono (by decide)) (xa_cons (xv 0 rfl (xa_cons (xe_int (xa_cons (xe_sub (xe_gint hd.i_PLACES (xe_int (I2.mk (xa_nil (⟨_, _, _, rfl, h1, by omega, q⟩)))))))))))))
theorem sc_are_integers : FnScope ["value", "each"] ["value"] (defScope s_are_integers) := ⟨rfl, rfl, rfl, by decide +kernel, rfl, by decide +kernel, by decide +kernel⟩
def S_are_integers : SpT := fun ds t Q => ∃ (x : D) (ns : List Int), ds = [x] ∧ Sq x (ns.map D.int) ∧ ns.length ≤ 1000 ∧ Q t (.bl true)
theorem w_are_integers (hd : HF K mg) : Fn P w K mg base 2 "are_integers" [] S_are_integers := by
  refine mkF hd.d_are_integers sc_are_integers (fun ds t Q h => by obtain ⟨_, _, rfl, _⟩ := h; rfl) (fun _ _ _ _ _ _ us hl => match us, hl with | [_], _ => rfl) fun f cdv A outer s H E hr ds t Q h => ?_
  have hN := sc_are_integers.nd
  obtain ⟨x, ns, rfl, hx, hl, q⟩ := h
  have hT : IsLT K x true := by
    rcases hx with rfl | rfl
    · exact isLT_lst
    · exact isLT_tup
  refine xss_one (xs_ret (xe_and (xe_isiLT hd.f_isinstance hd.f_list hd.f_tuple (xv 0 rfl ⟨true, hT, true, rfl, fun _ => ?_, fun h => nomatch h⟩))))
  refine xe_one (xe_all rfl hd.f_all (xe_lc1 1 rfl hN (xi_sq (xv 0 rfl ⟨_, hx, by rw [List.length_map]; omega, fun i acc => acc = (List.replicate i true).map D.bl, rfl, fun acc ha => ?_, fun i d acc hi ha => ?_⟩)) (hb := rfl) (hg := fun _ _ _ _ _ => pg_name hN rfl (Or.inl rfl))))
  · exact ⟨List.replicate (ns.map D.int).length true, by rw [show acc = _ from ha], by rw [show (List.replicate (ns.map D.int).length true).all id = true from List.all_eq_true.mpr fun y hy => (List.mem_replicate.mp hy).2]; exact q⟩
  · intro s H C cl fp
    obtain ⟨n, _, rfl⟩ := List.mem_map.mp (List.mem_of_getElem? hi)
    refine xts_nil ⟨rfl, fun _ s H C cl fp => ?_, fun h => nomatch h⟩
    refine xe_call (w_is_integer hd) (hr.mono (by decide)) (xa_cons (xv 1 rfl (xa_nil ⟨n, rfl, rfl, ?_⟩)))
    show acc ++ [D.bl true] = (List.replicate (i + 1) true).map D.bl
    rw [show acc = (List.replicate i true).map D.bl from ha, List.replicate_succ', List.map_append]
    rfl
end
end BS

set_option Elab.async false
set_option linter.all false
set_option maxRecDepth 100000
set_option maxHeartbeats 4000000
/-! comprehensions that map and filter; the walks: forms, fours -/
namespace BS
open PySem PySem.Spec PyProof.Rows L2
theorem maps_at {α β : Type} {f : α → β} {L : List α} {i : Nat} {d : β} (h : (L.map f)[i]? = some d) : ∃ a, L[i]? = some a ∧ a ∈ L ∧ d = f a := by
  rw [List.getElem?_map] at h
  cases q : L[i]? with
  | none => rw [q] at h; cases h
  | some a => rw [q] at h; exact ⟨a, rfl, List.mem_of_getElem? q, (Option.some.inj h).symm⟩
theorem take_at {α : Type} {L : List α} {i : Nat} {a : α} (h : L[i]? = some a) : L.take (i + 1) = L.take i ++ [a] := by
  rw [List.take_succ, h]
  rfl
section
variable {X : Cx} {elt c iter : Expr} {ifs : List Expr} {t : Nat} {env : List Sl} {px pos p : Pos} {x y : Str}
/-- [elt for x in iter if ..], elt and the test plain functions of the items -/
theorem xe_lcF {scope : Scope} {α : Type} (L : List α) (f g : α → D) (pr : α → Bool) (j : Nat) {Qe : Nat → D → Prop} (hc : X.calm = true) (hN : X.N.Nodup)
    (h : XI X (.Name x px) iter t env fun t1 ds => ds = L.map f ∧ L.length ≤ 100000 ∧ Qe t1 (.lst ((L.filter pr).map g)) ∧
      ∀ a ∈ L, Blk X scope fun B => XTs B ifs t1 ((blkEnv env [j]).set j (.d (f a))) fun t2 b => t2 = t1 ∧ b = pr a ∧ (pr a = true → Blk X scope fun B2 => XE B2 elt t1 ((blkEnv env [j]).set j (.d (f a))) fun t3 y => t3 = t1 ∧ y = g a))
    (hb : blkC X.N X.env.scope scope [(x, j)] = true := by decide +kernel) (hg : ∀ (s : Shared) (H : Hp) (C : Addr) (cl : List (Str × Addr)) (fp : List Addr), PG (X.blk s H scope (compEnvC scope cl C X.env) fp) (.Name x px) (gName j))
    (hs : ∀ x, foldedSetIterable iter X.env x = pure x := by intro _; rfl) : XE X (.ListComp elt [⟨.Name x px, iter, ifs, 0⟩] scope pos) t env Qe := by
  refine xe_lc1 j hc hN ?_ hb hg hs
  refine fun J G0 H0 G H σ S pins s I => thn (h J G0 H0 G H σ S pins s I) fun v s1 h1 => thn h1 fun u s2 ⟨it, fp, tn, It, H1, e1, e2, e3, e4, e5, G1, t1, ds, sG, S1, ok, ed, hl, q, st⟩ => ⟨it, fp, tn, It, H1, e1, e2, e3, e4, e5, G1, t1, ds, sG, S1, ok, ?_⟩
  subst ed
  refine ⟨by rw [List.length_map]; exact hl, fun i acc => acc = ((L.take i).filter pr).map g, rfl, fun acc ha => ?_, fun i d acc hi ha s H C cl fp => ?_⟩
  · rw [show acc = _ from ha, List.length_map, List.take_length]
    exact q
  · obtain ⟨a, h1, h2, rfl⟩ := maps_at hi
    have hx : ∀ (b : Bool), pr a = b → acc ++ (if b = true then [g a] else []) = ((L.take (i + 1)).filter pr).map g := fun b hb => by
      rw [take_at h1, List.filter_append, List.map_append, show acc = _ from ha]
      cases b with
      | true => rw [List.filter_cons_of_pos (by rw [hb])] <;> rfl
      | false => rw [List.filter_cons_of_neg (by rw [hb]; exact Bool.false_ne_true)] <;> rfl
    refine fun J G0 H0 G H σ S => (st a h2 s _ C cl fp J G0 H0 G H σ S).mono fun b H' ⟨G', t', sG', S', et, eb, hq⟩ => ⟨G', t', sG', S', et, fun h3 s H C cl fp => ?_, fun h3 => ?_⟩
    · have h4 : pr a = true := by rw [← eb]; exact h3
      refine (hq h4 s H C cl fp).mono fun t3 y ⟨e3, e4⟩ => ⟨e3, ?_⟩
      rw [e4]
      exact hx true h4
    · have h4 : pr a = false := by rw [← eb]; exact h3
      have := hx false h4
      rw [if_neg Bool.false_ne_true, List.append_nil] at this
      exact this
/-- .. without a test -/
theorem xe_lcM {scope : Scope} {α : Type} (L : List α) (f g : α → D) (j : Nat) {Qe : Nat → D → Prop} (hc : X.calm = true) (hN : X.N.Nodup)
    (h : XI X (.Name x px) iter t env fun t1 ds => ds = L.map f ∧ L.length ≤ 100000 ∧ Qe t1 (.lst (L.map g)) ∧
      ∀ a ∈ L, Blk X scope fun B2 => XE B2 elt t1 ((blkEnv env [j]).set j (.d (f a))) fun t3 y => t3 = t1 ∧ y = g a)
    (hb : blkC X.N X.env.scope scope [(x, j)] = true := by decide +kernel) (hg : ∀ (s : Shared) (H : Hp) (C : Addr) (cl : List (Str × Addr)) (fp : List Addr), PG (X.blk s H scope (compEnvC scope cl C X.env) fp) (.Name x px) (gName j))
    (hs : ∀ x, foldedSetIterable iter X.env x = pure x := by intro _; rfl) : XE X (.ListComp elt [⟨.Name x px, iter, [], 0⟩] scope pos) t env Qe := by
  refine xe_lcF L f g (fun _ => true) j hc hN ?_ hb hg hs
  refine fun J G0 H0 G H σ S pins s I => thn (h J G0 H0 G H σ S pins s I) fun v s1 h1 => thn h1 fun u s2 ⟨it, fp, tn, It, H1, e1, e2, e3, e4, e5, G1, t1, ds, sG, S1, ok, ed, hl, q, st⟩ => ⟨it, fp, tn, It, H1, e1, e2, e3, e4, e5, G1, t1, ds, sG, S1, ok, ed, hl, ?_, fun a ha s H C cl fp => xts_nil ⟨rfl, rfl, fun _ => st a ha⟩⟩
  rw [List.filter_eq_self.mpr fun _ _ => rfl]
  exact q
/-- name = [elt for x in iter if ..] -/
theorem xs_setLcF {scope : Scope} {α : Type} (L : List α) (f g : α → D) (pr : α → Bool) (i j : Nat) {Q : Nat → List Sl → Prop} {R : Nat → List Sl → D → Prop} (hc : X.calm = true) (hN : X.N.Nodup)
    (h : XI X (.Name x px) iter t env fun t1 ds => ds = L.map f ∧ L.length ≤ 100000 ∧ Q t1 (env.set i (.d (.lst ((L.filter pr).map g)))) ∧
      ∀ a ∈ L, Blk X scope fun B => XTs B ifs t1 ((blkEnv env [j]).set j (.d (f a))) fun t2 b => t2 = t1 ∧ b = pr a ∧ (pr a = true → Blk X scope fun B2 => XE B2 elt t1 ((blkEnv env [j]).set j (.d (f a))) fun t3 y => t3 = t1 ∧ y = g a))
    {py : Pos} (hy : X.N[i]? = some y := by rfl) (hyl : X.env.scope.names.lookup y = some .local := by rfl) (hkd : X.env.scope.kind = .function := by rfl) (hln : (py.line == pos.line) = true := by rfl)
    (hay : (scope.names.any fun (n, k) => n == y && (k == .local || k == .cell)) = false := by decide +kernel)
    (hb : blkC X.N X.env.scope scope [(x, j)] = true := by decide +kernel) (hg : ∀ (s : Shared) (H : Hp) (C : Addr) (cl : List (Str × Addr)) (fp : List Addr), PG (X.blk s H scope (compEnvC scope cl C X.env) fp) (.Name x px) (gName j))
    (hs : ∀ x, foldedSetIterable iter X.env x = pure x := by intro _; rfl) : XS X (.Assign [.Name y py] (.ListComp elt [⟨.Name x px, iter, ifs, 0⟩] scope pos) p) t env Q R := by
  refine xs_setLc1 i j hc hN ?_ hy hyl hkd hln hay hb hg hs
  refine fun J G0 H0 G H σ S pins s I => thn (h J G0 H0 G H σ S pins s I) fun v s1 h1 => thn h1 fun u s2 ⟨it, fp, tn, It, H1, e1, e2, e3, e4, e5, G1, t1, ds, sG, S1, ok, ed, hl, q, st⟩ => ⟨it, fp, tn, It, H1, e1, e2, e3, e4, e5, G1, t1, ds, sG, S1, ok, ?_⟩
  subst ed
  refine ⟨by rw [List.length_map]; exact hl, fun i acc => acc = ((L.take i).filter pr).map g, rfl, fun acc ha => ?_, fun i d acc hi ha s H C cl fp => ?_⟩
  · rw [show acc = _ from ha, List.length_map, List.take_length]
    exact q
  · obtain ⟨a, h1, h2, rfl⟩ := maps_at hi
    have hx : ∀ (b : Bool), pr a = b → acc ++ (if b = true then [g a] else []) = ((L.take (i + 1)).filter pr).map g := fun b hb => by
      rw [take_at h1, List.filter_append, List.map_append, show acc = _ from ha]
      cases b with
      | true => rw [List.filter_cons_of_pos (by rw [hb])] <;> rfl
      | false => rw [List.filter_cons_of_neg (by rw [hb]; exact Bool.false_ne_true)] <;> rfl
    refine fun J G0 H0 G H σ S => (st a h2 s _ C cl fp J G0 H0 G H σ S).mono fun b H' ⟨G', t', sG', S', et, eb, hq⟩ => ⟨G', t', sG', S', et, fun h3 s H C cl fp => ?_, fun h3 => ?_⟩
    · have h4 : pr a = true := by rw [← eb]; exact h3
      refine (hq h4 s H C cl fp).mono fun t3 y ⟨e3, e4⟩ => ⟨e3, ?_⟩
      rw [e4]
      exact hx true h4
    · have h4 : pr a = false := by rw [← eb]; exact h3
      have := hx false h4
      rw [if_neg Bool.false_ne_true, List.append_nil] at this
      exact this
end
/-! ### plain functions -/
def gcd2 (a b : Int) : Int := ((Nat.gcd a.natAbs b.natAbs : Nat) : Int)
def gcdL (ns : List Int) : Int := ns.foldl gcd2 0
theorem gcdL_take {ns : List Int} {i : Nat} {n : Int} (h : ns[i]? = some n) : gcdL (ns.take (i + 1)) = gcd2 (gcdL (ns.take i)) n := by
  unfold gcdL
  rw [take_at h, List.foldl_append]
  rfl
theorem isqrt_sq (n : Nat) : Float64.isqrt (n * n) = n := by
  obtain ⟨h1, h2⟩ := Float64.isqrt_spec (n * n)
  have a := Nat.mul_self_le_mul_self_iff.mp h1
  have b := Nat.mul_self_lt_mul_self_iff.mp h2
  omega
section
variable {P : Program} {w : World} {K : PySem.W.Frag} {mg : Str → Option Value} {base : Heap}
theorem sc_need_number : FnScope ["value", "part", "least", "most"] ["value", "part", "least", "most"] (defScope s_need_number) := ⟨rfl, rfl, rfl, by decide +kernel, rfl, by decide +kernel, by decide +kernel⟩
def S_need_number : SpT := fun ds t Q => ∃ (v : Int) (s : Str) (l m : Int), ds = [.int v, .str s, .int l, .int m] ∧ l ≤ v ∧ v ≤ m ∧ Q t .non
theorem w_need_number (hd : HF K mg) : Fn P w K mg base 3 "need_number" [] S_need_number := by
  refine mkF hd.d_need_number sc_need_number (fun ds t Q h => by obtain ⟨_, _, _, _, rfl, _⟩ := h; rfl) (fun _ _ _ _ _ _ us hl => match us, hl with | [_, _, _, _], _ => rfl) fun f cdv A outer s H E hr ds t Q h => ?_
  obtain ⟨v, y, l, m, rfl, h1, h2, q⟩ := h
  refine xss_one (xs_if (xt_not (xt_val (xe_call (w_is_within hd) (hr.mono (by decide)) (xa_cons (xv 0 rfl (xa_cons (xv 2 rfl (xa_cons (xv 3 rfl (xa_nil (⟨_, _, _, rfl, h1, h2, ⟨_, rfl, ⟨nofun, fun h => ?_⟩⟩⟩))))))))))))
  exact xss_nil q
theorem sc_need_place : FnScope ["value"] ["value"] (defScope s_need_place) := ⟨rfl, rfl, rfl, by decide +kernel, rfl, by decide +kernel, by decide +kernel⟩
def S_need_place : SpT := fun ds t Q => ∃ v : Int, ds = [.int v] ∧ 0 ≤ v ∧ v < 4 ∧ Q t .non
theorem w_need_place (hd : HF K mg) : Fn P w K mg base 4 "need_place" [] S_need_place := by
  refine mkF hd.d_need_place sc_need_place (fun ds t Q h => by obtain ⟨_, rfl, _⟩ := h; rfl) (fun _ _ _ _ _ _ us hl => match us, hl with | [_], _ => rfl) fun f cdv A outer s H E hr ds t Q h => ?_
  obtain ⟨v, rfl, h1, h2, q⟩ := h
  refine xss_one (xs_if (xt_not (xt_val (xe_call (w_is_place hd) (hr.mono (by decide)) (xa_cons (xv 0 rfl (xa_nil (⟨_, rfl, h1, h2, ⟨_, rfl, ⟨nofun, fun h => ?_⟩⟩⟩))))))))
  exact xss_nil q
theorem sc_worth_of : FnScope ["numbers", "x", "y", "first", "half", "last"] ["numbers", "x", "y"] (defScope s_worth_of) := ⟨rfl, rfl, rfl, by decide +kernel, rfl, by decide +kernel, by decide +kernel⟩
def S_worth_of : SpT := fun ds t Q => ∃ a b c x y : Int, ds = [.tup [.int a, .int b, .int c], .int x, .int y] ∧ (x.natAbs < 2 ^ 60 ∧ y.natAbs < 2 ^ 60 ∧ b.natAbs < 2 ^ 60) ∧ Q t (.int (a * x * x + 2 * b * x * y + c * y * y))
theorem w_worth_of (hd : HF K mg) : Fn P w K mg base 1 "worth_of" [] S_worth_of := by
  refine mkF hd.d_worth_of sc_worth_of (fun ds t Q h => by obtain ⟨_, _, _, _, _, rfl, _⟩ := h; rfl) (fun _ _ _ _ _ _ us hl => match us, hl with | [_, _, _], _ => rfl) fun f cdv A outer s H E hr ds t Q h => ?_
  have hN := sc_worth_of.nd
  obtain ⟨a, b, c, x, y, rfl, ⟨hx, hy, hb⟩, q⟩ := h
  refine xss_cons (xs_asg (xv 0 rfl (xg_tup rfl (xgs_cons (xg_name 3 hN (xgs_cons (xg_name 4 hN (xgs_cons (xg_name 5 hN (xgs_nil ?_))))))))))
  refine xss_one (xs_ret (xe_add (xe_add (xe_mul (xe_mul (xv 3 rfl (xv 1 rfl (I2.mk ⟨by unfold CMul; omega, xv 1 rfl (I2.mk ⟨by unfold CMul; omega, xe_mul (xe_mul (xe_mul (xe_int (xv 4 rfl (I2.mk ⟨by unfold CMul; omega, xv 1 rfl (I2.mk ⟨by unfold CMul; omega, xv 2 rfl (I2.mk ⟨by unfold CMul; omega, I2.mk (xe_mul (xe_mul (xv 5 rfl (xv 2 rfl (I2.mk ⟨by unfold CMul; omega, xv 2 rfl (I2.mk ⟨by unfold CMul; omega, I2.mk ?_⟩)⟩)))))⟩)⟩)⟩)))))⟩)⟩))))))))
  exact q
theorem sc_measure : FnScope ["values", "found", "value"] ["values"] (defScope s_measure) := ⟨rfl, rfl, rfl, by decide +kernel, rfl, by decide +kernel, by decide +kernel⟩
def S_measure : SpT := fun ds t Q => ∃ (x : D) (ns : List Int), ds = [x] ∧ Sq x (ns.map D.int) ∧ Q t (.int (gcdL ns))
theorem w_measure (hd : HF K mg) : Fn P w K mg base 1 "measure" [] S_measure := by
  refine mkF hd.d_measure sc_measure (fun ds t Q h => by obtain ⟨_, _, rfl, _⟩ := h; rfl) (fun _ _ _ _ _ _ us hl => match us, hl with | [_], _ => rfl) fun f cdv A outer s H E hr ds t Q h => ?_
  have hN := sc_measure.nd
  obtain ⟨x, ns, rfl, hx, q⟩ := h
  refine xss_cons (xs_set 1 hN (xe_int ?_))
  refine xss_cons (xs_for PassesOwn.never rfl (xi_sq (xv 0 rfl (⟨_, hx, fun i t2 env => t2 = t ∧ ∃ s, env = [.d x, .d (.int (gcdL (ns.take i))), s], ⟨rfl, _, rfl⟩, ?_, ?_⟩))))
  · rintro i d t2 env hi ⟨rfl, z, rfl⟩
    obtain ⟨n, h1, _, rfl⟩ := maps_at hi
    refine xg_name 2 hN (xss_one (xs_set 1 hN (xe_gcd hd.g_gcd (xv 1 rfl (xv 2 rfl (I2.mk ⟨rfl, .d (.int n), ?_⟩))))))
    rw [gcdL_take h1]
    rfl
  · rintro t2 env ⟨rfl, z, rfl⟩
    refine xss_one (xs_ret (xv 1 rfl ?_))
    rw [List.length_map, List.take_length]
    exact q
theorem sc_root_of : FnScope ["number", "found"] ["number"] (defScope s_root_of) := ⟨rfl, rfl, rfl, by decide +kernel, rfl, by decide +kernel, by decide +kernel⟩
def S_root_of : SpT := fun ds t Q => ∃ (m : Int) (n : Nat), ds = [.int m] ∧ m = (n : Int) * n ∧ n < 2 ^ 31 ∧ Q t (.int n)
theorem w_root_of (hd : HF K mg) : Fn P w K mg base 1 "root_of" [] S_root_of := by
  refine mkF hd.d_root_of sc_root_of (fun ds t Q h => by obtain ⟨_, _, rfl, _⟩ := h; rfl) (fun _ _ _ _ _ _ us hl => match us, hl with | [_], _ => rfl) fun f cdv A outer s H E hr ds t Q h => ?_
  have hN := sc_root_of.nd
  obtain ⟨m, n, rfl, hm, hn, q⟩ := h
  have h0 : 0 ≤ m := by rw [hm]; exact Int.mul_nonneg (Int.natCast_nonneg _) (Int.natCast_nonneg _)
  have h1 : m < 2 ^ 64 := by
    have z : n * n < 2 ^ 31 * 2 ^ 31 := Nat.mul_lt_mul'' hn hn
    rw [hm, ← Int.natCast_mul]
    omega
  have h2 : m.toNat = n * n := by rw [hm, ← Int.natCast_mul, Int.toNat_natCast]
  refine xss_cons (xs_if (xt_lt (xv 0 rfl (xe_int (I2.mk (⟨fun h => absurd (of_decide_eq_true h) (by omega), fun h => ?_⟩))))))
  refine xss_nil ?_
  refine xss_cons (xs_set 1 hN (xe_isqrt hd.g_isqrt (xv 0 rfl (⟨_, rfl, h0, h1, ?_⟩))))
  rw [h2, isqrt_sq]
  refine xss_one (xs_ret (xe_if (xt_eq (xe_mul (xv 1 rfl (xv 1 rfl (I2.mk ⟨by unfold CMul; omega, xv 0 rfl (⟨_, _, rfl, rfl, rfl, ⟨fun h => xv 1 rfl q, fun h => absurd (by rw [hm]) (of_decide_eq_false h)⟩⟩)⟩)))))))
end
end BS

set_option Elab.async false
set_option linter.all false
set_option maxRecDepth 100000
set_option maxHeartbeats 4000000
/-! the walks: forms, fours, around -/
namespace BS
open PySem PySem.Spec PyProof.Rows L2
/-- three ints as a tuple; a Form, a Four -/
abbrev tI3 (a b c : Int) : D := .tup [.int a, .int b, .int c]
def tI (ns : List Int) : D := .tup (ns.map D.int)
def formD (K : PySem.W.Frag) (a b c : Int) (n : Nat) : D := .ins (He.ga K "Form") ["numbers", "side"] [tI3 a b c, .int n]
def fourD (K : PySem.W.Frag) (ns : List Int) : D := .ins (He.ga K "Four") ["bends", "total"] [.tup (ns.map D.int), .int ns.sum]
structure FormOk (a b c : Int) (n : Nat) : Prop where
  pa : 0 < a
  pc : 0 < c
  d : a * c - b * b = (n : Int) * n
  n0 : 0 < n
  n1 : n < 2 ^ 31
  ba : a < 2 ^ 60
  bb : b.natAbs < 2 ^ 60
  bc : c < 2 ^ 60
  g : gcdL [a, b, c] = 1
structure FourOk (ns : List Int) : Prop where
  len : ns.length = 4
  t : 2 * (ns.map fun b => b * b).sum = ns.sum * ns.sum
  s : 0 < ns.sum
  g : gcdL ns = 1
  b : ∀ x ∈ ns, x.natAbs < 2 ^ 40
theorem sum_abs : ∀ {ns : List Int} {B : Nat}, (∀ x ∈ ns, x.natAbs < B) → ns.sum.natAbs ≤ ns.length * B
  | [], _, _ => by simp
  | n :: ns, B, h => by
    have h1 := sum_abs (ns := ns) (B := B) fun x hx => h x (List.mem_cons_of_mem _ hx)
    have h2 := h n List.mem_cons_self
    rw [List.sum_cons, List.length_cons, Nat.succ_mul]
    omega
theorem FourOk.sum {ns : List Int} (h : FourOk ns) : ns.sum.natAbs ≤ 4 * 2 ^ 40 := by
  have := sum_abs h.b
  rw [h.len] at this
  exact this
section
variable {P : Program} {w : World} {K : PySem.W.Frag} {mg : Str → Option Value} {base : Heap}
theorem sc_need_numbers : FnScope ["numbers", "side", "first", "half", "last"] ["numbers"] (defScope s_need_numbers) := ⟨rfl, rfl, rfl, by decide +kernel, rfl, by decide +kernel, by decide +kernel⟩
def S_need_numbers : SpT := fun ds t Q => ∃ (a b c : Int) (n : Nat), ds = [tI3 a b c] ∧ FormOk a b c n ∧ Q t .non
theorem w_need_numbers (hd : HF K mg) : Fn P w K mg base 3 "need_numbers" [] S_need_numbers := by
  refine mkF hd.d_need_numbers sc_need_numbers (fun ds t Q h => by obtain ⟨_, _, _, _, rfl, _⟩ := h; rfl) (fun _ _ _ _ _ _ us hl => match us, hl with | [_], _ => rfl) fun f cdv A outer s H E hr ds t Q h => ?_
  have hN := sc_need_numbers.nd
  obtain ⟨a, b, c, n, rfl, ok, q⟩ := h
  have b1 := ok.ba
  have b2 := ok.bb
  have b3 := ok.bc
  have b4 := ok.pa
  have b5 := ok.pc
  have b6 := ok.n0
  refine xss_cons (xs_if (xt_not (xt_val (xe_call (w_are_integers hd) (hr.mono (by decide)) (xa_cons (xv 0 rfl (xa_nil (⟨_, [a, b, c], rfl, .inr rfl, Nat.le_of_ble_eq_true rfl, ⟨_, rfl, ⟨nofun, fun h => ?_⟩⟩⟩))))))))
  refine xss_nil ?_
  refine xss_cons (xs_asg (xv 0 rfl (xg_tup rfl (xgs_cons (xg_name 2 hN (xgs_cons (xg_name 3 hN (xgs_cons (xg_name 4 hN (xgs_nil ?_))))))))))
  refine xss_cons (xs_if (xt_w (xw_or (xt_le (xv 2 rfl (xe_int (I2.mk (⟨fun h => absurd (of_decide_eq_true h) (by omega), fun h => xw_or1 (xt_le (xv 4 rfl (xe_int (I2.mk (⟨fun h => absurd (of_decide_eq_true h) (by omega), fun h => ?_⟩)))))⟩))))))))
  refine xss_nil ?_
  refine xss_cons (xs_set 1 hN (xe_call (w_root_of hd) (hr.mono (by decide)) (xa_cons (xe_sub (xe_mul (xv 2 rfl (xv 4 rfl (I2.mk ⟨by unfold CMul; omega, xe_mul (xv 3 rfl (xv 3 rfl (I2.mk ⟨by unfold CMul; omega, I2.mk (xa_nil (⟨_, n, rfl, ok.d, ok.n1, ?_⟩))⟩)))⟩))))))))
  refine xss_cons (xs_if (xt_w (xw_or (xt_isN (xv 1 rfl (⟨nofun, fun h => xw_or1 (xt_eq (xv 1 rfl (xe_int (⟨_, _, rfl, rfl, rfl, ⟨fun h => ?_, fun h => ?_⟩⟩))))⟩))))))
  · have h1 := V.int.inj (of_decide_eq_true h)
    omega
  refine xss_nil ?_
  refine xss_one (xs_if (xt_gt (xe_call (w_measure hd) (hr.mono (by decide)) (xa_cons (xv 0 rfl (xa_nil (⟨_, [a, b, c], rfl, .inr rfl, xe_int (I2.mk (⟨fun h => ?_, fun h => ?_⟩))⟩)))))))
  · have h1 := of_decide_eq_true h
    rw [ok.g] at h1
    omega
  exact xss_nil q
theorem own_Form (hd : HF K mg) : OwnC K (He.ga K "Form") := ⟨hd.c_Form, hd.a_Form, hd.gs1, hd.gs2, hd.o_Form⟩
theorem own_Four (hd : HF K mg) : OwnC K (He.ga K "Four") := ⟨hd.c_Four, hd.a_Four, hd.gs1, hd.gs2, hd.o_Four⟩
theorem sc_need_form : FnScope ["value", "part"] ["value", "part"] (defScope s_need_form) := ⟨rfl, rfl, rfl, by decide +kernel, rfl, by decide +kernel, by decide +kernel⟩
def S_need_form (K : PySem.W.Frag) : SpT := fun ds t Q => ∃ (a b c : Int) (n : Nat) (y : Str), ds = [formD K a b c n, .str y] ∧ Q t .non
theorem w_need_form (hd : HF K mg) : Fn P w K mg base 1 "need_form" [.str "form"] (S_need_form K) := by
  refine mkF1 hd.d_need_form sc_need_form (fun ds t Q h => by obtain ⟨_, _, _, _, _, rfl, _⟩ := h; rfl) rfl (fun T kV doc pm an cdv ct us its hu hi => match us, its, hu, hi with | [_], [_], _, _ => ⟨_, rfl, rfl⟩) fun f cdv A outer s H E hr ds t Q h => ?_
  obtain ⟨a, b, c, n, y, rfl, q⟩ := h
  refine xss_one (xs_if (xt_not (xt_val (xe_isiC (own_Form hd) hd.f_isinstance hd.m_Form (xv 0 rfl (⟨⟨_, _, rfl⟩, _, rfl, ⟨nofun, fun h => ?_⟩⟩))))))
  exact xss_nil q
theorem sc_need_four : FnScope ["value", "part"] ["value", "part"] (defScope s_need_four) := ⟨rfl, rfl, rfl, by decide +kernel, rfl, by decide +kernel, by decide +kernel⟩
def S_need_four (K : PySem.W.Frag) : SpT := fun ds t Q => ∃ (ns : List Int) (y : Str), ds = [fourD K ns, .str y] ∧ Q t .non
theorem w_need_four (hd : HF K mg) : Fn P w K mg base 1 "need_four" [.str "four"] (S_need_four K) := by
  refine mkF1 hd.d_need_four sc_need_four (fun ds t Q h => by obtain ⟨_, _, rfl, _⟩ := h; rfl) rfl (fun T kV doc pm an cdv ct us its hu hi => match us, its, hu, hi with | [_], [_], _, _ => ⟨_, rfl, rfl⟩) fun f cdv A outer s H E hr ds t Q h => ?_
  obtain ⟨ns, y, rfl, q⟩ := h
  refine xss_one (xs_if (xt_not (xt_val (xe_isiC (own_Four hd) hd.f_isinstance hd.m_Four (xv 0 rfl (⟨⟨_, _, rfl⟩, _, rfl, ⟨nofun, fun h => ?_⟩⟩))))))
  exact xss_nil q
theorem sc_Form_init : FnScope ["self", "first", "half", "last"] ["self", "first", "half", "last"] (defScope s_Form_init) := ⟨rfl, rfl, rfl, by decide +kernel, rfl, by decide +kernel, by decide +kernel⟩
def S_Form_init : List D → Nat → (Nat → List Str → List D → Prop) → Prop := fun ds t Q => ∃ (a b c : Int) (n : Nat), ds = [.int a, .int b, .int c] ∧ FormOk a b c n ∧ Q t ["numbers", "side"] [tI3 a b c, .int n]
theorem w_Form_init (hd : HF K mg) : Cl P w K mg base 4 "Form" (He.ga K "Form") S_Form_init := by
  refine mkI hd.d_Form_init sc_Form_init (fun ds t Q h => by obtain ⟨_, _, _, _, rfl, _⟩ := h; rfl) (fun _ _ _ _ _ _ us hl => match us, hl with | [_, _, _, _], _ => rfl) fun f cdv A outer s H E hr x ds t Q h => ?_
  have hN := sc_Form_init.nd
  obtain ⟨a, b, c, n, rfl, ok, q⟩ := h
  have b1 := ok.ba
  have b2 := ok.bb
  have b3 := ok.bc
  have b4 := ok.pa
  have b5 := ok.pc
  refine xss_cons (xs_expr (xe_call (w_need_numbers hd) (hr.mono (by decide)) (xa_cons (xe_tup (xa_cons (xv 1 rfl (xa_cons (xv 2 rfl (xa_cons (xv 3 rfl (xa_nil (⟨Nat.le_of_ble_eq_true rfl, xa_nil (⟨a, b, c, n, rfl, ok, ?_⟩)⟩))))))))))))
  refine xss_cons (xs_fld (ao := none) 0 rfl hd.c_Form hd.n_Form_numbers (by decide) (by decide) (xe_tup (xa_cons (xv 1 rfl (xa_cons (xv 2 rfl (xa_cons (xv 3 rfl (xa_nil (⟨Nat.le_of_ble_eq_true rfl, ?_⟩))))))))))
  refine xss_one (xs_fld (ao := none) 0 rfl hd.c_Form hd.n_Form_side (by decide) (by decide) (xe_call (w_root_of hd) (hr.mono (by decide)) (xa_cons (xe_sub (xe_mul (xv 1 rfl (xv 3 rfl (I2.mk ⟨by unfold CMul; omega, xe_mul (xv 2 rfl (xv 2 rfl (I2.mk ⟨by unfold CMul; omega, I2.mk (xa_nil (⟨_, n, rfl, ok.d, ok.n1, ?_⟩))⟩)))⟩))))))))
  exact ⟨_, _, rfl, q⟩
theorem sc_need_bends : FnScope ["bends", "total", "bend"] ["bends"] (defScope s_need_bends) := ⟨rfl, rfl, rfl, by decide +kernel, rfl, by decide +kernel, by decide +kernel⟩
def S_need_bends : SpT := fun ds t Q => ∃ (x : D) (ns : List Int), ds = [x] ∧ Sq x (ns.map D.int) ∧ FourOk ns ∧ Q t .non
theorem w_need_bends (hd : HF K mg) : Fn P w K mg base 3 "need_bends" [] S_need_bends := by
  refine mkF hd.d_need_bends sc_need_bends (fun ds t Q h => by obtain ⟨_, _, rfl, _⟩ := h; rfl) (fun _ _ _ _ _ _ us hl => match us, hl with | [_], _ => rfl) fun f cdv A outer s H E hr ds t Q h => ?_
  have hN := sc_need_bends.nd
  obtain ⟨x, ns, rfl, hx, ok, q⟩ := h
  have hs := ok.sum
  refine xss_cons (xs_if (xt_w (xw_or (xt_not (xt_val (xe_call (w_are_integers hd) (hr.mono (by decide)) (xa_cons (xv 0 rfl (xa_nil (⟨_, ns, rfl, hx, by rw [ok.len]; decide, ⟨_, rfl, ⟨nofun, fun h => xw_or1 (xt_ne (xe_len hd.f_len (xv 0 rfl (⟨_, hx, xe_gint hd.i_PLACES (⟨_, _, rfl, rfl, rfl, ⟨fun h => ?_, fun h => ?_⟩⟩)⟩))))⟩⟩⟩))))))))))
  · rw [List.length_map, ok.len] at h
    cases h
  refine xss_nil ?_
  refine xss_cons (xs_set 1 hN (xe_sum rfl hd.f_sum (xv 0 rfl (⟨ns, hx, ?_⟩))))
  refine xss_cons (xs_if (xt_ne (xe_mul (xe_int (xe_sum rfl hd.f_sum (xe_lcM ns D.int (fun b => D.int (b * b)) 2 rfl hN (xi_sq (xv 0 rfl ⟨_, hx, rfl, by rw [ok.len]; decide, ⟨ns.map fun b => b * b, .inl (by rw [List.map_map]; rfl), I2.mk ⟨by unfold CMul; omega, xe_mul (xv 1 rfl (xv 1 rfl (I2.mk ⟨by unfold CMul; omega, ⟨_, _, rfl, rfl, rfl, ⟨fun h => ?_, fun h => ?_⟩⟩⟩)))⟩⟩, fun b hb s H C cl fp => ?_⟩)) (hb := rfl) (hg := fun _ _ _ _ _ => pg_name hN rfl (Or.inl rfl))))))))
  · rw [show decide (V.int (2 * (ns.map fun b => b * b).sum) = V.int (ns.sum * ns.sum)) = true from decide_eq_true (by rw [ok.t])] at h
    cases h
  · refine xss_nil ?_
    refine xss_cons (xs_if (xt_le (xv 1 rfl (xe_int (I2.mk (⟨fun h => absurd (of_decide_eq_true h) (by have := ok.s; omega), fun h => ?_⟩))))))
    refine xss_nil ?_
    refine xss_one (xs_if (xt_gt (xe_call (w_measure hd) (hr.mono (by decide)) (xa_cons (xv 0 rfl (xa_nil (⟨_, ns, rfl, hx, xe_int (I2.mk (⟨fun h => ?_, fun h => ?_⟩))⟩)))))))
    · have h1 := of_decide_eq_true h
      rw [ok.g] at h1
      omega
    exact xss_nil q
  · have := ok.b b hb
    exact xe_mul (xv 2 rfl (xv 2 rfl (I2.mk ⟨by unfold CMul; omega, rfl, rfl⟩)))
theorem sc_Four_init : FnScope ["self", "bends"] ["self", "bends"] (defScope s_Four_init) := ⟨rfl, rfl, rfl, by decide +kernel, rfl, by decide +kernel, by decide +kernel⟩
def S_Four_init : List D → Nat → (Nat → List Str → List D → Prop) → Prop := fun ds t Q => ∃ (x : D) (ns : List Int), ds = [x] ∧ Sq x (ns.map D.int) ∧ FourOk ns ∧ Q t ["bends", "total"] [.tup (ns.map D.int), .int ns.sum]
theorem w_Four_init (hd : HF K mg) : Cl P w K mg base 4 "Four" (He.ga K "Four") S_Four_init := by
  refine mkI hd.d_Four_init sc_Four_init (fun ds t Q h => by obtain ⟨_, _, rfl, _⟩ := h; rfl) (fun _ _ _ _ _ _ us hl => match us, hl with | [_, _], _ => rfl) fun f cdv A outer s H E hr x ds t Q h => ?_
  have hN := sc_Four_init.nd
  obtain ⟨x, ns, rfl, hx, ok, q⟩ := h
  refine xss_cons (xs_expr (xe_call (w_need_bends hd) (hr.mono (by decide)) (xa_cons (xv 1 rfl (xa_nil (⟨_, ns, rfl, hx, ok, ?_⟩))))))
  refine xss_cons (xs_fld (ao := none) 0 rfl hd.c_Four hd.n_Four_bends (by decide) (by decide) (xe_tuple hd.f_tuple (xv 1 rfl (⟨_, hx, ?_⟩))))
  refine xss_one (xs_fld (ao := none) 0 rfl hd.c_Four hd.n_Four_total (by decide) (by decide) (xe_sum rfl hd.f_sum (xv 1 rfl (⟨_, hx, ?_⟩))))
  exact ⟨_, _, rfl, q⟩
end
end BS

set_option Elab.async false
set_option linter.all false
set_option maxRecDepth 100000
set_option maxHeartbeats 4000000
/-! the walks: around, least forms -/
namespace BS
open PySem PySem.Spec PyProof.Rows L2
section
variable {X : Cx} {es : List Expr} {t : Nat} {env : List Sl} {pos : Pos}
theorem xg_lst {k : Nat} {ds : List D} {Qe : List Sl → Prop} (hc : X.calm = true) (h : XGs X es t env ds Qe) (hl : (assignEach es X.env).length = ds.length := by rfl) (hst : (assignEach es X.env).findIdx? (·.1) = none := by rfl) : XG X (.Tuple es k pos) t env (.lst ds) Qe := fun J G0 H0 G H σ v S r => by
  obtain ⟨a, xs, e1, h1, h2⟩ := r
  exact WG.of (pg_lst (n := ds.length) hc pgs_w hl hst) ⟨a, xs, e1, SqL.of (S.sub _ _ h1), h2.length, h J G0 H0 G H σ xs S h2⟩
end
def oth (p : Int) : List Nat := (List.range 4).filter fun k => !decide (V.int (0 + (k : Int)) = V.int p)
def numsAt (a b c d p : Int) : Int × Int × Int := if p = 0 then (a + b, (a + b + c - d) / 2, a + c) else if p = 1 then (b + a, (b + a + c - d) / 2, b + c) else if p = 2 then (c + a, (c + a + b - d) / 2, c + b) else (d + a, (d + a + b - c) / 2, d + b)
def bendAt (a b c d p : Int) : Int := if p = 0 then a else if p = 1 then b else if p = 2 then c else d
section
variable {P : Program} {w : World} {K : PySem.W.Frag} {mg : Str → Option Value} {base : Heap}
theorem sc_others_of : FnScope ["place", "other"] ["place"] (defScope s_others_of) := ⟨rfl, rfl, rfl, by decide +kernel, rfl, by decide +kernel, by decide +kernel⟩
def S_others_of : SpT := fun ds t Q => ∃ p : Int, ds = [.int p] ∧ Q t (.lst ((oth p).map fun k : Nat => D.int (0 + (k : Int))))
theorem w_others_of (hd : HF K mg) : Fn P w K mg base 1 "others_of" [] S_others_of := by
  refine mkF hd.d_others_of sc_others_of (fun ds t Q h => by obtain ⟨_, rfl, _⟩ := h; rfl) (fun _ _ _ _ _ _ us hl => match us, hl with | [_], _ => rfl) fun f cdv A outer s H E hr ds t Q h => ?_
  have hN := sc_others_of.nd
  obtain ⟨p, rfl, q⟩ := h
  refine xss_one (xs_ret (xe_lcF (List.range 4) (fun k : Nat => D.int (0 + (k : Int))) (fun k : Nat => D.int (0 + (k : Int))) (fun k : Nat => !decide (V.int (0 + (k : Int)) = V.int p)) 1 rfl hN
    (xi_rg1 hd.f_range (xe_gint hd.i_PLACES ⟨4, rfl, by decide, rfl, by decide, q, fun k hk s H C cl fp => ?_⟩)) (hb := rfl) (hg := fun _ _ _ _ _ => pg_name hN rfl (Or.inl rfl))))
  exact xts_one (xt_ne (xv 1 rfl (xv 0 rfl ⟨_, _, rfl, rfl, rfl, rfl, rfl, fun _ s H C cl fp => xv 1 rfl ⟨rfl, rfl⟩⟩)))
theorem sc_numbers_at : FnScope ["bends", "place", "here", "one", "other", "last", "spot"] ["bends", "place"] (defScope s_numbers_at) := ⟨rfl, rfl, rfl, by decide +kernel, rfl, by decide +kernel, by decide +kernel⟩
def S_numbers_at : SpT := fun ds t Q => ∃ a b c d p : Int, ds = [.tup [.int a, .int b, .int c, .int d], .int p] ∧ 0 ≤ p ∧ p < 4 ∧ Q t (tI3 (numsAt a b c d p).1 (numsAt a b c d p).2.1 (numsAt a b c d p).2.2)
theorem w_numbers_at (hd : HF K mg) : Fn P w K mg base 2 "numbers_at" [] S_numbers_at := by
  refine mkF hd.d_numbers_at sc_numbers_at (fun ds t Q h => by obtain ⟨_, _, _, _, _, rfl, _⟩ := h; rfl) (fun _ _ _ _ _ _ us hl => match us, hl with | [_, _], _ => rfl) fun f cdv A outer s H E hr ds t Q h => ?_
  have hN := sc_numbers_at.nd
  obtain ⟨a, b, c, d, p, rfl, h0, h4, q⟩ := h
  obtain rfl | rfl | rfl | rfl : p = 0 ∨ p = 1 ∨ p = 2 ∨ p = 3 := by omega
  · refine xss_cons (xs_set 2 hN (xe_ix (fun _ _ => rfl) (xv 0 rfl (xv 1 rfl (⟨_, _, _, .inr rfl, rfl, by decide, rfl, ?_⟩)))))
    refine xss_cons (xs_asg (xe_lcM [1, 2, 3] (fun k : Nat => D.int (0 + (k : Int))) (fun k : Nat => D.int ([a, b, c, d].getD k 0)) 6 rfl hN (xi_lst (xe_call (w_others_of hd) (hr.mono (by decide)) (xa_cons (xv 1 rfl (xa_nil ⟨_, rfl, _, rfl, rfl, by decide, xg_lst rfl (xgs_cons (xg_name 3 hN (xgs_cons (xg_name 4 hN (xgs_cons (xg_name 5 hN (xgs_nil ?_))))))), fun k hk s H C cl fp => ?_⟩))))) (hb := rfl) (hg := fun _ _ _ _ _ => pg_name hN rfl (Or.inl rfl))))
    · refine xss_one (xs_ret (xe_tup (xa_cons (xe_add (xv 2 rfl (xv 3 rfl (I2.mk (xa_cons (xe_fdiv (xe_sub (xe_add (xe_add (xv 2 rfl (xv 3 rfl (I2.mk (xv 4 rfl (I2.mk (xv 5 rfl (I2.mk (xe_int (I2.mk ⟨by unfold CDiv; omega, xa_cons (xe_add (xv 2 rfl (xv 4 rfl (I2.mk (xa_nil (⟨Nat.le_of_ble_eq_true rfl, ?_⟩))))))⟩)))))))))))))))))))))
      exact q
    · have : k = 1 ∨ k = 2 ∨ k = 3 := by simpa using hk
      rcases this with rfl | rfl | rfl <;> exact xe_ix (fun _ _ => rfl) (xv 0 rfl (xv 6 rfl (⟨_, _, _, .inr rfl, rfl, by decide, rfl, rfl, rfl⟩)))
  · refine xss_cons (xs_set 2 hN (xe_ix (fun _ _ => rfl) (xv 0 rfl (xv 1 rfl (⟨_, _, _, .inr rfl, rfl, by decide, rfl, ?_⟩)))))
    refine xss_cons (xs_asg (xe_lcM [0, 2, 3] (fun k : Nat => D.int (0 + (k : Int))) (fun k : Nat => D.int ([a, b, c, d].getD k 0)) 6 rfl hN (xi_lst (xe_call (w_others_of hd) (hr.mono (by decide)) (xa_cons (xv 1 rfl (xa_nil ⟨_, rfl, _, rfl, rfl, by decide, xg_lst rfl (xgs_cons (xg_name 3 hN (xgs_cons (xg_name 4 hN (xgs_cons (xg_name 5 hN (xgs_nil ?_))))))), fun k hk s H C cl fp => ?_⟩))))) (hb := rfl) (hg := fun _ _ _ _ _ => pg_name hN rfl (Or.inl rfl))))
    · refine xss_one (xs_ret (xe_tup (xa_cons (xe_add (xv 2 rfl (xv 3 rfl (I2.mk (xa_cons (xe_fdiv (xe_sub (xe_add (xe_add (xv 2 rfl (xv 3 rfl (I2.mk (xv 4 rfl (I2.mk (xv 5 rfl (I2.mk (xe_int (I2.mk ⟨by unfold CDiv; omega, xa_cons (xe_add (xv 2 rfl (xv 4 rfl (I2.mk (xa_nil (⟨Nat.le_of_ble_eq_true rfl, ?_⟩))))))⟩)))))))))))))))))))))
      exact q
    · have : k = 0 ∨ k = 2 ∨ k = 3 := by simpa using hk
      rcases this with rfl | rfl | rfl <;> exact xe_ix (fun _ _ => rfl) (xv 0 rfl (xv 6 rfl (⟨_, _, _, .inr rfl, rfl, by decide, rfl, rfl, rfl⟩)))
  · refine xss_cons (xs_set 2 hN (xe_ix (fun _ _ => rfl) (xv 0 rfl (xv 1 rfl (⟨_, _, _, .inr rfl, rfl, by decide, rfl, ?_⟩)))))
    refine xss_cons (xs_asg (xe_lcM [0, 1, 3] (fun k : Nat => D.int (0 + (k : Int))) (fun k : Nat => D.int ([a, b, c, d].getD k 0)) 6 rfl hN (xi_lst (xe_call (w_others_of hd) (hr.mono (by decide)) (xa_cons (xv 1 rfl (xa_nil ⟨_, rfl, _, rfl, rfl, by decide, xg_lst rfl (xgs_cons (xg_name 3 hN (xgs_cons (xg_name 4 hN (xgs_cons (xg_name 5 hN (xgs_nil ?_))))))), fun k hk s H C cl fp => ?_⟩))))) (hb := rfl) (hg := fun _ _ _ _ _ => pg_name hN rfl (Or.inl rfl))))
    · refine xss_one (xs_ret (xe_tup (xa_cons (xe_add (xv 2 rfl (xv 3 rfl (I2.mk (xa_cons (xe_fdiv (xe_sub (xe_add (xe_add (xv 2 rfl (xv 3 rfl (I2.mk (xv 4 rfl (I2.mk (xv 5 rfl (I2.mk (xe_int (I2.mk ⟨by unfold CDiv; omega, xa_cons (xe_add (xv 2 rfl (xv 4 rfl (I2.mk (xa_nil (⟨Nat.le_of_ble_eq_true rfl, ?_⟩))))))⟩)))))))))))))))))))))
      exact q
    · have : k = 0 ∨ k = 1 ∨ k = 3 := by simpa using hk
      rcases this with rfl | rfl | rfl <;> exact xe_ix (fun _ _ => rfl) (xv 0 rfl (xv 6 rfl (⟨_, _, _, .inr rfl, rfl, by decide, rfl, rfl, rfl⟩)))
  · refine xss_cons (xs_set 2 hN (xe_ix (fun _ _ => rfl) (xv 0 rfl (xv 1 rfl (⟨_, _, _, .inr rfl, rfl, by decide, rfl, ?_⟩)))))
    refine xss_cons (xs_asg (xe_lcM [0, 1, 2] (fun k : Nat => D.int (0 + (k : Int))) (fun k : Nat => D.int ([a, b, c, d].getD k 0)) 6 rfl hN (xi_lst (xe_call (w_others_of hd) (hr.mono (by decide)) (xa_cons (xv 1 rfl (xa_nil ⟨_, rfl, _, rfl, rfl, by decide, xg_lst rfl (xgs_cons (xg_name 3 hN (xgs_cons (xg_name 4 hN (xgs_cons (xg_name 5 hN (xgs_nil ?_))))))), fun k hk s H C cl fp => ?_⟩))))) (hb := rfl) (hg := fun _ _ _ _ _ => pg_name hN rfl (Or.inl rfl))))
    · refine xss_one (xs_ret (xe_tup (xa_cons (xe_add (xv 2 rfl (xv 3 rfl (I2.mk (xa_cons (xe_fdiv (xe_sub (xe_add (xe_add (xv 2 rfl (xv 3 rfl (I2.mk (xv 4 rfl (I2.mk (xv 5 rfl (I2.mk (xe_int (I2.mk ⟨by unfold CDiv; omega, xa_cons (xe_add (xv 2 rfl (xv 4 rfl (I2.mk (xa_nil (⟨Nat.le_of_ble_eq_true rfl, ?_⟩))))))⟩)))))))))))))))))))))
      exact q
    · have : k = 0 ∨ k = 1 ∨ k = 2 := by simpa using hk
      rcases this with rfl | rfl | rfl <;> exact xe_ix (fun _ _ => rfl) (xv 0 rfl (xv 6 rfl (⟨_, _, _, .inr rfl, rfl, by decide, rfl, rfl, rfl⟩)))
theorem sc_bends_from : FnScope ["numbers", "bend", "first", "half", "last"] ["numbers", "bend"] (defScope s_bends_from) := ⟨rfl, rfl, rfl, by decide +kernel, rfl, by decide +kernel, by decide +kernel⟩
def S_bends_from : SpT := fun ds t Q => ∃ a b c n : Int, ds = [tI3 a b c, .int n] ∧ Q t (.tup [.int n, .int (a - n), .int (c - n), .int (a + c - 2 * b - n)])
theorem w_bends_from (hd : HF K mg) : Fn P w K mg base 1 "bends_from" [] S_bends_from := by
  refine mkF hd.d_bends_from sc_bends_from (fun ds t Q h => by obtain ⟨_, _, _, _, rfl, _⟩ := h; rfl) (fun _ _ _ _ _ _ us hl => match us, hl with | [_, _], _ => rfl) fun f cdv A outer s H E hr ds t Q h => ?_
  have hN := sc_bends_from.nd
  obtain ⟨a, b, c, n, rfl, q⟩ := h
  refine xss_cons (xs_asg (xv 0 rfl (xg_tup rfl (xgs_cons (xg_name 2 hN (xgs_cons (xg_name 3 hN (xgs_cons (xg_name 4 hN (xgs_nil ?_))))))))))
  refine xss_one (xs_ret (xe_tup (xa_cons (xv 1 rfl (xa_cons (xe_sub (xv 2 rfl (xv 1 rfl (I2.mk (xa_cons (xe_sub (xv 4 rfl (xv 1 rfl (I2.mk (xa_cons (xe_sub (xe_sub (xe_add (xv 2 rfl (xv 4 rfl (I2.mk (xe_mul (xe_int (xv 3 rfl (I2.mk ⟨by unfold CMul; omega, I2.mk (xv 1 rfl (I2.mk (xa_nil (⟨Nat.le_of_ble_eq_true rfl, ?_⟩))))⟩)))))))))))))))))))))))))
  exact q
theorem sc_need_bent : FnScope ["four", "place"] ["four", "place"] (defScope s_need_bent) := ⟨rfl, rfl, rfl, by decide +kernel, rfl, by decide +kernel, by decide +kernel⟩
def S_need_bent (K : PySem.W.Frag) : SpT := fun ds t Q => ∃ (ns : List Int) (p : Int), ds = [fourD K ns, .int p] ∧ 0 ≤ p ∧ p < 4 ∧ Q t .non
theorem w_need_bent (hd : HF K mg) : Fn P w K mg base 5 "need_bent" [] (S_need_bent K) := by
  refine mkF hd.d_need_bent sc_need_bent (fun ds t Q h => by obtain ⟨_, _, rfl, _⟩ := h; rfl) (fun _ _ _ _ _ _ us hl => match us, hl with | [_, _], _ => rfl) fun f cdv A outer s H E hr ds t Q h => ?_
  have hN := sc_need_bent.nd
  obtain ⟨ns, p, rfl, h0, h4, q⟩ := h
  refine xss_cons (xs_expr (xe_call (w_need_four hd) (hr.mono (by decide)) (xa_cons (xv 0 rfl (xa_nil (⟨_, _, rfl, ?_⟩))))))
  refine xss_one (xs_expr (xe_call (w_need_place hd) (hr.mono (by decide)) (xa_cons (xv 1 rfl (xa_nil (⟨_, rfl, h0, h4, q⟩))))))
theorem sc_need_round : FnScope ["four", "place"] ["four", "place"] (defScope s_need_round) := ⟨rfl, rfl, rfl, by decide +kernel, rfl, by decide +kernel, by decide +kernel⟩
def S_need_round (K : PySem.W.Frag) : SpT := fun ds t Q => ∃ (ns : List Int) (p n : Int), ds = [fourD K ns, .int p] ∧ 0 ≤ p ∧ ns[p.toNat]? = some n ∧ n ≠ 0 ∧ Q t .non
theorem w_need_round (hd : HF K mg) : Fn P w K mg base 1 "need_round" [] (S_need_round K) := by
  refine mkF hd.d_need_round sc_need_round (fun ds t Q h => by obtain ⟨_, _, _, rfl, _⟩ := h; rfl) (fun _ _ _ _ _ _ us hl => match us, hl with | [_, _], _ => rfl) fun f cdv A outer s H E hr ds t Q h => ?_
  have hN := sc_need_round.nd
  obtain ⟨ns, p, n, rfl, h0, hn, hz, q⟩ := h
  have hm : (ns.map D.int)[p.toNat]? = some (.int n) := by rw [List.getElem?_map, hn]; rfl
  refine xss_one (xs_if (xt_eq (xe_ix (fun _ _ => rfl) (xe_fld 0 hd.c_Four hd.n_Four_bends (xv 0 rfl (⟨_, _, _, rfl, rfl, nofun, rfl, xv 1 rfl (⟨_, _, _, .inr rfl, rfl, h0, hm, xe_int (⟨_, _, rfl, rfl, rfl, ⟨fun h => ?_, fun h => ?_⟩⟩)⟩)⟩))))))
  · exact absurd (V.int.inj (of_decide_eq_true h)) hz
  exact xss_nil q
end
end BS

set_option Elab.async false
set_option linter.all false
set_option maxRecDepth 100000
set_option maxHeartbeats 4000000
/-! the walks: form_at, four_from; least forms -/
namespace BS
open PySem PySem.Spec PyProof.Rows L2
def Red (a b c : Int) : Prop := 0 < a ∧ -a < 2 * b ∧ 2 * b ≤ a ∧ (a < c ∨ (a = c ∧ 0 ≤ b))
/-- a b c by the change p q r s from f h l, of determinant 1 -/
structure Act (f h l a b c p q r s : Int) : Prop where
  ea : a = f * p * p + 2 * h * p * r + l * r * r
  eb : b = f * p * q + h * (p * s + q * r) + l * r * s
  ec : c = f * q * q + 2 * h * q * s + l * s * s
  det : p * s - q * r = 1
theorem Act.id (f h l : Int) : Act f h l f h l 1 0 0 1 := ⟨by grind, by grind, by grind, by grind⟩
theorem Act.shift {f h l a b c p q r s : Int} (A : Act f h l a b c p q r s) (k : Int) : Act f h l a (b + k * a) (c + 2 * k * b + k * k * a) p (q + k * p) r (s + k * r) := by
  obtain ⟨ea, eb, ec, det⟩ := A
  exact ⟨ea, by subst ea eb; grind, by subst ea eb ec; grind, by grind⟩
theorem Act.swap {f h l a b c p q r s : Int} (A : Act f h l a b c p q r s) : Act f h l c (-b) a q (-p) s (-r) := by
  obtain ⟨ea, eb, ec, det⟩ := A
  exact ⟨by subst ec; grind, by subst eb; grind, by subst ea; grind, by grind⟩
theorem Act.disc {f h l a b c p q r s : Int} (A : Act f h l a b c p q r s) : a * c - b * b = f * l - h * h := by
  obtain ⟨ea, eb, ec, det⟩ := A
  have e : a * c - b * b = (f * l - h * h) * ((p * s - q * r) * (p * s - q * r)) := by subst ea eb ec; grind
  rw [e, det]
  grind
theorem pos_of_disc {a b c D : Int} (h : a * c - b * b = D) (hD : 0 < D) (ha : 0 < a) : 0 < c := by
  have h1 : 0 ≤ b * b := by
    rcases Int.le_total 0 b with z | z
    · exact Int.mul_nonneg z z
    · exact Int.mul_nonneg_of_nonpos_of_nonpos z z
  have h2 : 0 < a * c := by omega
  rcases Int.lt_or_le 0 c with z | z
  · exact z
  · have := Int.mul_nonpos_of_nonneg_of_nonpos (Int.le_of_lt ha) z
    omega
/-- the shift's bounds -/
theorem shift_lo {a b : Int} (ha : 0 < a) : -a < 2 * (b + (a - 2 * b) / (2 * a) * a) ∧ 2 * (b + (a - 2 * b) / (2 * a) * a) ≤ a := by
  have h1 := Int.mul_ediv_add_emod (a - 2 * b) (2 * a)
  have h2 := Int.emod_nonneg (a - 2 * b) (b := 2 * a) (by omega)
  have h3 := Int.emod_lt_of_pos (a - 2 * b) (b := 2 * a) (by omega)
  generalize (a - 2 * b) / (2 * a) = k at *
  generalize (a - 2 * b) % (2 * a) = z at *
  have h4 : 2 * a * k = 2 * (k * a) := by grind
  omega
section
variable {P : Program} {w : World} {K : PySem.W.Frag} {mg : Str → Option Value} {base : Heap}
theorem sc_form_at : FnScope ["four", "place", "first", "half", "last"] ["four", "place"] (defScope s_form_at) := ⟨rfl, rfl, rfl, by decide +kernel, rfl, by decide +kernel, by decide +kernel⟩
theorem bend_get {a b c d p : Int} (h0 : 0 ≤ p) (h4 : p < 4) : [a, b, c, d][p.toNat]? = some (bendAt a b c d p) := by
  obtain rfl | rfl | rfl | rfl : p = 0 ∨ p = 1 ∨ p = 2 ∨ p = 3 := by omega
  all_goals rfl
theorem bendD_get {a b c d p : Int} (h0 : 0 ≤ p) (h4 : p < 4) : [D.int a, D.int b, D.int c, D.int d][p.toNat]? = some (.int (bendAt a b c d p)) := by
  obtain rfl | rfl | rfl | rfl : p = 0 ∨ p = 1 ∨ p = 2 ∨ p = 3 := by omega
  all_goals rfl
def S_form_at (K : PySem.W.Frag) : SpT := fun ds t Q => ∃ (a b c d p : Int) (n : Nat), ds = [fourD K [a, b, c, d], .int p] ∧ 0 ≤ p ∧ p < 4 ∧ bendAt a b c d p ≠ 0 ∧ FormOk (numsAt a b c d p).1 (numsAt a b c d p).2.1 (numsAt a b c d p).2.2 n ∧ Q t (formD K (numsAt a b c d p).1 (numsAt a b c d p).2.1 (numsAt a b c d p).2.2 n)
theorem w_form_at (hd : HF K mg) : Fn P w K mg base 6 "form_at" [] (S_form_at K) := by
  refine mkF hd.d_form_at sc_form_at (fun ds t Q h => by obtain ⟨_, _, _, _, _, _, rfl, _⟩ := h; rfl) (fun _ _ _ _ _ _ us hl => match us, hl with | [_, _], _ => rfl) fun f cdv A outer s H E hr ds t Q h => ?_
  have hN := sc_form_at.nd
  obtain ⟨a, b, c, d, p, n, rfl, h0, h4, hz, ok, q⟩ := h
  refine xss_cons (xs_expr (xe_call (w_need_bent hd) (hr.mono (by decide)) (xa_cons (xv 0 rfl (xa_cons (xv 1 rfl (xa_nil (⟨_, _, rfl, h0, h4, ?_⟩))))))))
  refine xss_cons (xs_expr (xe_call (w_need_round hd) (hr.mono (by decide)) (xa_cons (xv 0 rfl (xa_cons (xv 1 rfl (xa_nil (⟨_, _, _, rfl, h0, bend_get h0 h4, hz, ?_⟩))))))))
  refine xss_cons (xs_asg (xe_call (w_numbers_at hd) (hr.mono (by decide)) (xa_cons (xe_fld 0 hd.c_Four hd.n_Four_bends (xv 0 rfl (⟨_, _, _, rfl, rfl, nofun, rfl, xa_cons (xv 1 rfl (xa_nil (⟨a, b, c, d, p, rfl, h0, h4, xg_tup rfl (xgs_cons (xg_name 2 hN (xgs_cons (xg_name 3 hN (xgs_cons (xg_name 4 hN (xgs_nil ?_)))))))⟩)))⟩))))))
  refine xss_one (xs_ret (xe_make (w_Form_init hd) (hr.mono (by decide)) (xa_cons (xv 2 rfl (xa_cons (xv 3 rfl (xa_cons (xv 4 rfl (xa_nil (⟨_, _, _, n, rfl, ok, q⟩))))))))))
theorem sc_four_from : FnScope ["form", "is_rim"] ["form", "is_rim"] (defScope s_four_from) := ⟨rfl, rfl, rfl, by decide +kernel, rfl, by decide +kernel, by decide +kernel⟩
def S_four_from (K : PySem.W.Frag) : SpT := fun ds t Q => ∃ (a b c : Int) (n : Nat), ds = [formD K a b c n, .bl true] ∧ FourOk [-(n : Int), a + n, c + n, a + c - 2 * b + n] ∧ Q t (fourD K [-(n : Int), a + n, c + n, a + c - 2 * b + n])
theorem w_four_from (hd : HF K mg) : Fn P w K mg base 6 "four_from" [] (S_four_from K) := by
  refine mkF hd.d_four_from sc_four_from (fun ds t Q h => by obtain ⟨_, _, _, _, rfl, _⟩ := h; rfl) (fun _ _ _ _ _ _ us hl => match us, hl with | [_, _], _ => rfl) fun f cdv A outer s H E hr ds t Q h => ?_
  have hN := sc_four_from.nd
  obtain ⟨a, b, c, n, rfl, ok, q⟩ := h
  refine xss_cons (xs_expr (xe_call (w_need_form hd) (hr.mono (by decide)) (xa_cons (xv 0 rfl (xa_nil (⟨_, _, _, _, _, rfl, ?_⟩))))))
  refine xss_one (xs_ret (xe_make (w_Four_init hd) (hr.mono (by decide)) (xa_cons (xe_call (w_bends_from hd) (hr.mono (by decide)) (xa_cons (xe_fld 0 hd.c_Form hd.n_Form_numbers (xv 0 rfl (⟨_, _, _, rfl, rfl, nofun, rfl, xa_cons (xe_if (xt_val (xv 1 rfl (⟨_, rfl, ⟨fun h => xe_neg (xe_fld 1 hd.c_Form hd.n_Form_side (xv 0 rfl (⟨_, _, _, rfl, rfl, (by decide), rfl, ⟨_, rfl, xa_nil (⟨_, _, _, _, rfl, xa_nil (⟨_, [-(n : Int), a + n, c + n, a + c - 2 * b + n], rfl, .inr ?_, ok, q⟩)⟩)⟩⟩))), nofun⟩⟩))))⟩))))))))
  simp [Int.sub_neg]
theorem sc_form_of : FnScope ["numbers", "first", "half", "last"] ["numbers"] (defScope s_form_of) := ⟨rfl, rfl, rfl, by decide +kernel, rfl, by decide +kernel, by decide +kernel⟩
def S_form_of (K : PySem.W.Frag) : SpT := fun ds t Q => ∃ (a b c : Int) (n : Nat), ds = [tI3 a b c] ∧ FormOk a b c n ∧ Q t (formD K a b c n)
theorem w_form_of (hd : HF K mg) : Fn P w K mg base 6 "form_of" [] (S_form_of K) := by
  refine mkF hd.d_form_of sc_form_of (fun ds t Q h => by obtain ⟨_, _, _, _, rfl, _⟩ := h; rfl) (fun _ _ _ _ _ _ us hl => match us, hl with | [_], _ => rfl) fun f cdv A outer s H E hr ds t Q h => ?_
  have hN := sc_form_of.nd
  obtain ⟨a, b, c, n, rfl, ok, q⟩ := h
  refine xss_cons (xs_asg (xv 0 rfl (xg_tup rfl (xgs_cons (xg_name 1 hN (xgs_cons (xg_name 2 hN (xgs_cons (xg_name 3 hN (xgs_nil ?_))))))))))
  refine xss_one (xs_ret (xe_make (w_Form_init hd) (hr.mono (by decide)) (xa_cons (xv 1 rfl (xa_cons (xv 2 rfl (xa_cons (xv 3 rfl (xa_nil (⟨_, _, _, n, rfl, ok, q⟩))))))))))
theorem sc_shifted : FnScope ["numbers", "change", "times", "first", "half", "last", "p", "q", "r", "s"] ["numbers", "change"] (defScope s_shifted) := ⟨rfl, rfl, rfl, by decide +kernel, rfl, by decide +kernel, by decide +kernel⟩
def S_shifted : SpT := fun ds t Q => ∃ a b c p q r s : Int, ds = [tI3 a b c, .tup [.int p, .int q, .int r, .int s]] ∧ 0 < a ∧ a < 2 ^ 29 ∧ b.natAbs < 2 ^ 60 ∧
  ∀ k : Int, k = (a - 2 * b) / (2 * a) → Q t (.tup [tI3 a (b + k * a) (c + 2 * k * b + k * k * a), .tup [.int p, .int (q + k * p), .int r, .int (s + k * r)]])
theorem w_shifted (hd : HF K mg) : Fn P w K mg base 1 "shifted" [] S_shifted := by
  refine mkF hd.d_shifted sc_shifted (fun ds t Q h => by obtain ⟨_, _, _, _, _, _, _, rfl, _⟩ := h; rfl) (fun _ _ _ _ _ _ us hl => match us, hl with | [_, _], _ => rfl) fun f cdv A outer s H E hr ds t Q h => ?_
  have hN := sc_shifted.nd
  obtain ⟨a, b, c, p, q', r, s', rfl, h1, h2, h3, q⟩ := h
  refine xss_cons (xs_asg (xv 0 rfl (xg_tup rfl (xgs_cons (xg_name 3 hN (xgs_cons (xg_name 4 hN (xgs_cons (xg_name 5 hN (xgs_nil ?_))))))))))
  refine xss_cons (xs_asg (xv 1 rfl (xg_tup rfl (xgs_cons (xg_name 6 hN (xgs_cons (xg_name 7 hN (xgs_cons (xg_name 8 hN (xgs_cons (xg_name 9 hN (xgs_nil ?_))))))))))))
  refine xss_cons (xs_set 2 hN (xe_fdiv (xe_sub (xv 3 rfl (xe_mul (xe_int (xv 4 rfl (I2.mk ⟨by unfold CMul; omega, I2.mk (xe_mul (xe_int (xv 3 rfl (I2.mk ⟨by unfold CMul; omega, I2.mk ⟨by unfold CDiv; omega, ?_⟩⟩))))⟩))))))))
  have hk : ((a - 2 * b) / (2 * a)).natAbs < 2 ^ 62 := by
    have := Int.natAbs_ediv_le_natAbs (a - 2 * b) (2 * a)
    omega
  have q2 := q _ rfl
  generalize (a - 2 * b) / (2 * a) = k at hk q2 ⊢
  refine xss_cons (xs_set 0 hN (xe_tup (xa_cons (xv 3 rfl (xa_cons (xe_add (xv 4 rfl (xe_mul (xv 2 rfl (xv 3 rfl (I2.mk ⟨by unfold CMul; omega, I2.mk (xa_cons (xe_add (xe_add (xv 5 rfl (xe_mul (xe_mul (xe_int (xv 2 rfl (I2.mk ⟨by unfold CMul; omega, xv 4 rfl (I2.mk ⟨by unfold CMul; omega, I2.mk (xe_mul (xe_mul (xv 2 rfl (xv 2 rfl (I2.mk ⟨by unfold CMul; omega, xv 3 rfl (I2.mk ⟨by unfold CMul; omega, I2.mk (xa_nil (⟨Nat.le_of_ble_eq_true rfl, ?_⟩))⟩)⟩)))))⟩)⟩)))))))))⟩)))))))))))
  refine xss_one (xs_ret (xe_tup (xa_cons (xv 0 rfl (xa_cons (xe_tup (xa_cons (xv 6 rfl (xa_cons (xe_add (xv 7 rfl (xe_mul (xv 2 rfl (xv 6 rfl (I2.mk ⟨by unfold CMul; omega, I2.mk (xa_cons (xv 8 rfl (xa_cons (xe_add (xv 9 rfl (xe_mul (xv 2 rfl (xv 8 rfl (I2.mk ⟨by unfold CMul; omega, I2.mk (xa_nil (⟨Nat.le_of_ble_eq_true rfl, xa_nil (⟨Nat.le_of_ble_eq_true rfl, ?_⟩)⟩))⟩)))))))))⟩)))))))))))))))
  exact q2
theorem sc_exchanged_ends : FnScope ["numbers", "change", "first", "half", "last", "p", "q", "r", "s"] ["numbers", "change"] (defScope s_exchanged_ends) := ⟨rfl, rfl, rfl, by decide +kernel, rfl, by decide +kernel, by decide +kernel⟩
def S_exchanged_ends : SpT := fun ds t Q => ∃ a b c p q r s : Int, ds = [tI3 a b c, .tup [.int p, .int q, .int r, .int s]] ∧ Q t (.tup [tI3 c (-b) a, .tup [.int q, .int (-p), .int s, .int (-r)]])
theorem w_exchanged_ends (hd : HF K mg) : Fn P w K mg base 1 "exchanged_ends" [] S_exchanged_ends := by
  refine mkF hd.d_exchanged_ends sc_exchanged_ends (fun ds t Q h => by obtain ⟨_, _, _, _, _, _, _, rfl, _⟩ := h; rfl) (fun _ _ _ _ _ _ us hl => match us, hl with | [_, _], _ => rfl) fun f cdv A outer s H E hr ds t Q h => ?_
  have hN := sc_exchanged_ends.nd
  obtain ⟨a, b, c, p, q', r, s', rfl, q⟩ := h
  refine xss_cons (xs_asg (xv 0 rfl (xg_tup rfl (xgs_cons (xg_name 2 hN (xgs_cons (xg_name 3 hN (xgs_cons (xg_name 4 hN (xgs_nil ?_))))))))))
  refine xss_cons (xs_asg (xv 1 rfl (xg_tup rfl (xgs_cons (xg_name 5 hN (xgs_cons (xg_name 6 hN (xgs_cons (xg_name 7 hN (xgs_cons (xg_name 8 hN (xgs_nil ?_))))))))))))
  refine xss_one (xs_ret (xe_tup (xa_cons (xe_tup (xa_cons (xv 4 rfl (xa_cons (xe_neg (xv 3 rfl (⟨_, rfl, xa_cons (xv 2 rfl (xa_nil (⟨Nat.le_of_ble_eq_true rfl, xa_cons (xe_tup (xa_cons (xv 6 rfl (xa_cons (xe_neg (xv 5 rfl (⟨_, rfl, xa_cons (xv 8 rfl (xa_cons (xe_neg (xv 7 rfl (⟨_, rfl, xa_nil (⟨Nat.le_of_ble_eq_true rfl, xa_nil (⟨Nat.le_of_ble_eq_true rfl, q⟩)⟩)⟩)))))⟩)))))))⟩)))⟩))))))))))
theorem sc_is_in_order : FnScope ["numbers", "first", "half", "last"] ["numbers"] (defScope s_is_in_order) := ⟨rfl, rfl, rfl, by decide +kernel, rfl, by decide +kernel, by decide +kernel⟩
def S_is_in_order : SpT := fun ds t Q => ∃ a b c : Int, ds = [tI3 a b c] ∧ ∀ k : Bool, (k = true ↔ (a < c ∨ (a = c ∧ 0 ≤ b))) → Q t (.bl k)
theorem w_is_in_order (hd : HF K mg) : Fn P w K mg base 1 "is_in_order" [] S_is_in_order := by
  refine mkF hd.d_is_in_order sc_is_in_order (fun ds t Q h => by obtain ⟨_, _, _, rfl, _⟩ := h; rfl) (fun _ _ _ _ _ _ us hl => match us, hl with | [_], _ => rfl) fun f cdv A outer s H E hr ds t Q h => ?_
  have hN := sc_is_in_order.nd
  obtain ⟨a, b, c, rfl, q⟩ := h
  refine xss_cons (xs_asg (xv 0 rfl (xg_tup rfl (xgs_cons (xg_name 1 hN (xgs_cons (xg_name 2 hN (xgs_cons (xg_name 3 hN (xgs_nil ?_))))))))))
  refine xss_one (xs_ret (xe_or (xe_lt (xv 1 rfl (xv 3 rfl (I2.mk (⟨_, rfl, fun h => ?_, fun h => xe_one (xe_and (xe_eq (xv 1 rfl (xv 3 rfl (⟨_, _, rfl, rfl, rfl, ⟨_, rfl, fun h => xe_one (xe_ge (xv 2 rfl (xe_int (I2.mk ?_)))), fun h => ?_⟩⟩)))))⟩)))))))
  · exact q true ⟨fun _ => .inl (of_decide_eq_true h), fun _ => rfl⟩
  · rename_i h'
    have h1 := of_decide_eq_false h'
    have h2 := V.int.inj (of_decide_eq_true h)
    exact q _ ⟨fun z => .inr ⟨h2, of_decide_eq_true z⟩, fun z => decide_eq_true (by omega)⟩
  · rename_i h'
    have h1 := of_decide_eq_false h'
    have h2 : ¬ a = c := fun z => of_decide_eq_false h (by rw [z])
    exact q false ⟨nofun, fun z => by omega⟩
theorem sc_led : FnScope ["numbers", "change"] ["numbers"] (defScope s_led) := ⟨rfl, rfl, rfl, by decide +kernel, rfl, by decide +kernel, by decide +kernel⟩
def S_led : SpT := fun ds t Q => ∃ f h l : Int, ds = [tI3 f h l] ∧ 0 < f ∧ f < 2 ^ 29 ∧ h.natAbs < 2 ^ 58 ∧ 0 < f * l - h * h ∧
  ∀ a b c p q r s : Int, Red a b c → Act f h l a b c p q r s → a ≤ f → Q t (.tup [tI3 a b c, .tup [.int p, .int q, .int r, .int s]])
theorem w_led (hd : HF K mg) : Fn P w K mg base 2 "led" [] S_led := by
  refine mkF hd.d_led sc_led (fun ds t Q h => by obtain ⟨_, _, _, rfl, _⟩ := h; rfl) (fun _ _ _ _ _ _ us hl => match us, hl with | [_], _ => rfl) fun f cdv A outer s H E hr ds t Q h => ?_
  have hN := sc_led.nd
  obtain ⟨f', h', l', rfl, h1, h2, h3, h4, q⟩ := h
  refine xss_cons (xs_asg (xe_call (w_shifted hd) (hr.mono (by decide)) (xa_cons (xv 0 rfl (xa_cons (xe_tup (xa_cons (xe_int (xa_cons (xe_int (xa_cons (xe_int (xa_cons (xe_int (xa_nil (⟨Nat.le_of_ble_eq_true rfl, xa_nil (⟨_, _, _, _, _, _, _, rfl, h1, h2, by omega, fun k hk => xg_tup rfl (xgs_cons (xg_name 0 hN (xgs_cons (xg_name 1 hN (xgs_nil ?_)))))⟩)⟩))))))))))))))))
  refine xss_cons (xs_while PassesOwn.never (fun m t2 env => t2 = t ∧ ∃ a b c p q r s : Int, env = [.d (tI3 a b c), .d (.tup [.int p, .int q, .int r, .int s])] ∧ Act f' h' l' a b c p q r s ∧ 0 < a ∧ a ≤ f' ∧ -a < 2 * b ∧ 2 * b ≤ a ∧ m = (2 * a).toNat + (if b < 0 then 1 else 0))
    _ ⟨rfl, _, _, _, _, _, _, _, rfl, (Act.id f' h' l').shift k, h1, by omega, by rw [hk]; exact (shift_lo h1).1, by rw [hk]; exact (shift_lo h1).2, rfl⟩ ?_)
  rintro m t2 env ⟨rfl, a, b, c, p, q', r, s', rfl, AC, ha, haf, hb1, hb2, rfl⟩
  refine xt_not (xt_val (xe_call (w_is_in_order hd) (hr.mono (by decide)) (xa_cons (xv 0 rfl (xa_nil (⟨_, _, _, rfl, fun k hk => ⟨_, rfl, ⟨fun h => ?_, fun h => ?_⟩⟩⟩))))))
  · have hk' : k = false := by
      cases k with
      | false => rfl
      | true => cases h
    have hn : ¬ (a < c ∨ (a = c ∧ 0 ≤ b)) := fun z => by rw [hk.mpr z] at hk'; cases hk'
    have hc : 0 < c := pos_of_disc AC.disc h4 ha
    refine xss_cons (xs_asg (xe_call (w_exchanged_ends hd) (hr.mono (by decide)) (xa_cons (xv 0 rfl (xa_cons (xv 1 rfl (xa_nil (⟨_, _, _, _, _, _, _, rfl, xg_tup rfl (xgs_cons (xg_name 0 hN (xgs_cons (xg_name 1 hN (xgs_nil ?_)))))⟩))))))))
    refine xss_one (xs_asg (xe_call (w_shifted hd) (hr.mono (by decide)) (xa_cons (xv 0 rfl (xa_cons (xv 1 rfl (xa_nil (⟨_, _, _, _, _, _, _, rfl, hc, by omega, by omega, fun k2 hk2 => xg_tup rfl (xgs_cons (xg_name 0 hN (xgs_cons (xg_name 1 hN (xgs_nil ?_)))))⟩))))))))
    have e1 := shift_lo (a := c) (b := -b) hc
    rw [← hk2] at e1
    refine ⟨_, ?_, rfl, _, _, _, _, _, _, _, rfl, AC.swap.shift k2, hc, by omega, e1.1, e1.2, rfl⟩
    by_cases hac : a = c
    · have hb : b < 0 := by omega
      have hk0 : k2 = 0 := by
        rw [hk2]
        exact Int.ediv_eq_zero_of_lt (by omega) (by omega)
      rw [hk0, if_pos hb]
      rw [if_neg (by omega)]
      omega
    · split <;> split <;> omega
  · have hk' : k = true := by
      cases k with
      | true => rfl
      | false => cases h
    refine xss_one (xs_ret (xe_tup (xa_cons (xv 0 rfl (xa_cons (xv 1 rfl (xa_nil (⟨Nat.le_of_ble_eq_true rfl, ?_⟩))))))))
    exact q a b c p q' r s' ⟨ha, hb1, hb2, hk.mp hk'⟩ AC haf
end
end BS

set_option Elab.async false
set_option linter.all false
set_option maxRecDepth 100000
/-! plain: told pairs, columns, rows -/
namespace BS
open PySem
def toldF (x y : Int) : Int × Int := if x < 0 ∨ (x = 0 ∧ y < 0) then (-x, -y) else (x, y)
/-- the x of a row -/
def colsW (a b c y m : Int) : Int := ((Float64.isqrt (a * m - (a * c - b * b) * y * y).toNat : Nat) : Int)
def colsLo (a b c y m : Int) : Int := -((colsW a b c y m + b * y) / a)
def colsHi (a b c y m : Int) : Int := (colsW a b c y m - b * y) / a
def colsL (a b c y m : Int) : List Int := if a * m - (a * c - b * b) * y * y < 0 then [] else (List.range (colsHi a b c y m + 1 - colsLo a b c y m).toNat).map fun k : Nat => colsLo a b c y m + (k : Int)
def rowsF (a b c m : Int) : Nat := Float64.isqrt (a * m / (a * c - b * b)).toNat
def rowL (a b c m y : Int) : List (Int × Int) := ((colsL a b c y m).filter fun x => gcd2 x y == 1).map fun x => (x, y)
def pairsL (a b c m : Int) (n : Nat) : List (Int × Int) := (1, 0) :: (List.range n).flatMap fun i : Nat => rowL a b c m (1 + (i : Int))
def worthF (a b c x y : Int) : Int := a * x * x + 2 * b * x * y + c * y * y
def spotsL (a b c p q r s m : Int) : List (Int × Int × Int) := if m < a then [] else (pairsL a b c m (rowsF a b c m)).map fun z => (worthF a b c z.1 z.2, toldF (p * z.1 + q * z.2) (r * z.1 + s * z.2))
theorem sq_nonneg' (b : Int) : 0 ≤ b * b := by
  rcases Int.le_total 0 b with z | z
  · exact Int.mul_nonneg z z
  · exact Int.mul_nonneg_of_nonpos_of_nonpos z z
theorem isqrt_lt {n B : Nat} (h : n < B * B) : Float64.isqrt n < B := by
  have h1 := (Float64.isqrt_spec n).1
  exact Nat.mul_self_lt_mul_self_iff.mp (Nat.lt_of_le_of_lt h1 h)
theorem colsW_sq {a b c y m : Int} (h : 0 ≤ a * m - (a * c - b * b) * y * y) : colsW a b c y m * colsW a b c y m ≤ a * m - (a * c - b * b) * y * y := by
  have h1 := (Float64.isqrt_spec (a * m - (a * c - b * b) * y * y).toNat).1
  unfold colsW
  rw [← Int.natCast_mul]
  omega
theorem colsW_nonneg (a b c y m : Int) : 0 ≤ colsW a b c y m := Int.natCast_nonneg _
theorem dyy {D y : Int} (hD : 0 ≤ D) : 0 ≤ D * y * y := by
  rw [Int.mul_assoc]
  exact Int.mul_nonneg hD (sq_nonneg' y)
theorem colsW_le {a b c y m : Int} (h : 0 ≤ a * m - (a * c - b * b) * y * y) (hD : 0 ≤ a * c - b * b) : colsW a b c y m * colsW a b c y m ≤ a * m := by
  have h1 := colsW_sq h
  have h2 := dyy (y := y) hD
  omega
theorem cols_gap {a b c y m : Int} (ha : 0 < a) : a * (colsHi a b c y m - colsLo a b c y m) ≤ 2 * colsW a b c y m := by
  have h1 : a * ((colsW a b c y m - b * y) / a) ≤ colsW a b c y m - b * y := Int.mul_ediv_self_le (by omega)
  have h2 : a * ((colsW a b c y m + b * y) / a) ≤ colsW a b c y m + b * y := Int.mul_ediv_self_le (by omega)
  unfold colsHi colsLo
  have e : a * ((colsW a b c y m - b * y) / a - -((colsW a b c y m + b * y) / a)) = a * ((colsW a b c y m - b * y) / a) + a * ((colsW a b c y m + b * y) / a) := by grind
  omega
theorem cols_len {a b c y m : Int} (ha : 0 < a) (hm : m < 2 ^ 14) (hD : 0 ≤ a * c - b * b) (h : 0 ≤ a * m - (a * c - b * b) * y * y) : colsHi a b c y m - colsLo a b c y m < 257 := by
  rcases Int.lt_or_le (colsHi a b c y m - colsLo a b c y m) 257 with z | z
  · exact z
  · exfalso
    have h1 := cols_gap (b := b) (c := c) (y := y) (m := m) ha
    have h2 := colsW_le h hD
    have h0 := colsW_nonneg a b c y m
    have h3 : a * 257 ≤ a * (colsHi a b c y m - colsLo a b c y m) := Int.mul_le_mul_of_nonneg_left z (by omega)
    generalize colsW a b c y m = w at *
    have h4 : a * 257 ≤ 2 * w := by omega
    have h5 : (a * 257) * (a * 257) ≤ (2 * w) * (2 * w) := Int.mul_le_mul h4 h4 (by omega) (by omega)
    have e1 : (2 * w) * (2 * w) = 4 * (w * w) := by grind
    have e2 : (a * 257) * (a * 257) = a * (66049 * a) := by grind
    have e3 : 4 * (a * m) = a * (4 * m) := by grind
    have h6 : a * (66049 * a) ≤ a * (4 * m) := by omega
    have h7 := Int.le_of_mul_le_mul_left h6 ha
    omega
theorem cols_length {a b c y m : Int} (ha : 0 < a) (hm : m < 2 ^ 14) (hD : 0 ≤ a * c - b * b) : (colsL a b c y m).length ≤ 300 := by
  unfold colsL
  split
  · exact Nat.zero_le _
  · rename_i h
    have := cols_len (y := y) ha hm hD (by omega)
    rw [List.length_map, List.length_range]
    omega
theorem red_disc {a b c : Int} (h : Red a b c) : 3 * (a * a) ≤ 4 * (a * c - b * b) := by
  obtain ⟨h1, h2, h3, h4⟩ := h
  have h5 : a ≤ c := by omega
  have h6 : a * a ≤ a * c := Int.mul_le_mul_of_nonneg_left h5 (by omega)
  have h7 : (2 * b) * (2 * b) ≤ a * a := by
    rcases Int.le_total 0 b with z | z
    · exact Int.mul_le_mul h3 h3 (by omega) (by omega)
    · have : (-(2 * b)) * (-(2 * b)) ≤ a * a := Int.mul_le_mul (by omega) (by omega) (by omega) (by omega)
      have e : (-(2 * b)) * (-(2 * b)) = (2 * b) * (2 * b) := by grind
      omega
  have e : (2 * b) * (2 * b) = 4 * (b * b) := by grind
  omega
theorem rows_le {a b c m : Int} (h : Red a b c) (hm : m < 2 ^ 14) (hD : 0 < a * c - b * b) : a * m / (a * c - b * b) < 2 ^ 15 := by
  have h1 := red_disc h
  have ha := h.1
  have h2 : (a * c - b * b) * (a * m / (a * c - b * b)) ≤ a * m := Int.mul_ediv_self_le (by omega)
  generalize a * c - b * b = D at *
  rcases Int.lt_or_le (a * m / D) (2 ^ 15) with z | z
  · exact z
  · exfalso
    have h3 : D * 2 ^ 15 ≤ D * (a * m / D) := Int.mul_le_mul_of_nonneg_left z (by omega)
    have e : 4 * (a * m) = a * (4 * m) := by grind
    have e2 : 3 * (a * a) * 2 ^ 15 = a * (3 * a * 2 ^ 15) := by grind
    have h6 : a * (3 * a * 2 ^ 15) ≤ a * (4 * m) := by omega
    have h7 := Int.le_of_mul_le_mul_left h6 ha
    omega
theorem rowsF_le {a b c m : Int} (h : Red a b c) (hm : m < 2 ^ 14) (hD : 0 < a * c - b * b) : rowsF a b c m < 182 := by
  have := rows_le h hm hD
  exact isqrt_lt (by omega)
theorem rowL_length {a b c y m : Int} (ha : 0 < a) (hm : m < 2 ^ 14) (hD : 0 ≤ a * c - b * b) : (rowL a b c m y).length ≤ 300 := by
  unfold rowL
  rw [List.length_map]
  exact Nat.le_trans (List.length_filter_le _ _) (cols_length ha hm hD)
theorem pairs_length {a b c m : Int} (ha : 0 < a) (hm : m < 2 ^ 14) (hD : 0 ≤ a * c - b * b) : ∀ n : Nat, (pairsL a b c m n).length ≤ 1 + n * 300
  | 0 => by simp [pairsL]
  | n + 1 => by
    have h1 := pairs_length (b := b) (c := c) ha hm hD n
    have h2 := rowL_length (b := b) (c := c) (y := 1 + (n : Int)) ha hm hD
    unfold pairsL at h1 ⊢
    rw [List.range_succ, List.flatMap_append, List.flatMap_singleton, List.length_cons, List.length_append]
    rw [List.length_cons] at h1
    omega
theorem pairs_succ (a b c m : Int) (n : Nat) : pairsL a b c m (n + 1) = pairsL a b c m n ++ rowL a b c m (1 + (n : Int)) := by
  unfold pairsL
  rw [List.range_succ, List.flatMap_append, List.flatMap_singleton, List.cons_append]
theorem cols_bound {a b c y m x : Int} (hb : b.natAbs < 2 ^ 29) (y0 : 0 ≤ y) (y1 : y < 2 ^ 20) (am : a * m < 2 ^ 30) (hD : 0 ≤ a * c - b * b) (hx : x ∈ colsL a b c y m) : x.natAbs < 2 ^ 60 := by
  unfold colsL at hx
  split at hx
  · cases hx
  · rename_i h
    have h0 : 0 ≤ a * m - (a * c - b * b) * y * y := by omega
    have hw0 := colsW_nonneg a b c y m
    have hL := dyy (y := y) hD
    have hw2 : colsW a b c y m < 2 ^ 15 := by
      have : Float64.isqrt (a * m - (a * c - b * b) * y * y).toNat < 2 ^ 15 := isqrt_lt (by omega)
      unfold colsW
      omega
    have hby : (b * y).natAbs < 2 ^ 49 := by
      rw [Int.natAbs_mul]
      have e : (2 : Nat) ^ 49 = 2 ^ 29 * 2 ^ 20 := by decide
      rw [e]
      exact Nat.mul_lt_mul'' hb (by omega)
    have g1 := Int.natAbs_ediv_le_natAbs (colsW a b c y m - b * y) a
    have g2 := Int.natAbs_ediv_le_natAbs (colsW a b c y m + b * y) a
    obtain ⟨k, hk, rfl⟩ := List.mem_map.mp hx
    rw [List.mem_range] at hk
    unfold colsHi colsLo at *
    generalize colsW a b c y m = v at *
    omega
theorem pairs_bound {a b c m : Int} {n : Nat} (hb : b.natAbs < 2 ^ 29) (am : a * m < 2 ^ 30) (hD : 0 ≤ a * c - b * b) (hn : n < 2 ^ 18) {z : Int × Int} (hz : z ∈ pairsL a b c m n) : z.1.natAbs < 2 ^ 60 ∧ z.2.natAbs < 2 ^ 20 := by
  unfold pairsL at hz
  rcases List.mem_cons.mp hz with rfl | hz
  · decide
  · obtain ⟨i, hi, h⟩ := List.mem_flatMap.mp hz
    rw [List.mem_range] at hi
    unfold rowL at h
    obtain ⟨x, hx, rfl⟩ := List.mem_map.mp h
    exact ⟨cols_bound hb (by omega) (by omega) am hD (List.mem_filter.mp hx).1, by show (1 + (i : Int)).natAbs < _; omega⟩
end BS

set_option Elab.async false
set_option linter.all false
set_option maxRecDepth 100000
set_option maxHeartbeats 4000000
/-! the walks: told, columns, spots -/
namespace BS
open PySem PySem.Spec PyProof.Rows L2
abbrev tT (z : Int × Int × Int) : D := tI3 z.1 z.2.1 z.2.2
abbrev tP (z : Int × Int) : D := .tup [.int z.1, .int z.2]
section
variable {P : Program} {w : World} {K : PySem.W.Frag} {mg : Str → Option Value} {base : Heap}
theorem sc_told : FnScope ["x", "y"] ["x", "y"] (defScope s_told) := ⟨rfl, rfl, rfl, by decide +kernel, rfl, by decide +kernel, by decide +kernel⟩
def S_told : SpT := fun ds t Q => ∃ x y : Int, ds = [.int x, .int y] ∧ Q t (tP (toldF x y))
theorem w_told (hd : HF K mg) : Fn P w K mg base 1 "told" [] S_told := by
  refine mkF hd.d_told sc_told (fun ds t Q h => by obtain ⟨_, _, rfl, _⟩ := h; rfl) (fun _ _ _ _ _ _ us hl => match us, hl with | [_, _], _ => rfl) fun f cdv A outer s H E hr ds t Q h => ?_
  have hN := sc_told.nd
  obtain ⟨x, y, rfl, q⟩ := h
  have k1 : (x < 0 ∨ (x = 0 ∧ y < 0)) → Q t (.tup [.int (-x), .int (-y)]) := fun z => by
    unfold toldF at q
    rw [if_pos z] at q
    exact q
  have k2 : ¬ (x < 0 ∨ (x = 0 ∧ y < 0)) → Q t (.tup [.int x, .int y]) := fun z => by
    unfold toldF at q
    rw [if_neg z] at q
    exact q
  refine xss_one (xs_ret (xe_if (xt_w (xw_or (xt_lt (xv 0 rfl (xe_int (I2.mk ⟨fun h => ⟨fun _ => ?_, nofun⟩, fun h => xw_or1 (xt_w (xw_and (xt_eq (xv 0 rfl (xe_int ⟨_, _, rfl, rfl, rfl, fun h2 => xw_and1 (xt_lt (xv 1 rfl (xe_int (I2.mk ⟨fun h3 => ?_, fun h3 => ?_⟩)))), fun h2 => ⟨nofun, fun _ => ?_⟩⟩)))))⟩))))))))
  · exact xe_tup (xa_cons (xe_neg (xv 0 rfl ⟨_, rfl, xa_cons (xe_neg (xv 1 rfl ⟨_, rfl, xa_nil ⟨Nat.le_of_ble_eq_true rfl, k1 (.inl (of_decide_eq_true h))⟩⟩))⟩)))
  · have e1 := V.int.inj (of_decide_eq_true h2)
    exact xe_tup (xa_cons (xe_neg (xv 0 rfl ⟨_, rfl, xa_cons (xe_neg (xv 1 rfl ⟨_, rfl, xa_nil ⟨Nat.le_of_ble_eq_true rfl, k1 (.inr ⟨e1, of_decide_eq_true h3⟩)⟩⟩))⟩)))
  · have e1 := of_decide_eq_false h
    have e3 := of_decide_eq_false h3
    exact xe_tup (xa_cons (xv 0 rfl (xa_cons (xv 1 rfl (xa_nil ⟨Nat.le_of_ble_eq_true rfl, k2 (by omega)⟩)))))
  · have e1 := of_decide_eq_false h
    have e2 : ¬ x = 0 := fun z => of_decide_eq_false h2 (by rw [z])
    exact xe_tup (xa_cons (xv 0 rfl (xa_cons (xv 1 rfl (xa_nil ⟨Nat.le_of_ble_eq_true rfl, k2 (by omega)⟩)))))
theorem sc_columns : FnScope ["numbers", "row", "most", "left", "wide", "first", "half", "last"] ["numbers", "row", "most"] (defScope s_columns) := ⟨rfl, rfl, rfl, by decide +kernel, rfl, by decide +kernel, by decide +kernel⟩
structure ColOk (a b c m : Int) : Prop where
  a0 : 0 < a
  a1 : a < 2 ^ 29
  b1 : b.natAbs < 2 ^ 29
  m1 : m < 2 ^ 14
  m0 : 0 ≤ m
  am : a * m < 2 ^ 30
  d0 : 0 < a * c - b * b
  d1 : a * c - b * b < 2 ^ 30
def S_columns : SpT := fun ds t Q => ∃ a b c y m : Int, ds = [tI3 a b c, .int y, .int m] ∧ ColOk a b c m ∧ 0 ≤ y ∧ y < 2 ^ 20 ∧ Q t (.lst ((colsL a b c y m).map D.int))
theorem w_columns (hd : HF K mg) : Fn P w K mg base 1 "columns" [] S_columns := by
  refine mkF hd.d_columns sc_columns (fun ds t Q h => by obtain ⟨_, _, _, _, _, rfl, _⟩ := h; rfl) (fun _ _ _ _ _ _ us hl => match us, hl with | [_, _, _], _ => rfl) fun f cdv A outer s H E hr ds t Q h => ?_
  have hN := sc_columns.nd
  obtain ⟨a, b, c, y, m, rfl, ok, y0, y1, q⟩ := h
  obtain ⟨a0, a1, b1, m1, m0, am, d0, d1⟩ := ok
  refine xss_cons (xs_asg (xv 0 rfl (xg_tup rfl (xgs_cons (xg_name 5 hN (xgs_cons (xg_name 6 hN (xgs_cons (xg_name 7 hN (xgs_nil ?_))))))))))
  refine xss_cons (xs_set 3 hN (xe_sub (xe_mul (xv 5 rfl (xv 2 rfl (I2.mk ⟨by unfold CMul; omega, xe_mul (xe_mul (xe_sub (xe_mul (xv 5 rfl (xv 7 rfl (I2.mk ⟨by unfold CMul; omega, xe_mul (xv 6 rfl (xv 6 rfl (I2.mk ⟨by unfold CMul; omega, I2.mk (xv 1 rfl (I2.mk ⟨by unfold CMul; omega, xv 1 rfl (I2.mk ⟨by unfold CMul; omega, I2.mk ?_⟩)⟩))⟩)))⟩))))))⟩))))))
  have hL : a * m - (a * c - b * b) * y * y ≤ a * m := by
    have := dyy (y := y) (Int.le_of_lt d0)
    omega
  refine xss_cons (xs_if (xt_lt (xv 3 rfl (xe_int (I2.mk ⟨fun h => ?_, fun h => ?_⟩)))))
  · refine xss_one (xs_ret (xe_l (xl_lst (xa_nil (⟨Nat.le_of_ble_eq_true rfl, ?_⟩)))))
    unfold colsL at q
    rw [if_pos (of_decide_eq_true h)] at q
    exact q
  refine xss_nil ?_
  have h1 := of_decide_eq_false h
  have h0 : 0 ≤ a * m - (a * c - b * b) * y * y := by omega
  have hw0 := colsW_nonneg a b c y m
  have hw1 := colsW_le h0 (Int.le_of_lt d0)
  have hw2 : colsW a b c y m < 2 ^ 15 := by
    have : Float64.isqrt (a * m - (a * c - b * b) * y * y).toNat < 2 ^ 15 := isqrt_lt (by omega)
    unfold colsW
    omega
  have hgap := cols_len (b := b) (c := c) (y := y) a0 m1 (Int.le_of_lt d0) h0
  unfold colsL at q
  rw [if_neg h1] at q
  unfold colsHi colsLo at q hgap
  refine xss_cons (xs_set 4 hN (xe_isqrt hd.g_isqrt (xv 3 rfl ⟨_, rfl, h0, by omega, ?_⟩)))
  rw [show ((Float64.isqrt (a * m - (a * c - b * b) * y * y).toNat : Nat) : Int) = colsW a b c y m from rfl]
  have hby : (b * y).natAbs < 2 ^ 49 := by
    rw [Int.natAbs_mul]
    have e : (2 : Nat) ^ 49 = 2 ^ 29 * 2 ^ 20 := by decide
    rw [e]
    exact Nat.mul_lt_mul'' b1 (by omega)
  have g1 := Int.natAbs_ediv_le_natAbs (colsW a b c y m - b * y) a
  have g2 := Int.natAbs_ediv_le_natAbs (colsW a b c y m + b * y) a
  generalize colsW a b c y m = v at *
  refine xss_one (xs_ret (xe_listRg2 rfl hd.f_list hd.f_range (xe_neg (xe_fdiv (xe_add (xv 4 rfl (xe_mul (xv 6 rfl (xv 1 rfl (I2.mk ⟨by unfold CMul; omega, I2.mk (xv 5 rfl (I2.mk ⟨by unfold CDiv; omega, ⟨_, rfl, xe_add (xe_fdiv (xe_sub (xv 4 rfl (xe_mul (xv 6 rfl (xv 1 rfl (I2.mk ⟨by unfold CMul; omega, I2.mk (xv 5 rfl (I2.mk ⟨by unfold CDiv; omega, xe_int (I2.mk (I2.mk ⟨?_, ?_⟩))⟩))⟩)))))))⟩⟩))⟩))))))))))
  · unfold RgOk
    omega
  · rw [List.map_map] at q
    exact q
theorem sc_spots : FnScope ["numbers", "most", "rows", "pairs", "row", "found", "least", "first", "half", "last", "y", "spot", "p", "q", "r", "s", "x"] ["numbers", "most"] (defScope s_spots) := ⟨rfl, rfl, rfl, by decide +kernel, rfl, by decide +kernel, by decide +kernel⟩
structure SpotOk (f h l m : Int) : Prop where
  f0 : 0 < f
  f1 : f < 2 ^ 29
  h1 : h.natAbs < 2 ^ 58
  m0 : 0 ≤ m
  m1 : m < 2 ^ 14
  fm : f * m < 2 ^ 30
  d0 : 0 < f * l - h * h
  d1 : f * l - h * h < 2 ^ 30
def S_spots : SpT := fun ds t Q => ∃ f h l m : Int, ds = [tI3 f h l, .int m] ∧ SpotOk f h l m ∧ ∀ a b c p q r s : Int, Red a b c → Act f h l a b c p q r s → a ≤ f → Q t (.lst ((spotsL a b c p q r s m).map tT))
theorem w_spots (hd : HF K mg) : Fn P w K mg base 3 "spots" [] S_spots := by
  refine mkF hd.d_spots sc_spots (fun ds t Q h => by obtain ⟨_, _, _, _, rfl, _⟩ := h; rfl) (fun _ _ _ _ _ _ us hl => match us, hl with | [_, _], _ => rfl) fun f cdv A outer s H E hr ds t Q h => ?_
  have hN := sc_spots.nd
  obtain ⟨f', h', l', m, rfl, ok, q⟩ := h
  obtain ⟨f0, f1, h1, m0, m1, fm, d0, d1⟩ := ok
  refine xss_cons (xs_asg (xe_call (w_led hd) (hr.mono (by decide)) (xa_cons (xv 0 rfl (xa_nil (⟨_, _, _, rfl, f0, f1, h1, d0, fun a b c p q' r s' red act haf => xg_tup rfl (xgs_cons (xg_name 6 hN (xgs_cons (xg_tup rfl (xgs_cons (xg_name 12 hN (xgs_cons (xg_name 13 hN (xgs_cons (xg_name 14 hN (xgs_cons (xg_name 15 hN (xgs_nil (xgs_nil ?_))))))))))))))⟩))))))
  have hq := q a b c p q' r s' red act haf
  have ed := act.disc
  obtain ⟨a0, b0, b1, _⟩ := id red
  have hrows := rowsF_le (m := m) red m1 (by omega)
  have ham : a * m < 2 ^ 30 := Int.lt_of_le_of_lt (Int.mul_le_mul_of_nonneg_right haf m0) fm
  have ham0 : 0 ≤ a * m := Int.mul_nonneg (Int.le_of_lt a0) m0
  have hcol : ColOk a b c m := ⟨a0, by omega, by omega, m1, m0, ham, by omega, by omega⟩
  refine xss_cons (xs_asg (xv 6 rfl (xg_tup rfl (xgs_cons (xg_name 7 hN (xgs_cons (xg_name 8 hN (xgs_cons (xg_name 9 hN (xgs_nil ?_))))))))))
  refine xss_cons (xs_if (xt_lt (xv 1 rfl (xv 7 rfl (I2.mk (⟨fun h => ?_, fun h => ?_⟩))))))
  · refine xss_one (xs_ret (xe_l (xl_lst (xa_nil (⟨Nat.le_of_ble_eq_true rfl, ?_⟩)))))
    unfold spotsL at hq
    rw [if_pos (of_decide_eq_true h)] at hq
    exact hq
  refine xss_nil ?_
  unfold spotsL at hq
  rw [if_neg (of_decide_eq_false h)] at hq
  have hk0 : 0 ≤ a * m / (a * c - b * b) := Int.ediv_nonneg ham0 (by omega)
  have hk1 := rows_le (m := m) red m1 (by omega)
  refine xss_cons (xs_set 2 hN (xe_isqrt hd.g_isqrt (xe_fdiv (xe_mul (xv 7 rfl (xv 1 rfl (I2.mk ⟨by unfold CMul; omega, xe_sub (xe_mul (xv 7 rfl (xv 9 rfl (I2.mk ⟨by unfold CMul; omega, xe_mul (xv 8 rfl (xv 8 rfl (I2.mk ⟨by unfold CMul; omega, I2.mk (I2.mk ⟨by unfold CDiv; omega, ⟨_, rfl, hk0, by omega, ?_⟩⟩)⟩)))⟩))))⟩)))))))
  rw [show ((Float64.isqrt (a * m / (a * c - b * b)).toNat : Nat) : Int) = (rowsF a b c m : Int) from rfl]
  refine xss_cons (xs_own 3 hN (xl_lst (xa_cons (xe_tup (xa_cons (xe_int (xa_cons (xe_int (xa_nil (⟨Nat.le_of_ble_eq_true rfl, xa_nil (⟨Nat.le_of_ble_eq_true rfl, ?_⟩)⟩))))))))))
  refine xss_cons (xs_for PassesOwn.never rfl (xi_rg2 hd.f_range (xe_int (xe_add (xv 2 rfl (xe_int (I2.mk (I2.mk ⟨by omega, fun i t2 env => t2 = t ∧ ∃ z, env = [.d (tI3 f' h' l'), .d (.int m), .d (.int ((rowsF a b c m : Nat) : Int)), .own (.lst none ((pairsL a b c m i).map tP)), z, .any, .d (tI3 a b c), .d (.int a), .d (.int b), .d (.int c), .any, .any, .d (.int p), .d (.int q'), .d (.int r), .d (.int s'), .any], ⟨rfl, _, rfl⟩, ?_, ?_⟩))))))))
  · rintro i d t2 env hi ⟨rfl, z, rfl⟩
    obtain ⟨hi1, rfl⟩ := rgD_at hi
    have hlen := pairs_length (b := b) (c := c) a0 m1 (by omega) i
    have hlen2 := rowL_length (b := b) (c := c) (y := 1 + (i : Int)) a0 m1 (by omega)
    refine xg_name 4 hN (xss_one (xs_extend 3 rfl (xe_lcF (hb := rfl) (hg := fun _ _ _ _ _ => pg_name hN rfl (Or.inl rfl)) (colsL a b c (1 + (i : Int)) m) D.int (fun x => tP (x, 1 + (i : Int))) (fun x => gcd2 x (1 + (i : Int)) == 1) 16 rfl hN (xi_lst (xe_call (w_columns hd) (hr.mono (by decide)) (xa_cons (xv 6 rfl (xa_cons (xv 4 rfl (xa_cons (xv 1 rfl (xa_nil ⟨a, b, c, _, m, rfl, hcol, by omega, by omega, _, rfl, rfl, ?_, ⟨_, rfl, ?_, ?_⟩, fun x hx s H C cl fp => ?_⟩))))))))))))
    · exact Nat.le_trans (cols_length a0 m1 (by omega)) (by decide)
    · unfold rowL at hlen2
      rw [List.length_map] at hlen2
      rw [List.length_map, List.length_map]
      omega
    · refine ⟨rfl, .d (.int (1 + (i : Int))), ?_⟩
      rw [pairs_succ, List.map_append]
      unfold rowL
      rw [List.map_map]
      rfl
    · refine xts_one (xt_eq (xe_gcd hd.g_gcd (xv 16 rfl (xv 4 rfl (I2.mk (xe_int ⟨_, _, rfl, rfl, rfl, rfl, ?_, fun _ s H C cl fp => xe_tup (xa_cons (xv 16 rfl (xa_cons (xv 4 rfl (xa_nil ⟨Nat.le_of_ble_eq_true rfl, rfl, rfl⟩)))))⟩))))))
      show decide (V.int (gcd2 x (1 + (i : Int))) = V.int 1) = (gcd2 x (1 + (i : Int)) == 1)
      rw [Bool.eq_iff_iff, decide_eq_true_iff, beq_iff_eq]
      exact ⟨fun z => V.int.inj z, fun z => by rw [z]⟩
  · rintro t2 env ⟨rfl, z, rfl⟩
    rw [rgD_len]
    have hn : (1 + (rowsF a b c m : Int) - 1).toNat = rowsF a b c m := by omega
    rw [show ((rowsF a b c m : Int) + 1 - 1).toNat = rowsF a b c m by omega]
    have hlen := pairs_length (b := b) (c := c) a0 m1 (by omega) (rowsF a b c m)
    have hbd : ∀ z ∈ pairsL a b c m (rowsF a b c m), z.1.natAbs < 2 ^ 60 ∧ z.2.natAbs < 2 ^ 20 := fun z hz => pairs_bound (by omega) ham (by omega) (by omega) hz
    generalize pairsL a b c m (rowsF a b c m) = L at *
    refine xss_cons (xs_own 5 hN (xl_lst (xa_nil ⟨by decide, ?_⟩)))
    refine xss_firm (ao := none) (ds := L.map tP) 3 rfl ?_
    refine xss_cons (xs_for PassesOwn.never rfl (xi_lst (xv 3 rfl ⟨_, rfl, fun i t3 env => t3 = t2 ∧ ∃ z z2 z3 z4, env = [.d (tI3 f' h' l'), .d (.int m), .d (.int ((rowsF a b c m : Nat) : Int)), .d (.lst (L.map tP)), z, .own (.lst none (((L.take i).map fun z => (worthF a b c z.1 z.2, toldF (p * z.1 + q' * z.2) (r * z.1 + s' * z.2))).map tT)), .d (tI3 a b c), .d (.int a), .d (.int b), .d (.int c), z2, z3, .d (.int p), .d (.int q'), .d (.int r), .d (.int s'), z4], ⟨rfl, _, _, _, _, rfl⟩, ?_, ?_⟩)))
    · rintro i d t3 env hi ⟨rfl, z, z2, z3, z4, rfl⟩
      obtain ⟨u, h1, hu, rfl⟩ := maps_at hi
      obtain ⟨b1', b2'⟩ := hbd u hu
      have hil : i < L.length := (List.getElem?_eq_some_iff.mp h1).1
      refine xg_tup rfl (xgs_cons (xg_name 16 hN (xgs_cons (xg_name 10 hN (xgs_nil ?_)))))
      refine xss_cons (xs_set 11 hN (xe_call (w_told hd) (hr.mono (by decide)) (xa_cons (xe_add (xe_mul (xv 12 rfl (xv 16 rfl (I2.mk ⟨by unfold CMul; omega, xe_mul (xv 13 rfl (xv 10 rfl (I2.mk ⟨by unfold CMul; omega, I2.mk (xa_cons (xe_add (xe_mul (xv 14 rfl (xv 16 rfl (I2.mk ⟨by unfold CMul; omega, xe_mul (xv 15 rfl (xv 10 rfl (I2.mk ⟨by unfold CMul; omega, I2.mk (xa_nil (⟨_, _, rfl, ?_⟩))⟩)))⟩))))))⟩)))⟩))))))))
      refine xss_one (xs_append 5 rfl (by rw [List.length_map, List.length_map, List.length_take]; omega) (xe_tup (xa_cons (xe_call (w_worth_of hd) (hr.mono (by decide)) (xa_cons (xv 6 rfl (xa_cons (xv 16 rfl (xa_cons (xv 10 rfl (xa_nil (⟨_, _, _, _, _, rfl, ⟨b1', by omega, by omega⟩, xa_star (xv 11 rfl (⟨_, .inl rfl, xa_nil (⟨Nat.le_of_ble_eq_true rfl, ?_⟩)⟩))⟩))))))))))))
      refine ⟨rfl, z, .d (.int u.2), .d (tP (toldF (p * u.1 + q' * u.2) (r * u.1 + s' * u.2))), .d (.int u.1), ?_⟩
      rw [take_at h1, List.map_append, List.map_append]
      rfl
    · rintro t3 env ⟨rfl, z, z2, z3, z4, rfl⟩
      rw [List.length_map, List.take_length]
      refine xss_firm (ao := none) (ds := (L.map fun z => (worthF a b c z.1 z.2, toldF (p * z.1 + q' * z.2) (r * z.1 + s' * z.2))).map tT) 5 rfl ?_
      exact xss_one (xs_ret (xv 5 rfl hq))
end
end BS

set_option Elab.async false
set_option linter.all false
set_option maxRecDepth 100000
/-! plain: changes of forms, least forms are unique -/
namespace BS
open PySem
theorem Act.inv {f h l a b c p q r s : Int} (A : Act f h l a b c p q r s) : Act a b c f h l s (-q) (-r) p := by
  obtain ⟨ea, eb, ec, det⟩ := A
  have e1 : f = f * ((p * s - q * r) * (p * s - q * r)) := by rw [det]; grind
  have e2 : h = h * ((p * s - q * r) * (p * s - q * r)) := by rw [det]; grind
  have e3 : l = l * ((p * s - q * r) * (p * s - q * r)) := by rw [det]; grind
  refine ⟨?_, ?_, ?_, by grind⟩
  · refine e1.trans ?_
    subst ea eb ec
    grind
  · refine e2.trans ?_
    subst ea eb ec
    grind
  · refine e3.trans ?_
    subst ea eb ec
    grind
theorem Act.comp {f h l a b c p q r s a' b' c' p' q' r' s' : Int} (A : Act f h l a b c p q r s) (B : Act a b c a' b' c' p' q' r' s') : Act f h l a' b' c' (p * p' + q * r') (p * q' + q * s') (r * p' + s * r') (r * q' + s * s') := by
  obtain ⟨ea, eb, ec, det⟩ := A
  obtain ⟨fa, fb, fc, det'⟩ := B
  refine ⟨?_, ?_, ?_, ?_⟩
  · subst fa ea eb ec; grind
  · subst fb ea eb ec; grind
  · subst fc ea eb ec; grind
  · have : (p * p' + q * r') * (r * q' + s * s') - (p * q' + q * s') * (r * p' + s * r') = (p * s - q * r) * (p' * s' - q' * r') := by grind
    rw [this, det, det']
    rfl
theorem gcd3 (a b c : Int) : gcdL [a, b, c] = ((Nat.gcd (Nat.gcd a.natAbs b.natAbs) c.natAbs : Nat) : Int) := by
  unfold gcdL gcd2
  simp
theorem gcd3_dvd {a b c : Int} {g : Nat} (h : gcdL [a, b, c] = 1) (ha : (g : Int) ∣ a) (hb : (g : Int) ∣ b) (hc : (g : Int) ∣ c) : g = 1 := by
  rw [gcd3] at h
  have h1 : Nat.gcd (Nat.gcd a.natAbs b.natAbs) c.natAbs = 1 := by omega
  have d1 := Nat.dvd_gcd (Nat.dvd_gcd (Int.ofNat_dvd_left.mp ha) (Int.ofNat_dvd_left.mp hb)) (Int.ofNat_dvd_left.mp hc)
  rw [h1] at d1
  exact Nat.dvd_one.mp d1
theorem gcd3_of {a b c : Int} (h : ∀ g : Nat, (g : Int) ∣ a → (g : Int) ∣ b → (g : Int) ∣ c → g = 1) : gcdL [a, b, c] = 1 := by
  rw [gcd3]
  have := h (Nat.gcd (Nat.gcd a.natAbs b.natAbs) c.natAbs) (Int.ofNat_dvd_left.mpr (Nat.dvd_trans (Nat.gcd_dvd_left _ _) (Nat.gcd_dvd_left _ _))) (Int.ofNat_dvd_left.mpr (Nat.dvd_trans (Nat.gcd_dvd_left _ _) (Nat.gcd_dvd_right _ _))) (Int.ofNat_dvd_left.mpr (Nat.gcd_dvd_right _ _))
  rw [this]
  rfl
theorem dvd_lin3 {g a b c x y z : Int} (ha : g ∣ a) (hb : g ∣ b) (hc : g ∣ c) : g ∣ a * x + b * y + c * z :=
  Int.dvd_add (Int.dvd_add (Int.dvd_mul_of_dvd_left ha) (Int.dvd_mul_of_dvd_left hb)) (Int.dvd_mul_of_dvd_left hc)
theorem Act.gcd {f h l a b c p q r s : Int} (A : Act f h l a b c p q r s) (hg : gcdL [f, h, l] = 1) : gcdL [a, b, c] = 1 := by
  refine gcd3_of fun g ha hb hc => ?_
  obtain ⟨e1, e2, e3, _⟩ := A.inv
  refine gcd3_dvd hg ?_ ?_ ?_
  · rw [show f = a * (s * s) + b * (2 * s * (-r)) + c * ((-r) * (-r)) by rw [e1]; grind]
    exact dvd_lin3 ha hb hc
  · rw [show h = a * (s * (-q)) + b * (s * p + (-q) * (-r)) + c * ((-r) * p) by rw [e2]; grind]
    exact dvd_lin3 ha hb hc
  · rw [show l = a * ((-q) * (-q)) + b * (2 * (-q) * p) + c * (p * p) by rw [e3]; grind]
    exact dvd_lin3 ha hb hc
/-- the least value -/
theorem xy_pos {X Y : Int} (hX : 0 ≤ X) (hY : 0 < Y) : 1 ≤ X * X - X * Y + Y * Y := by
  rcases Int.lt_or_le X Y with z | z
  · have h1 : 0 < Y * (Y - X) := Int.mul_pos hY (by omega)
    have h2 := Int.mul_nonneg hX hX
    have e : X * X - X * Y + Y * Y = X * X + Y * (Y - X) := by grind
    omega
  · have h1 : 0 ≤ X * (X - Y) := Int.mul_nonneg hX (by omega)
    have h2 : 0 < Y * Y := Int.mul_pos hY hY
    have e : X * X - X * Y + Y * Y = X * (X - Y) + Y * Y := by grind
    omega
theorem abs_sq (x : Int) : (x.natAbs : Int) * x.natAbs = x * x := Int.natAbs_mul_self' x
theorem cross_le {a b x y : Int} (h1 : -a < 2 * b) (h2 : 2 * b ≤ a) : -(a * ((x.natAbs : Int) * y.natAbs)) ≤ 2 * b * x * y := by
  have e : (x.natAbs : Int) * y.natAbs = ((x * y).natAbs : Int) := by rw [Int.natAbs_mul]; rfl
  rw [e, Int.mul_assoc (2 * b) x y]
  generalize x * y = z
  rcases Int.le_total 0 z with hz | hz
  · rw [show ((z.natAbs : Nat) : Int) = z by omega]
    have : (-a) * z ≤ 2 * b * z := Int.mul_le_mul_of_nonneg_right (by omega) hz
    have e2 : (-a) * z = -(a * z) := by grind
    omega
  · rw [show ((z.natAbs : Nat) : Int) = -z by omega]
    have : 2 * b * (-z) ≤ a * (-z) := Int.mul_le_mul_of_nonneg_right h2 (by omega)
    have e2 : 2 * b * (-z) = -(2 * b * z) := by grind
    omega
theorem red_val {a b c x y : Int} (h : Red a b c) : a * ((x.natAbs : Int) * x.natAbs - x.natAbs * y.natAbs + y.natAbs * y.natAbs) + (c - a) * (y * y) ≤ a * x * x + 2 * b * x * y + c * y * y := by
  obtain ⟨h1, h2, h3, h4⟩ := h
  have := cross_le (x := x) (y := y) h2 h3
  have e1 := abs_sq x
  have e2 := abs_sq y
  have e : a * ((x.natAbs : Int) * x.natAbs - x.natAbs * y.natAbs + y.natAbs * y.natAbs) + (c - a) * (y * y) = a * ((x.natAbs : Int) * x.natAbs) - a * ((x.natAbs : Int) * y.natAbs) + a * ((y.natAbs : Int) * y.natAbs) + (c - a) * (y * y) := by grind
  rw [e, e1, e2]
  have e3 : a * (x * x) - a * ((x.natAbs : Int) * y.natAbs) + a * (y * y) + (c - a) * (y * y) = a * x * x + c * y * y - a * ((x.natAbs : Int) * y.natAbs) := by grind
  omega
theorem red_min {a b c x y : Int} (h : Red a b c) (hy : y ≠ 0) : a + (c - a) * (y * y) ≤ a * x * x + 2 * b * x * y + c * y * y := by
  have h1 := red_val (x := x) (y := y) h
  have h2 := xy_pos (X := x.natAbs) (Y := y.natAbs) (by omega) (by omega)
  have h3 : a * 1 ≤ a * ((x.natAbs : Int) * x.natAbs - x.natAbs * y.natAbs + y.natAbs * y.natAbs) := Int.mul_le_mul_of_nonneg_left h2 (Int.le_of_lt h.1)
  omega
theorem one_of_mul {p s : Int} (h : p * s = 1) : (p = 1 ∧ s = 1) ∨ (p = -1 ∧ s = -1) := by
  have h1 : p.natAbs * s.natAbs = 1 := by rw [← Int.natAbs_mul, h]; rfl
  have h2 : p.natAbs = 1 := Nat.dvd_one.mp ⟨s.natAbs, h1.symm⟩
  have h3 : p = 1 ∨ p = -1 := by omega
  rcases h3 with rfl | rfl
  · exact .inl ⟨rfl, by omega⟩
  · exact .inr ⟨rfl, by omega⟩
theorem red_ac {a b c : Int} (h : Red a b c) : a ≤ c := by
  obtain ⟨_, _, _, h4⟩ := h
  omega
theorem red_a_le {a b c a' b' c' p q r s : Int} (h : Red a b c) (A : Act a b c a' b' c' p q r s) : a ≤ a' := by
  have hp := h.1
  have hc := red_ac h
  by_cases hr : r = 0
  · have hd := A.det
    rw [hr] at hd
    have h1 : p * s = 1 := by omega
    have e := A.ea
    rw [hr] at e
    rcases one_of_mul h1 with ⟨rfl, _⟩ | ⟨rfl, _⟩ <;> omega
  · have h1 := red_min (x := p) h hr
    have h2 : 0 ≤ (c - a) * (r * r) := Int.mul_nonneg (by omega) (sq_nonneg' r)
    have := A.ea
    omega
theorem ne_sq {r : Int} (h : r ≠ 0) : 1 ≤ r * r := by
  have h1 : 0 < r * r := by
    rcases Int.lt_or_gt_of_ne h with z | z
    · exact Int.mul_pos_of_neg_of_neg z z
    · exact Int.mul_pos z z
  omega
/-- a least form and a least form of one class -/
theorem red_same {a b c a' b' c' p q r s : Int} (h : Red a b c) (h' : Red a' b' c') (A : Act a b c a' b' c' p q r s) : a' = a ∧ b' = b ∧ c' = c := by
  have l1 := red_a_le h A
  have l2 := red_a_le h' A.inv
  have ea : a' = a := by omega
  have hd := A.disc
  have hp := h.1
  have key : b' = b → a' = a ∧ b' = b ∧ c' = c := fun eb => by
    refine ⟨ea, eb, ?_⟩
    rw [ea, eb] at hd
    have e : a * c' = a * c := by omega
    exact Int.eq_of_mul_eq_mul_left (by omega) e
  by_cases hr : r = 0
  · have hd' := A.det
    rw [hr] at hd'
    have h1 : p * s = 1 := by omega
    have eb := A.eb
    rw [hr] at eb
    have eb2 : b' = b + a * (p * q) := by
      rw [eb]
      have : p * s + q * 0 = 1 := by omega
      rw [this]
      grind
    obtain ⟨_, m1, m2, _⟩ := h
    obtain ⟨_, m3, m4, _⟩ := h'
    rw [ea] at m3 m4
    refine key ?_
    have h0 : p * q = 0 := by
      rcases Int.lt_trichotomy (p * q) 0 with z | z | z
      · have : a * (p * q) ≤ a * (-1) := Int.mul_le_mul_of_nonneg_left (by omega) (by omega)
        omega
      · exact z
      · have : a * 1 ≤ a * (p * q) := Int.mul_le_mul_of_nonneg_left (by omega) (by omega)
        omega
    rw [eb2, h0]
    omega
  · have m1 := red_min (x := p) h hr
    have m2 := red_min (x := s) h' (y := -r) (by omega)
    have n1 := A.ea
    have n2 := A.inv.ea
    have hc := red_ac h
    have hc' := red_ac h'
    have s1 := ne_sq hr
    have k1 : (c - a) * (r * r) ≤ 0 := by omega
    have k2 : (c' - a') * (-r * -r) ≤ 0 := by omega
    have z1 : c = a := by
      rcases Int.lt_or_le a c with z | z
      · have : 0 < (c - a) * (r * r) := Int.mul_pos (by omega) (by omega)
        omega
      · omega
    have z2 : c' = a' := by
      rcases Int.lt_or_le a' c' with z | z
      · have e : -r * -r = r * r := by grind
        have : 0 < (c' - a') * (-r * -r) := Int.mul_pos (by omega) (by omega)
        omega
      · omega
    have b0 : 0 ≤ b := by
      obtain ⟨_, _, _, q⟩ := h
      omega
    have b0' : 0 ≤ b' := by
      obtain ⟨_, _, _, q⟩ := h'
      omega
    rw [z1, z2, ea] at hd
    have e : b' * b' = b * b := by omega
    refine key ?_
    have e2 : (b' - b) * (b' + b) = 0 := by grind
    rcases Int.mul_eq_zero.mp e2 with z | z <;> omega
theorem red_unique {f h l a b c p q r s a' b' c' p' q' r' s' : Int} (h1 : Red a b c) (A : Act f h l a b c p q r s) (h2 : Red a' b' c') (B : Act f h l a' b' c' p' q' r' s') : a' = a ∧ b' = b ∧ c' = c := red_same h1 h2 (A.inv.comp B)
end BS

set_option Elab.async false
set_option linter.all false
set_option maxRecDepth 100000
set_option maxHeartbeats 4000000
/-! comprehensions over triples; the walks: forms_with, need_worth, roots_by, many_touching, touching -/
namespace BS
open PySem PySem.Spec PyProof.Rows L2
theorem perm_map_ex {α β : Type} {f : α → β} {es ds : List β} (h : es.Perm ds) : ∀ L : List α, ds = L.map f → ∃ L' : List α, L'.Perm L ∧ es = L'.map f := by
  induction h with
  | nil =>
    intro L e
    cases L with
    | nil => exact ⟨[], .nil, rfl⟩
    | cons a r => cases e
  | cons x _ ih =>
    intro L e
    cases L with
    | nil => cases e
    | cons a r =>
      injection e with e1 e2
      obtain ⟨L', h1, h2⟩ := ih r e2
      exact ⟨a :: L', h1.cons a, by rw [e1, h2]; rfl⟩
  | swap x y l =>
    intro L e
    cases L with
    | nil => cases e
    | cons a r =>
      cases r with
      | nil => cases e
      | cons b r =>
        injection e with e1 e2
        injection e2 with e2 e3
        exact ⟨b :: a :: r, .swap a b r, by rw [e1, e2, e3]; rfl⟩
  | trans _ _ ih1 ih2 =>
    intro L e
    obtain ⟨L2, h1, h2⟩ := ih2 L e
    obtain ⟨L3, h3, h4⟩ := ih1 L2 h2
    exact ⟨L3, h3.trans h1, h4⟩
section
variable {X : Cx} {elt c iter : Expr} {ifs : List Expr} {t : Nat} {env : List Sl} {px pos p : Pos} {y : Str}
theorem xe_lcE {scope : Scope} {x : Str} {α : Type} (f g : α → D) (j : Nat) {Qe : Nat → D → Prop} (hc : X.calm = true) (hN : X.N.Nodup)
    (h : XI X (.Name x px) iter t env fun t1 ds => ∃ L : List α, ds = L.map f ∧ L.length ≤ 100000 ∧ Qe t1 (.lst (L.map g)) ∧
      ∀ a ∈ L, Blk X scope fun B2 => XE B2 elt t1 ((blkEnv env [j]).set j (.d (f a))) fun t3 y => t3 = t1 ∧ y = g a)
    (hb : blkC X.N X.env.scope scope [(x, j)] = true := by decide +kernel) (hg : ∀ (s : Shared) (H : Hp) (C : Addr) (cl : List (Str × Addr)) (fp : List Addr), PG (X.blk s H scope (compEnvC scope cl C X.env) fp) (.Name x px) (gName j))
    (hs : ∀ x, foldedSetIterable iter X.env x = pure x := by intro _; rfl) : XE X (.ListComp elt [⟨.Name x px, iter, [], 0⟩] scope pos) t env Qe := by
  refine xe_lc1 j hc hN ?_ hb hg hs
  refine fun J G0 H0 G H σ S pins s I => thn (h J G0 H0 G H σ S pins s I) fun v s1 h1 => thn h1 fun u s2 ⟨it, fp, tn, It, H1, e1, e2, e3, e4, e5, G1, t1, ds, sG, S1, ok, L, ed, hl, q, st⟩ => ⟨it, fp, tn, It, H1, e1, e2, e3, e4, e5, G1, t1, ds, sG, S1, ok, ?_⟩
  subst ed
  refine ⟨by rw [List.length_map]; exact hl, fun i acc => acc = (L.take i).map g, rfl, fun acc ha => ?_, fun i d acc hi ha s H C cl fp => ?_⟩
  · rw [show acc = _ from ha, List.length_map, List.take_length]
    exact q
  · obtain ⟨a, h1, h2, rfl⟩ := maps_at hi
    refine xts_nil ⟨rfl, fun _ s H C cl fp => (st a h2 s _ C cl fp).mono fun t3 y ⟨e3, e4⟩ => ⟨e3, ?_⟩, nofun⟩
    rw [e4]
    show acc ++ [g a] = _
    rw [take_at h1, List.map_append, show acc = _ from ha]
    rfl
theorem xe_lc3F {scope : Scope} {x1 x2 x3 : Str} {p1 p2 p3 pt : Pos} {kt : Nat} {α : Type} (f1 f2 f3 g : α → D) (pr : α → Bool) (j1 j2 j3 : Nat) {Qe : Nat → D → Prop} (hc : X.calm = true) (hN : X.N.Nodup)
    (h : XI X (.Tuple [.Name x1 p1, .Name x2 p2, .Name x3 p3] kt pt) iter t env fun t1 ds => ∃ L : List α, ds = L.map (fun a => .tup [f1 a, f2 a, f3 a]) ∧ L.length ≤ 100000 ∧ Qe t1 (.lst ((L.filter pr).map g)) ∧
      ∀ a ∈ L, Blk X scope fun B => XTs B ifs t1 ((((blkEnv env [j1, j2, j3]).set j1 (.d (f1 a))).set j2 (.d (f2 a))).set j3 (.d (f3 a))) fun t2 b => t2 = t1 ∧ b = pr a ∧
        (pr a = true → Blk X scope fun B2 => XE B2 elt t1 ((((blkEnv env [j1, j2, j3]).set j1 (.d (f1 a))).set j2 (.d (f2 a))).set j3 (.d (f3 a))) fun t3 y => t3 = t1 ∧ y = g a))
    (hb : blkC X.N X.env.scope scope [(x1, j1), (x2, j2), (x3, j3)] = true := by decide +kernel) (hg : ∀ (s : Shared) (H : Hp) (C : Addr) (cl : List (Str × Addr)) (fp : List Addr), PG (X.blk s H scope (compEnvC scope cl C X.env) fp) (.Tuple [.Name x1 p1, .Name x2 p2, .Name x3 p3] kt pt) (gTup X.K 3 (gCons (gName j1) (gCons (gName j2) (gCons (gName j3) gNil)))))
    (hs : ∀ x, foldedSetIterable iter X.env x = pure x := by intro _; rfl) : XE X (.ListComp elt [⟨.Tuple [.Name x1 p1, .Name x2 p2, .Name x3 p3] kt pt, iter, ifs, 0⟩] scope pos) t env Qe := by
  refine xe_lc3 j1 j2 j3 hc hN ?_ hb hg hs
  refine fun J G0 H0 G H σ S pins s I => thn (h J G0 H0 G H σ S pins s I) fun v s1 h1 => thn h1 fun u s2 ⟨it, fp, tn, It, H1, e1, e2, e3, e4, e5, G1, t1, ds, sG, S1, ok, L, ed, hl, q, st⟩ => ⟨it, fp, tn, It, H1, e1, e2, e3, e4, e5, G1, t1, ds, sG, S1, ok, ?_⟩
  subst ed
  refine ⟨by rw [List.length_map]; exact hl, fun i acc => acc = ((L.take i).filter pr).map g, rfl, fun acc ha => ?_, fun i d acc hi ha => ?_⟩
  · rw [show acc = _ from ha, List.length_map, List.take_length]
    exact q
  · obtain ⟨a, h1, h2, rfl⟩ := maps_at hi
    refine ⟨_, _, _, rfl, fun s H C cl fp => ?_⟩
    have hx : ∀ (b : Bool), pr a = b → acc ++ (if b = true then [g a] else []) = ((L.take (i + 1)).filter pr).map g := fun b hb => by
      rw [take_at h1, List.filter_append, List.map_append, show acc = _ from ha]
      cases b with
      | true => rw [List.filter_cons_of_pos (by rw [hb])] <;> rfl
      | false => rw [List.filter_cons_of_neg (by rw [hb]; exact Bool.false_ne_true)] <;> rfl
    refine fun J G0 H0 G H σ S => (st a h2 s _ C cl fp J G0 H0 G H σ S).mono fun b H' ⟨G', t', sG', S', et, eb, hq⟩ => ⟨G', t', sG', S', et, fun h3 s H C cl fp => ?_, fun h3 => ?_⟩
    · have h4 : pr a = true := by rw [← eb]; exact h3
      refine (hq h4 s H C cl fp).mono fun t3 y ⟨e3, e4⟩ => ⟨e3, ?_⟩
      rw [e4]
      exact hx true h4
    · have h4 : pr a = false := by rw [← eb]; exact h3
      have := hx false h4
      rw [if_neg Bool.false_ne_true, List.append_nil] at this
      exact this
theorem xs_setLc3F {scope : Scope} {x1 x2 x3 : Str} {p1 p2 p3 pt : Pos} {kt : Nat} {α : Type} (f1 f2 f3 g : α → D) (pr : α → Bool) (i0 j1 j2 j3 : Nat) {Q : Nat → List Sl → Prop} {R : Nat → List Sl → D → Prop} (hc : X.calm = true) (hN : X.N.Nodup)
    (h : XI X (.Tuple [.Name x1 p1, .Name x2 p2, .Name x3 p3] kt pt) iter t env fun t1 ds => ∃ L : List α, ds = L.map (fun a => .tup [f1 a, f2 a, f3 a]) ∧ L.length ≤ 100000 ∧ Q t1 (env.set i0 (.d (.lst ((L.filter pr).map g)))) ∧
      ∀ a ∈ L, Blk X scope fun B => XTs B ifs t1 ((((blkEnv env [j1, j2, j3]).set j1 (.d (f1 a))).set j2 (.d (f2 a))).set j3 (.d (f3 a))) fun t2 b => t2 = t1 ∧ b = pr a ∧
        (pr a = true → Blk X scope fun B2 => XE B2 elt t1 ((((blkEnv env [j1, j2, j3]).set j1 (.d (f1 a))).set j2 (.d (f2 a))).set j3 (.d (f3 a))) fun t3 y => t3 = t1 ∧ y = g a))
    {py : Pos} (hy : X.N[i0]? = some y := by rfl) (hyl : X.env.scope.names.lookup y = some .local := by rfl) (hkd : X.env.scope.kind = .function := by rfl) (hln : (py.line == pos.line) = true := by rfl)
    (hay : (scope.names.any fun (n, k) => n == y && (k == .local || k == .cell)) = false := by decide +kernel)
    (hb : blkC X.N X.env.scope scope [(x1, j1), (x2, j2), (x3, j3)] = true := by decide +kernel) (hg : ∀ (s : Shared) (H : Hp) (C : Addr) (cl : List (Str × Addr)) (fp : List Addr), PG (X.blk s H scope (compEnvC scope cl C X.env) fp) (.Tuple [.Name x1 p1, .Name x2 p2, .Name x3 p3] kt pt) (gTup X.K 3 (gCons (gName j1) (gCons (gName j2) (gCons (gName j3) gNil)))))
    (hs : ∀ x, foldedSetIterable iter X.env x = pure x := by intro _; rfl) : XS X (.Assign [.Name y py] (.ListComp elt [⟨.Tuple [.Name x1 p1, .Name x2 p2, .Name x3 p3] kt pt, iter, ifs, 0⟩] scope pos) p) t env Q R := by
  refine xs_setLc3 i0 j1 j2 j3 hc hN ?_ hy hyl hkd hln hay hb hg hs
  refine fun J G0 H0 G H σ S pins s I => thn (h J G0 H0 G H σ S pins s I) fun v s1 h1 => thn h1 fun u s2 ⟨it, fp, tn, It, H1, e1, e2, e3, e4, e5, G1, t1, ds, sG, S1, ok, L, ed, hl, q, st⟩ => ⟨it, fp, tn, It, H1, e1, e2, e3, e4, e5, G1, t1, ds, sG, S1, ok, ?_⟩
  subst ed
  refine ⟨by rw [List.length_map]; exact hl, fun i acc => acc = ((L.take i).filter pr).map g, rfl, fun acc ha => ?_, fun i d acc hi ha => ?_⟩
  · rw [show acc = _ from ha, List.length_map, List.take_length]
    exact q
  · obtain ⟨a, h1, h2, rfl⟩ := maps_at hi
    refine ⟨_, _, _, rfl, fun s H C cl fp => ?_⟩
    have hx : ∀ (b : Bool), pr a = b → acc ++ (if b = true then [g a] else []) = ((L.take (i + 1)).filter pr).map g := fun b hb => by
      rw [take_at h1, List.filter_append, List.map_append, show acc = _ from ha]
      cases b with
      | true => rw [List.filter_cons_of_pos (by rw [hb])] <;> rfl
      | false => rw [List.filter_cons_of_neg (by rw [hb]; exact Bool.false_ne_true)] <;> rfl
    refine fun J G0 H0 G H σ S => (st a h2 s _ C cl fp J G0 H0 G H σ S).mono fun b H' ⟨G', t', sG', S', et, eb, hq⟩ => ⟨G', t', sG', S', et, fun h3 s H C cl fp => ?_, fun h3 => ?_⟩
    · have h4 : pr a = true := by rw [← eb]; exact h3
      refine (hq h4 s H C cl fp).mono fun t3 y ⟨e3, e4⟩ => ⟨e3, ?_⟩
      rw [e4]
      exact hx true h4
    · have h4 : pr a = false := by rw [← eb]; exact h3
      have := hx false h4
      rw [if_neg Bool.false_ne_true, List.append_nil] at this
      exact this
end
/-! ### plain -/
def rootOk (n w : Int) (k : Nat) : Bool := decide (V.int (((k : Int) * k + n * n) % w) = V.int 0) && decide (V.int (gcdL [w, (k : Int), ((k : Int) * k + n * n) / w]) = V.int 1)
def rootT (n w : Int) (k : Nat) : Int × Int × Int := (w, (k : Int), ((k : Int) * k + n * n) / w)
def rootsL (n w : Int) : List (Int × Int × Int) := ((List.range w.toNat).filter (rootOk n w)).map (rootT n w)
def RedOf (z R : Int × Int × Int) : Prop := Red R.1 R.2.1 R.2.2 ∧ ∃ p q r s, Act z.1 z.2.1 z.2.2 R.1 R.2.1 R.2.2 p q r s
noncomputable def redOf (z : Int × Int × Int) : Int × Int × Int := @Classical.epsilon _ ⟨(0, 0, 0)⟩ (RedOf z)
theorem redOf_eq {f h l a b c p q r s : Int} (R : Red a b c) (A : Act f h l a b c p q r s) : redOf (f, h, l) = (a, b, c) := by
  have e : RedOf (f, h, l) (redOf (f, h, l)) := @Classical.epsilon_spec_aux _ ⟨(0, 0, 0)⟩ (RedOf (f, h, l)) ⟨(a, b, c), R, p, q, r, s, A⟩
  obtain ⟨R2, p', q', r', s', A2⟩ := e
  obtain ⟨e1, e2, e3⟩ := red_unique R A R2 A2
  exact Prod.ext e1 (Prod.ext e2 e3)
noncomputable def manyF (n w : Int) (N : Int × Int × Int) : Int :=
  let k : Nat := ((rootsL n w).filter fun z => decide (redOf z = redOf N)).length
  if n = 1 ∨ n = -1 then 2 * (k : Int) else k
section
variable {P : Program} {w : World} {K : PySem.W.Frag} {mg : Str → Option Value} {base : Heap}
theorem sc_need_worth : FnScope ["four", "place", "number", "here"] ["four", "place", "number"] (defScope s_need_worth) := ⟨rfl, rfl, rfl, by decide +kernel, rfl, by decide +kernel, by decide +kernel⟩
def S_need_worth (K : PySem.W.Frag) : SpT := fun ds t Q => ∃ (a b c d p m : Int), ds = [fourD K [a, b, c, d], .int p, .int m] ∧ 0 ≤ p ∧ p < 4 ∧ bendAt a b c d p ≠ 0 ∧ 1 - bendAt a b c d p ≤ m ∧ m ≤ 2000 - bendAt a b c d p ∧ Q t .non
theorem w_need_worth (hd : HF K mg) : Fn P w K mg base 6 "need_worth" [] (S_need_worth K) := by
  refine mkF hd.d_need_worth sc_need_worth (fun ds t Q h => by obtain ⟨_, _, _, _, _, _, rfl, _⟩ := h; rfl) (fun _ _ _ _ _ _ us hl => match us, hl with | [_, _, _], _ => rfl) fun f cdv A outer s H E hr ds t Q h => ?_
  have hN := sc_need_worth.nd
  obtain ⟨a, b, c, d, p, m, rfl, h0, h4, hz, m0, m1, q⟩ := h
  refine xss_cons (xs_expr (xe_call (w_need_bent hd) (hr.mono (by decide)) (xa_cons (xv 0 rfl (xa_cons (xv 1 rfl (xa_nil (⟨_, _, rfl, h0, h4, ?_⟩))))))))
  refine xss_cons (xs_set 3 hN (xe_ix (fun _ _ => rfl) (xe_fld 0 hd.c_Four hd.n_Four_bends (xv 0 rfl (⟨_, _, _, rfl, rfl, nofun, rfl, xv 1 rfl (⟨_, _, _, .inr rfl, rfl, h0, bendD_get h0 h4, ?_⟩)⟩)))))
  refine xss_cons (xs_expr (xe_call (w_need_number hd) (hr.mono (by decide)) (xa_cons (xv 2 rfl (xa_cons (xe_str (xa_cons (xe_sub (xe_int (xv 3 rfl (I2.mk (xa_cons (xe_sub (xe_gint hd.i_MOST_WORTH (xv 3 rfl (I2.mk (xa_nil (⟨_, _, _, _, rfl, m0, m1, ?_⟩))))))))))))))))))
  refine xss_one (xs_expr (xe_call (w_need_round hd) (hr.mono (by decide)) (xa_cons (xv 0 rfl (xa_cons (xv 1 rfl (xa_nil (⟨_, _, _, rfl, h0, bend_get h0 h4, hz, q⟩))))))))
theorem sc_roots_by : FnScope ["side", "worth", "found", "root", "square"] ["side", "worth"] (defScope s_roots_by) := ⟨rfl, rfl, rfl, by decide +kernel, rfl, by decide +kernel, by decide +kernel⟩
def S_roots_by : SpT := fun ds t Q => ∃ n w : Int, ds = [.int n, .int w] ∧ 0 < w ∧ w < 2 ^ 12 ∧ n.natAbs < 2 ^ 20 ∧ Q t (.lst ((rootsL n w).map tT))
theorem w_roots_by (hd : HF K mg) : Fn P w K mg base 2 "roots_by" [] S_roots_by := by
  refine mkF hd.d_roots_by sc_roots_by (fun ds t Q h => by obtain ⟨_, _, rfl, _⟩ := h; rfl) (fun _ _ _ _ _ _ us hl => match us, hl with | [_, _], _ => rfl) fun f cdv A outer s H E hr ds t Q h => ?_
  have hN := sc_roots_by.nd
  obtain ⟨n, v, rfl, w0, w1, n1, q⟩ := h
  refine xss_cons (xs_own 2 hN (xl_lst (xa_nil ⟨by decide, ?_⟩)))
  refine xss_cons (xs_for PassesOwn.never rfl (xi_rg1 hd.f_range (xv 1 rfl (⟨v.toNat, by rw [Int.toNat_of_nonneg (by omega)], by omega, fun i t2 env => t2 = t ∧ ∃ z z2, env = [.d (.int n), .d (.int v), .own (.lst none ((((List.range i).filter (rootOk n v)).map (rootT n v)).map tT)), z, z2], ⟨rfl, _, _, rfl⟩, ?_, ?_⟩))))
  · rintro i d t2 env hi ⟨rfl, z, z2, rfl⟩
    obtain ⟨hi1, rfl⟩ := rgD_at hi
    rw [show (0 + (i : Int)) = i by omega]
    have hlen : ((List.range i).filter (rootOk n v)).length ≤ i := by
      have := List.length_filter_le (rootOk n v) (List.range i)
      rw [List.length_range] at this
      exact this
    have fin : ∀ b : Bool, rootOk n v i = b → ((((List.range (i + 1)).filter (rootOk n v)).map (rootT n v)).map tT) = ((((List.range i).filter (rootOk n v)).map (rootT n v)).map tT) ++ (if b = true then [tT (rootT n v i)] else []) := fun b hb => by
      rw [List.range_succ, List.filter_append, List.map_append, List.map_append]
      cases b with
      | true => rw [List.filter_cons_of_pos (by rw [hb])] <;> rfl
      | false => rw [List.filter_cons_of_neg (by rw [hb]; exact Bool.false_ne_true)] <;> rfl
    refine xg_name 3 hN ?_
    refine xss_cons (xs_set 4 hN (xe_add (xe_mul (xv 3 rfl (xv 3 rfl (I2.mk ⟨by unfold CMul; omega, xe_mul (xv 0 rfl (xv 0 rfl (I2.mk ⟨by unfold CMul; omega, I2.mk ?_⟩)))⟩))))))
    refine xss_one (xs_if (xt_w (xw_and (xt_eq (xe_mod (xv 4 rfl (xv 1 rfl (I2.mk ⟨w0, xe_int (⟨_, _, rfl, rfl, rfl, ⟨fun h => xw_and1 (xt_eq (xe_call (w_measure hd) (hr.mono (by decide)) (xa_cons (xe_l (xl_lst (xa_cons (xv 1 rfl (xa_cons (xv 3 rfl (xa_cons (xe_fdiv (xv 4 rfl (xv 1 rfl (I2.mk ⟨by unfold CDiv; omega, xa_nil (⟨Nat.le_of_ble_eq_true rfl, xa_nil (⟨_, [v, (i : Int), ((i : Int) * i + n * n) / v], rfl, .inl rfl, xe_int (⟨_, _, rfl, rfl, rfl, ⟨fun h2 => ?_, fun h2 => ?_⟩⟩)⟩)⟩)⟩)))))))))))))), fun h => ⟨nofun, fun _ => ?_⟩⟩⟩)⟩))))))))
    · have hb : rootOk n v i = true := by unfold rootOk; rw [h, h2]; rfl
      refine xss_one (xs_append 2 rfl (by rw [List.length_map, List.length_map]; omega) (xe_tup (xa_cons (xv 1 rfl (xa_cons (xv 3 rfl (xa_cons (xe_fdiv (xv 4 rfl (xv 1 rfl (I2.mk ⟨by unfold CDiv; omega, xa_nil (⟨Nat.le_of_ble_eq_true rfl, ⟨rfl, .d (.int i), .d (.int ((i : Int) * i + n * n)), ?_⟩⟩)⟩)))))))))))
      rw [fin true hb]
      rfl
    · have hb : rootOk n v i = false := by unfold rootOk; rw [h2, Bool.and_false]
      refine xss_nil ⟨rfl, .d (.int i), .d (.int ((i : Int) * i + n * n)), ?_⟩
      rw [fin false hb, if_neg Bool.false_ne_true, List.append_nil]
      rfl
    · have hb : rootOk n v i = false := by unfold rootOk; rw [h, Bool.false_and]
      refine xss_nil ⟨rfl, .d (.int i), .d (.int ((i : Int) * i + n * n)), ?_⟩
      rw [fin false hb, if_neg Bool.false_ne_true, List.append_nil]
      rfl
  · rintro t2 env ⟨rfl, z, z2, rfl⟩
    rw [rgD_len]
    refine xss_firm (ao := none) (ds := (rootsL n v).map tT) 2 rfl ?_
    exact xss_one (xs_ret (xv 2 rfl q))
end
end BS

set_option Elab.async false
set_option linter.all false
set_option maxRecDepth 100000
set_option maxHeartbeats 4000000
/-! the walks: forms_with, many_touching, touching -/
namespace BS
open PySem PySem.Spec PyProof.Rows L2
theorem red_formOk {f h l a b c p q r s : Int} {n : Nat} (hf : f < 2 ^ 29) (R : Red a b c) (A : Act f h l a b c p q r s) (haf : a ≤ f) (hD : f * l - h * h = (n : Int) * n) (n0 : 0 < n) (n1 : n < 2 ^ 20) (hg : gcdL [f, h, l] = 1) : FormOk a b c n := by
  have hd := A.disc
  obtain ⟨h1, h2, h3, h4⟩ := R
  have hn : (n : Int) * n < 2 ^ 40 := by
    have : n * n < 2 ^ 20 * 2 ^ 20 := Nat.mul_lt_mul'' n1 n1
    rw [← Int.natCast_mul]
    omega
  have hn0 : 0 < (n : Int) * n := Int.mul_pos (by omega) (by omega)
  have hc : 0 < c := pos_of_disc (by rw [hd, hD]) hn0 h1
  have hb : b * b < 2 ^ 58 := by
    rw [← abs_sq b]
    have : b.natAbs * b.natAbs < 2 ^ 29 * 2 ^ 29 := Nat.mul_lt_mul'' (by omega) (by omega)
    rw [← Int.natCast_mul]
    omega
  have hcc : c * 1 ≤ c * a := Int.mul_le_mul_of_nonneg_left (by omega) (by omega)
  have e : c * a = a * c := Int.mul_comm c a
  exact ⟨h1, hc, by rw [hd, hD], n0, by omega, by omega, by omega, by omega, A.gcd hg⟩
section
variable {P : Program} {w : World} {K : PySem.W.Frag} {mg : Str → Option Value} {base : Heap}
theorem sc_forms_with : FnScope ["worth", "side", "found", "half", "total", "numbers"] ["worth", "side"] (defScope s_forms_with) := ⟨rfl, rfl, rfl, by decide +kernel, rfl, by decide +kernel, by decide +kernel⟩
def S_forms_with (K : PySem.W.Frag) : SpT := fun ds t Q => ∃ (v : Int) (n : Nat), ds = [.int v, .int n] ∧ 0 < v ∧ v < 2 ^ 12 ∧ 0 < n ∧ n < 2 ^ 20 ∧ ∀ fs : List D, fs.length ≤ 5000 → (∀ f ∈ fs, ∃ a b c n, f = formD K a b c n) → Q t (.tup fs)
theorem w_forms_with (hd : HF K mg) : Fn P w K mg base 7 "forms_with" [] (S_forms_with K) := by
  refine mkF hd.d_forms_with sc_forms_with (fun ds t Q h => by obtain ⟨_, _, rfl, _⟩ := h; rfl) (fun _ _ _ _ _ _ us hl => match us, hl with | [_, _], _ => rfl) fun f cdv A outer s H E hr ds t Q h => ?_
  have hN := sc_forms_with.nd
  obtain ⟨v, n, rfl, w0, w1, n0, n1, q⟩ := h
  have hn0 : 0 < (n : Int) * n := Int.mul_pos (by omega) (by omega)
  refine xss_cons (xs_own 2 hN (xl_lst (xa_nil ⟨by decide, ?_⟩)))
  refine xss_cons (xs_for PassesOwn.never rfl (xi_rg1 hd.f_range (xv 0 rfl (⟨v.toNat, by rw [Int.toNat_of_nonneg (by omega)], by omega, fun i t2 env => t2 = t ∧ ∃ z z2 z3 fs, env = [.d (.int v), .d (.int n), .own (.lst none fs), z, z2, z3] ∧ fs.length ≤ i ∧ (∀ f ∈ fs, ∃ a b c n, f = formD K a b c n), ⟨rfl, _, _, _, [], rfl, Nat.le_refl _, nofun⟩, ?_, ?_⟩))))
  · rintro i d t2 env hi ⟨rfl, z, z2, z3, fs, rfl, hfl, hfs⟩
    obtain ⟨hi1, rfl⟩ := rgD_at hi
    rw [show (0 + (i : Int)) = i by omega]
    refine xg_name 3 hN ?_
    refine xss_cons (xs_set 4 hN (xe_add (xe_mul (xv 3 rfl (xv 3 rfl (I2.mk ⟨by unfold CMul; omega, xe_mul (xv 1 rfl (xv 1 rfl (I2.mk ⟨by unfold CMul; omega, I2.mk ?_⟩)))⟩))))))
    refine xss_cons (xs_set 5 hN (xe_tup (xa_cons (xv 0 rfl (xa_cons (xv 3 rfl (xa_cons (xe_fdiv (xv 4 rfl (xv 0 rfl (I2.mk ⟨by unfold CDiv; omega, xa_nil (⟨Nat.le_of_ble_eq_true rfl, ?_⟩)⟩)))))))))))
    refine xss_one (xs_if (xt_w (xw_and (xt_eq (xv 4 rfl (xe_mul (xv 0 rfl (xe_ix (fun _ _ => rfl) (xv 5 rfl (xe_int (⟨_, _, _, .inr rfl, rfl, by decide, rfl, I2.mk ⟨by unfold CMul; omega, ⟨_, _, rfl, rfl, rfl, ⟨fun h => xw_and1 (xt_eq (xe_call (w_measure hd) (hr.mono (by decide)) (xa_cons (xv 5 rfl (xa_nil (⟨_, [v, (i : Int), ((i : Int) * i + n * n) / v], rfl, .inr rfl, xe_int (⟨_, _, rfl, rfl, rfl, ⟨fun h2 => ?_, fun h2 => ?_⟩⟩)⟩)))))), fun h => ⟨nofun, fun _ => ?_⟩⟩⟩⟩⟩)))))))))))
    · have e1 := V.int.inj (of_decide_eq_true h)
      have e2 := V.int.inj (of_decide_eq_true h2)
      have hD : v * (((i : Int) * i + n * n) / v) - (i : Int) * i = (n : Int) * n := by omega
      refine xss_one (xs_append 2 rfl (by omega) (xe_call (w_form_of hd) (hr.mono (by decide)) (xa_cons (xe_ix (fun _ _ => rfl) (xe_call (w_led hd) (hr.mono (by decide)) (xa_cons (xv 5 rfl (xa_nil (⟨_, _, _, rfl, w0, by omega, by omega, by omega, fun a b c p q r s red act haf => xe_int (⟨_, _, _, .inr rfl, rfl, by decide, rfl, xa_nil (⟨_, _, _, n, rfl, red_formOk (by omega) red act haf hD n0 n1 e2, ⟨rfl, _, _, _, _, rfl, ?_, fun f hf => ?_⟩⟩)⟩)⟩)))))))))
      · rw [List.length_append, List.length_singleton]
        omega
      · rcases List.mem_append.mp hf with hf | hf
        · exact hfs f hf
        · exact ⟨a, b, c, n, List.mem_singleton.mp hf⟩
    · exact xss_nil ⟨rfl, _, _, _, _, rfl, by omega, hfs⟩
    · exact xss_nil ⟨rfl, _, _, _, _, rfl, by omega, hfs⟩
  · rintro t2 env ⟨rfl, z, z2, z3, fs, rfl, hfl, hfs⟩
    rw [rgD_len] at hfl
    refine xss_firm (ao := none) (ds := fs) 2 rfl ?_
    exact xss_one (xs_ret (xe_tuple hd.f_tuple (xv 2 rfl ⟨_, .inl rfl, q fs (by omega) hfs⟩)))
/-- what stands at a place of a four -/
structure PlaceOk (a b c d p : Int) : Prop where
  p0 : 0 ≤ p
  p4 : p < 4
  z : bendAt a b c d p ≠ 0
  bd : (bendAt a b c d p).natAbs < 2 ^ 14
  f : FormOk (numsAt a b c d p).1 (numsAt a b c d p).2.1 (numsAt a b c d p).2.2 (bendAt a b c d p).natAbs
  f1 : (numsAt a b c d p).1 < 2 ^ 15
  h1 : (numsAt a b c d p).2.1.natAbs < 2 ^ 58
theorem PlaceOk.d0 {a b c d p : Int} (h : PlaceOk a b c d p) : 0 < (numsAt a b c d p).1 * (numsAt a b c d p).2.2 - (numsAt a b c d p).2.1 * (numsAt a b c d p).2.1 := by
  rw [h.f.d]
  have := h.f.n0
  exact Int.mul_pos (by omega) (by omega)
theorem sc_many_touching : FnScope ["four", "place", "number", "forms", "bend", "due", "form"] ["four", "place", "number"] (defScope s_many_touching) := ⟨rfl, rfl, rfl, by decide +kernel, rfl, by decide +kernel, by decide +kernel⟩
def S_many_touching (K : PySem.W.Frag) : SpT := fun ds t Q => ∃ (a b c d p m : Int), ds = [fourD K [a, b, c, d], .int p, .int m] ∧ PlaceOk a b c d p ∧ 1 - bendAt a b c d p ≤ m ∧ m ≤ 2000 - bendAt a b c d p ∧ Q t (.int (manyF (bendAt a b c d p) (m + bendAt a b c d p) (numsAt a b c d p)))
theorem b_many_touching (hd : HF K mg) (f : Addr) (cdv : Value) (A : Around) (outer : List Env) (s : Shared) (H : Hp) (E : XK) (hr : Room 6 (CxB P w K mg base ["four", "place", "number", "forms", "bend", "due", "form"] "many_touching" s_many_touching f cdv A outer s H E).A) (ds : List D) (t : Nat) (Q : Nat → D → Prop) (h : S_many_touching K ds t Q) :
    XSs (CxB P w K mg base ["four", "place", "number", "forms", "bend", "due", "form"] "many_touching" s_many_touching f cdv A outer s H E) (defBody s_many_touching) t (startE ["four", "place", "number", "forms", "bend", "due", "form"] ds) (fun t' _ => Q t' .non) (fun t' _ d => Q t' d) := by
  have hN := sc_many_touching.nd
  obtain ⟨a, b, c, d, p, m, rfl, ok, m0, m1, q⟩ := h
  have b1 := ok.bd
  have hz0 := ok.z
  refine xss_cons (xs_expr (xe_call (w_need_worth hd) (hr.mono (by decide)) (xa_cons (xv 0 rfl (xa_cons (xv 1 rfl (xa_cons (xv 2 rfl (xa_nil (⟨_, _, _, _, _, _, rfl, ok.p0, ok.p4, ok.z, m0, m1, ?_⟩))))))))))
  refine xss_cons (xs_asg (xe_tup (xa_cons (xe_ix (fun _ _ => rfl) (xe_fld 0 hd.c_Four hd.n_Four_bends (xv 0 rfl (⟨_, _, _, rfl, rfl, nofun, rfl, xv 1 rfl (⟨_, _, _, .inr rfl, rfl, ok.p0, bendD_get ok.p0 ok.p4, xa_cons (xe_ix (fun _ _ => rfl) (xe_call (w_led hd) (hr.mono (by decide)) (xa_cons (xe_call (w_numbers_at hd) (hr.mono (by decide)) (xa_cons (xe_fld 0 hd.c_Four hd.n_Four_bends (xv 0 rfl (⟨_, _, _, rfl, rfl, nofun, rfl, xa_cons (xv 1 rfl (xa_nil (⟨a, b, c, d, p, rfl, ok.p0, ok.p4, xa_nil (⟨_, _, _, rfl, ok.f.pa, by have := ok.f1; omega, ok.h1, ok.d0, fun fa fb fc fp fq fr fs red act haf => xe_int (⟨_, _, _, .inr rfl, rfl, by decide, rfl, xa_nil (⟨Nat.le_of_ble_eq_true rfl, xg_tup rfl (xgs_cons (xg_name 4 hN (xgs_cons (xg_name 5 hN (xgs_nil ?_)))))⟩)⟩)⟩)⟩)))⟩))))))))⟩)⟩)))))))
  have er := redOf_eq red act
  generalize bendAt a b c d p = n at *
  refine xss_cons (xs_setLcF (hb := rfl) (hg := fun _ _ _ _ _ => pg_name hN rfl (Or.inl rfl)) (rootsL n (m + n)) tT tT (fun z => decide (redOf z = redOf (numsAt a b c d p))) 3 6 rfl hN (xi_lst (xe_call (w_roots_by hd) (hr.mono (by decide)) (xa_cons (xv 4 rfl (xa_cons (xe_add (xv 2 rfl (xv 4 rfl (I2.mk (xa_nil ⟨_, _, rfl, by omega, by omega, by omega, _, rfl, rfl, ?_, ?_, fun z hz s H C cl fp => ?_⟩)))))))))))
  · unfold rootsL
    rw [List.length_map]
    have := List.length_filter_le (rootOk n (m + n)) (List.range (m + n).toNat)
    rw [List.length_range] at this
    omega
  · have hlen : ((rootsL n (m + n)).filter fun z => decide (redOf z = redOf (numsAt a b c d p))).length ≤ 2 ^ 12 := by
      have := List.length_filter_le (fun z => decide (redOf z = redOf (numsAt a b c d p))) (rootsL n (m + n))
      have h2 : (rootsL n (m + n)).length ≤ (m + n).toNat := by
        unfold rootsL
        rw [List.length_map]
        have := List.length_filter_le (rootOk n (m + n)) (List.range (m + n).toNat)
        rw [List.length_range] at this
        exact this
      omega
    unfold manyF at q
    simp only at q
    refine xss_one (xs_ret (xe_if (xt_in rfl (xv 4 rfl (xe_tup (xa_cons (xe_int (xa_cons (xe_neg (xe_int (⟨_, rfl, xa_nil (⟨Nat.le_of_ble_eq_true rfl, ⟨n, [1, -1], rfl, rfl, ⟨fun h => ?_, fun h => ?_⟩⟩⟩)⟩)))))))))))
    · have hn : n = 1 ∨ n = -1 := by
        simp [inV, eqV] at h
        omega
      rw [if_pos hn] at q
      refine xe_mul (xe_int (xe_len hd.f_len (xv 3 rfl ⟨_, .inl rfl, I2.mk ⟨?_, ?_⟩⟩)))
      · rw [List.length_map]
        unfold CMul
        omega
      · rw [List.length_map]
        exact q
    · have hn : ¬ (n = 1 ∨ n = -1) := by
        simp [inV, eqV] at h
        omega
      rw [if_neg hn] at q
      refine xe_len hd.f_len (xv 3 rfl ⟨_, .inl rfl, ?_⟩)
      rw [List.length_map]
      exact q
  · unfold rootsL at hz
    obtain ⟨k, hk, rfl⟩ := List.mem_map.mp hz
    obtain ⟨hk1, hk2⟩ := List.mem_filter.mp hk
    rw [List.mem_range] at hk1
    unfold rootOk at hk2
    rw [Bool.and_eq_true, decide_eq_true_iff, decide_eq_true_iff] at hk2
    have e1 := V.int.inj hk2.1
    have hdiv := Int.mul_ediv_add_emod ((k : Int) * k + n * n) (m + n)
    rw [e1] at hdiv
    have hnn : 0 < n * n := by
      have := ne_sq (r := n) hz0
      omega
    refine xts_one (xt_eqD hr.units (xe_ix (fun _ _ => rfl) (xe_call (w_led hd) (hr.mono (by decide)) (xa_cons (xv 6 rfl (xa_nil ⟨m + n, (k : Int), ((k : Int) * k + n * n) / (m + n), rfl, by omega, by omega, by omega, by omega, fun ga gb gc gp gq gr gs red2 act2 haf2 => xe_int ⟨_, _, _, .inr rfl, rfl, by decide, rfl, xv 5 rfl (EqD.tups (ns := [ga, gb, gc]) (ms := [fa, fb, fc]) ⟨rfl, ?_, fun _ s H C cl fp => xv 6 rfl ⟨rfl, rfl⟩⟩)⟩⟩))))))
    have er2 := redOf_eq red2 act2
    have er1 : redOf (rootT n (m + n) k) = (ga, gb, gc) := er2
    have er' : redOf (numsAt a b c d p) = (fa, fb, fc) := er
    show decide ([ga, gb, gc] = [fa, fb, fc]) = decide (redOf (rootT n (m + n) k) = redOf (numsAt a b c d p))
    rw [Bool.eq_iff_iff, decide_eq_true_iff, decide_eq_true_iff, er1, er']
    simp
theorem w_many_touching (hd : HF K mg) : Fn P w K mg base 7 "many_touching" [] (S_many_touching K) := by
  exact mkF hd.d_many_touching sc_many_touching (fun ds t Q h => by obtain ⟨_, _, _, _, _, _, rfl, _⟩ := h; rfl) (fun _ _ _ _ _ _ us hl => match us, hl with | [_, _, _], _ => rfl) (b_many_touching hd)
end
end BS

set_option Elab.async false
set_option linter.all false
set_option maxRecDepth 100000
set_option maxHeartbeats 4000000
/-! the walks: touching, rims -/
namespace BS
open PySem PySem.Spec PyProof.Rows L2
def listedL (a b c p q r s m here : Int) : List (Int × Int × Int) := (spotsL a b c p q r s m).map fun z => (z.1 - here, z.2.1, z.2.2)
theorem spots_len {a b c m p q r s : Int} (h : Red a b c) (hm : m < 2 ^ 14) (hD : 0 < a * c - b * b) : (spotsL a b c p q r s m).length ≤ 100000 := by
  unfold spotsL
  split
  · exact Nat.zero_le _
  · rw [List.length_map]
    have h1 := pairs_length (b := b) (c := c) h.1 hm (by omega) (rowsF a b c m)
    have h2 := rowsF_le (m := m) h hm hD
    omega
theorem tupN_tT {L : List (Int × Int × Int)} : ∀ y ∈ L.map tT, TupN 3 y := fun y hy => by
  obtain ⟨z, _, rfl⟩ := List.mem_map.mp hy
  exact ⟨[z.1, z.2.1, z.2.2], rfl, rfl⟩
/-! plain: the forms of a rim -/
def numsP (n half : Nat) (f : Nat) : Bool := decide (V.int (((half : Int) * half + (n : Int) * n) % (f : Int)) = V.int 0) && decide (V.int (gcdL [(f : Int), (half : Int), ((half : Int) * half + (n : Int) * n) / (f : Int)]) = V.int 1)
def numsT (n half : Nat) (f : Nat) : Int × Int × Int := ((f : Int), (half : Int), ((half : Int) * half + (n : Int) * n) / (f : Int))
def numsLo (half : Nat) : Nat := if 2 * half > 1 then 2 * half else 1
def numsHi (n half : Nat) : Nat := Float64.isqrt (half * half + n * n) + 1
def numsR (n half k : Nat) : List (Int × Int × Int) := (((List.range k).map fun j => numsLo half + j).filter (numsP n half)).map (numsT n half)
def numsA (n k : Nat) : List (Int × Int × Int) := (List.range k).flatMap fun half => numsR n half (numsHi n half - numsLo half)
def numsN (n : Nat) : Nat := Float64.isqrt (n * n / 3) + 1
theorem numsR_succ (n half j : Nat) : numsR n half (j + 1) = numsR n half j ++ (if numsP n half (numsLo half + j) = true then [numsT n half (numsLo half + j)] else []) := by
  unfold numsR
  rw [List.range_succ, List.map_append, List.filter_append, List.map_append, List.map_singleton]
  cases hb : numsP n half (numsLo half + j) with
  | true => rw [List.filter_cons_of_pos (by rw [hb])] <;> rfl
  | false => rw [List.filter_cons_of_neg (by rw [hb]; exact Bool.false_ne_true)] <;> rfl
theorem numsR_len (n half k : Nat) : (numsR n half k).length ≤ k := by
  unfold numsR
  rw [List.length_map]
  have := List.length_filter_le (numsP n half) ((List.range k).map fun j => numsLo half + j)
  rw [List.length_map, List.length_range] at this
  exact this
theorem numsHi_le {n half : Nat} (hn : n ≤ 60) (hh : half ≤ 60) : numsHi n half ≤ 100 := by
  have h1 : half * half ≤ 60 * 60 := Nat.mul_le_mul hh hh
  have h2 : n * n ≤ 60 * 60 := Nat.mul_le_mul hn hn
  have := isqrt_lt (n := half * half + n * n) (B := 90) (by omega)
  unfold numsHi
  omega
theorem numsN_le {n : Nat} (hn : n ≤ 60) : numsN n ≤ 60 := by
  have h2 : n * n ≤ 60 * 60 := Nat.mul_le_mul hn hn
  have := isqrt_lt (n := n * n / 3) (B := 59) (by omega)
  unfold numsN
  omega
theorem numsA_len {n : Nat} (hn : n ≤ 60) : ∀ k : Nat, k ≤ 60 → (numsA n k).length ≤ k * 100
  | 0, _ => by simp [numsA]
  | k + 1, hk => by
    have h1 := numsA_len hn k (by omega)
    have h2 := numsR_len n k (numsHi n k - numsLo k)
    have h3 := numsHi_le hn (half := k) (by omega)
    unfold numsA at h1 ⊢
    rw [List.range_succ, List.flatMap_append, List.flatMap_singleton, List.length_append]
    omega
def bendsF (n : Nat) (z : Int × Int × Int) : List Int := [-(n : Int), z.1 - -(n : Int), z.2.2 - -(n : Int), z.1 + z.2.2 - 2 * z.2.1 - -(n : Int)]
section
variable {P : Program} {w : World} {K : PySem.W.Frag} {mg : Str → Option Value} {base : Heap}
theorem sc_touching : FnScope ["four", "place", "most", "here", "worth", "x", "y"] ["four", "place", "most"] (defScope s_touching) := ⟨rfl, rfl, rfl, by decide +kernel, rfl, by decide +kernel, by decide +kernel⟩
def S_touching (K : PySem.W.Frag) : SpT := fun ds t Q => ∃ (a b c d p m : Int), ds = [fourD K [a, b, c, d], .int p, .int m] ∧ PlaceOk a b c d p ∧ 0 ≤ m ∧ m ≤ 500 ∧ 0 ≤ m + bendAt a b c d p ∧ m + bendAt a b c d p < 2 ^ 14 ∧
  ∀ fa fb fc fp fq fr fs : Int, Red fa fb fc → Act (numsAt a b c d p).1 (numsAt a b c d p).2.1 (numsAt a b c d p).2.2 fa fb fc fp fq fr fs → ∀ L : List (Int × Int × Int), L.Perm (listedL fa fb fc fp fq fr fs (m + bendAt a b c d p) (bendAt a b c d p)) → Q t (.tup (L.map tT))
theorem spotOk_of {a b c d p v : Int} (ok : PlaceOk a b c d p) (v0 : 0 ≤ v) (v1 : v < 2 ^ 14) : SpotOk (numsAt a b c d p).1 (numsAt a b c d p).2.1 (numsAt a b c d p).2.2 v := by
  have h1 := ok.f.pa
  have h2 := ok.f1
  have h3 := ok.bd
  refine ⟨h1, by omega, ok.h1, v0, v1, ?_, ok.d0, ?_⟩
  · have e1 : (numsAt a b c d p).1 * v ≤ 2 ^ 15 * v := Int.mul_le_mul_of_nonneg_right (by omega) v0
    omega
  · rw [ok.f.d]
    have : (bendAt a b c d p).natAbs * (bendAt a b c d p).natAbs < 2 ^ 14 * 2 ^ 14 := Nat.mul_lt_mul'' h3 h3
    rw [← Int.natCast_mul]
    omega
theorem w_touching (hd : HF K mg) : Fn P w K mg base 7 "touching" [] (S_touching K) := by
  refine mkF hd.d_touching sc_touching (fun ds t Q h => by obtain ⟨_, _, _, _, _, _, rfl, _⟩ := h; rfl) (fun _ _ _ _ _ _ us hl => match us, hl with | [_, _, _], _ => rfl) fun f cdv A outer s H E hr ds t Q h => ?_
  have hN := sc_touching.nd
  obtain ⟨a, b, c, d, p, m, rfl, ok, m0, m1, v0, v1, q⟩ := h
  refine xss_cons (xs_expr (xe_call (w_need_bent hd) (hr.mono (by decide)) (xa_cons (xv 0 rfl (xa_cons (xv 1 rfl (xa_nil (⟨_, _, rfl, ok.p0, ok.p4, ?_⟩))))))))
  refine xss_cons (xs_expr (xe_call (w_need_number hd) (hr.mono (by decide)) (xa_cons (xv 2 rfl (xa_cons (xe_str (xa_cons (xe_int (xa_cons (xe_gint hd.i_MOST_BEND (xa_nil (⟨_, _, _, _, rfl, m0, m1, ?_⟩))))))))))))
  refine xss_cons (xs_expr (xe_call (w_need_round hd) (hr.mono (by decide)) (xa_cons (xv 0 rfl (xa_cons (xv 1 rfl (xa_nil (⟨_, _, _, rfl, ok.p0, bend_get ok.p0 ok.p4, ok.z, ?_⟩))))))))
  refine xss_cons (xs_set 3 hN (xe_ix (fun _ _ => rfl) (xe_fld 0 hd.c_Four hd.n_Four_bends (xv 0 rfl (⟨_, _, _, rfl, rfl, nofun, rfl, xv 1 rfl (⟨_, _, _, .inr rfl, rfl, ok.p0, bendD_get ok.p0 ok.p4, ?_⟩)⟩)))))
  have sok := spotOk_of ok v0 v1
  generalize bendAt a b c d p = n at *
  refine xss_one (xs_ret (xe_tuple hd.f_tuple (xe_sortN 3 (by decide) hd.f_sorted (xe_lc3F (hb := rfl) (hg := fun _ _ _ _ _ => pg_tup rfl (pgs_cons (pg_name hN rfl (Or.inl rfl)) (pgs_cons (pg_name hN rfl (Or.inl rfl)) (pgs_cons (pg_name hN rfl (Or.inl rfl)) pgs_nil)))) (fun z : Int × Int × Int => .int z.1) (fun z => .int z.2.1) (fun z => .int z.2.2) (fun z => tT (z.1 - n, z.2.1, z.2.2)) (fun _ => true) 4 5 6 rfl hN (xi_lst (xe_call (w_spots hd) (hr.mono (by decide)) (xa_cons (xe_call (w_numbers_at hd) (hr.mono (by decide)) (xa_cons (xe_fld 0 hd.c_Four hd.n_Four_bends (xv 0 rfl ⟨_, _, _, rfl, rfl, nofun, rfl, xa_cons (xv 1 rfl (xa_nil ⟨a, b, c, d, p, rfl, ok.p0, ok.p4, xa_cons (xe_add (xv 2 rfl (xv 3 rfl (I2.mk (xa_nil ⟨_, _, _, _, rfl, sok, fun fa fb fc fp fq fr fs red act haf => ⟨_, rfl, spotsL fa fb fc fp fq fr fs (m + n), rfl, spots_len red v1 (by rw [act.disc]; exact ok.d0), ⟨_, rfl, ?_, fun es pm => ⟨_, .inl rfl, ?_⟩⟩, fun z hz s H C cl fp => xts_nil ⟨rfl, rfl, fun _ s H C cl fp => xe_tup (xa_cons (xe_sub (xv 4 rfl (xv 3 rfl (I2.mk (xa_cons (xv 5 rfl (xa_cons (xv 6 rfl (xa_nil ⟨Nat.le_of_ble_eq_true rfl, rfl, rfl⟩))))))))))⟩⟩⟩)))))⟩))⟩)))))))))))
  · intro y hy
    obtain ⟨z, _, rfl⟩ := List.mem_map.mp hy
    exact ⟨[z.1 - n, z.2.1, z.2.2], rfl, rfl⟩
  · rw [List.filter_eq_self.mpr fun _ _ => rfl] at pm
    obtain ⟨L', h1, h2⟩ := perm_map_ex (f := tT) pm (listedL fa fb fc fp fq fr fs (m + n) n) (by unfold listedL; rw [List.map_map]; rfl)
    rw [h2]
    exact q fa fb fc fp fq fr fs red act L' h1
theorem sc_numbers_of : FnScope ["side", "found", "half", "worth", "first"] ["side"] (defScope s_numbers_of) := ⟨rfl, rfl, rfl, by decide +kernel, rfl, by decide +kernel, by decide +kernel⟩
def S_numbers_of : SpT := fun ds t Q => ∃ n : Nat, ds = [.int n] ∧ 0 < n ∧ n ≤ 60 ∧ ∀ L : List (Int × Int × Int), L.Perm (numsA n (numsN n)) → Q t (.lst (L.map tT))
theorem w_numbers_of (hd : HF K mg) : Fn P w K mg base 2 "numbers_of" [] S_numbers_of := by
  refine mkF hd.d_numbers_of sc_numbers_of (fun ds t Q h => by obtain ⟨_, rfl, _⟩ := h; rfl) (fun _ _ _ _ _ _ us hl => match us, hl with | [_], _ => rfl) fun f cdv A outer s H E hr ds t Q h => ?_
  have hN := sc_numbers_of.nd
  obtain ⟨n, rfl, n0, n1, q⟩ := h
  have hnn : n * n ≤ 60 * 60 := Nat.mul_le_mul n1 n1
  have e1 : ((n : Int) * n / 3).toNat = n * n / 3 := by
    rw [← Int.natCast_mul]
    omega
  have hk := numsN_le n1
  refine xss_cons (xs_own 1 hN (xl_lst (xa_nil ⟨by decide, ?_⟩)))
  refine xss_cons (xs_for PassesOwn.never rfl (xi_rg1 hd.f_range (xe_add (xe_isqrt hd.g_isqrt (xe_fdiv (xe_mul (xv 0 rfl (xv 0 rfl (I2.mk ⟨by unfold CMul; omega, xe_int (I2.mk ⟨by unfold CDiv; omega, ⟨_, rfl, by rw [← Int.natCast_mul]; omega, by rw [← Int.natCast_mul]; omega, xe_int (I2.mk (⟨numsN n, by rw [e1]; rfl, by omega, fun i t2 env => t2 = t ∧ ∃ z z2 z3, env = [.d (.int n), .own (.lst none ((numsA n i).map tT)), z, z2, z3], ⟨rfl, _, _, _, rfl⟩, ?_, ?_⟩))⟩⟩)⟩)))))))))
  · rintro i d t2 env hi ⟨rfl, z, z2, z3, rfl⟩
    obtain ⟨hi1, rfl⟩ := rgD_at hi
    rw [show (0 + (i : Int)) = i by omega]
    refine xg_name 2 hN ?_
    have hii : i * i ≤ 60 * 60 := Nat.mul_le_mul (by omega) (by omega)
    have hhi := numsHi_le n1 (half := i) (by omega)
    have e2 : ((i : Int) * i + (n : Int) * n).toNat = i * i + n * n := by
      rw [← Int.natCast_mul, ← Int.natCast_mul]
      omega
    have e3 : ((Float64.isqrt ((i : Int) * i + (n : Int) * n).toNat : Nat) : Int) + 1 = numsHi n i := by rw [e2]; rfl
    have e4 : (if 2 * (i : Int) > 1 then 2 * (i : Int) else 1) = numsLo i := by
      unfold numsLo
      split <;> split <;> omega
    refine xss_cons (xs_set 3 hN (xe_add (xe_mul (xv 2 rfl (xv 2 rfl (I2.mk ⟨by unfold CMul; omega, xe_mul (xv 0 rfl (xv 0 rfl (I2.mk ⟨by unfold CMul; omega, I2.mk ?_⟩)))⟩))))))
    refine xss_one (xs_for PassesOwn.never rfl (xi_rg2 hd.f_range (xe_max2 rfl hd.f_max (xe_int (xe_mul (xe_int (xv 2 rfl (I2.mk ⟨by unfold CMul; omega, I2.mk (xe_add (xe_isqrt hd.g_isqrt (xv 3 rfl (⟨_, rfl, by rw [← Int.natCast_mul, ← Int.natCast_mul]; omega, by rw [← Int.natCast_mul, ← Int.natCast_mul]; omega, xe_int (I2.mk (I2.mk ?_))⟩))))⟩))))))))
    rw [e3, e4]
    have hlo : numsLo i ≤ 200 := by unfold numsLo; split <;> omega
    have hlo1 : 1 ≤ numsLo i := by unfold numsLo; split <;> omega
    have hA := numsA_len n1 i (by omega)
    refine ⟨by omega, fun j t3 env => t3 = t2 ∧ ∃ z4, env = [.d (.int n), .own (.lst none ((numsA n i ++ numsR n i j).map tT)), .d (.int i), .d (.int ((i : Int) * i + (n : Int) * n)), z4], ⟨rfl, _, by unfold numsR; rw [List.range_zero, List.map_nil, List.filter_nil, List.map_nil, List.append_nil]; rfl⟩, ?_, ?_⟩
    · rintro j d t3 env hj ⟨rfl, z4, rfl⟩
      obtain ⟨hj1, rfl⟩ := rgD_at hj
      have hR := numsR_len n i j
      have hf0 : 0 < (numsLo i : Int) + (j : Int) := by omega
      have ef : (numsLo i : Int) + (j : Int) = ((numsLo i + j : Nat) : Int) := by omega
      rw [ef] at hf0 ⊢
      have fin : ∀ b : Bool, numsP n i (numsLo i + j) = b → (numsA n i ++ numsR n i (j + 1)).map tT = (numsA n i ++ numsR n i j).map tT ++ (if b = true then [tT (numsT n i (numsLo i + j))] else []) := fun b hb => by
        rw [numsR_succ, hb, ← List.append_assoc, List.map_append]
        cases b <;> rfl
      generalize numsLo i + j = g at *
      refine xg_name 4 hN ?_
      refine xss_one (xs_if (xt_w (xw_and (xt_eq (xe_mod (xv 3 rfl (xv 4 rfl (I2.mk ⟨hf0, xe_int (⟨_, _, rfl, rfl, rfl, ⟨fun h => xw_and1 (xt_eq (xe_call (w_measure hd) (hr.mono (by decide)) (xa_cons (xe_l (xl_lst (xa_cons (xv 4 rfl (xa_cons (xv 2 rfl (xa_cons (xe_fdiv (xv 3 rfl (xv 4 rfl (I2.mk ⟨by unfold CDiv; omega, xa_nil (⟨Nat.le_of_ble_eq_true rfl, xa_nil (⟨_, [(g : Int), (i : Int), ((i : Int) * i + (n : Int) * n) / (g : Int)], rfl, .inl rfl, xe_int (⟨_, _, rfl, rfl, rfl, ⟨fun h2 => ?_, fun h2 => ?_⟩⟩)⟩)⟩)⟩)))))))))))))), fun h => ⟨nofun, fun _ => ?_⟩⟩⟩)⟩))))))))
      · have hb : numsP n i g = true := by unfold numsP; rw [h, h2]; rfl
        refine xss_one (xs_append 1 rfl (by rw [List.length_map, List.length_append]; omega) (xe_tup (xa_cons (xv 4 rfl (xa_cons (xv 2 rfl (xa_cons (xe_fdiv (xv 3 rfl (xv 4 rfl (I2.mk ⟨by unfold CDiv; omega, xa_nil (⟨Nat.le_of_ble_eq_true rfl, ⟨rfl, .d (.int g), ?_⟩⟩)⟩)))))))))))
        rw [fin true hb]
        rfl
      · have hb : numsP n i g = false := by unfold numsP; rw [h2, Bool.and_false]
        refine xss_nil ⟨rfl, .d (.int g), ?_⟩
        rw [fin false hb, if_neg Bool.false_ne_true, List.append_nil]
        rfl
      · have hb : numsP n i g = false := by unfold numsP; rw [h, Bool.false_and]
        refine xss_nil ⟨rfl, .d (.int g), ?_⟩
        rw [fin false hb, if_neg Bool.false_ne_true, List.append_nil]
        rfl
    · rintro t3 env ⟨rfl, z4, rfl⟩
      rw [rgD_len, show ((numsHi n i : Int) - (numsLo i : Int)).toNat = numsHi n i - numsLo i by omega]
      refine ⟨rfl, .d (.int i), .d (.int ((i : Int) * i + (n : Int) * n)), z4, ?_⟩
      unfold numsA
      rw [List.range_succ, List.flatMap_append, List.flatMap_singleton]
  · rintro t2 env ⟨rfl, z, z2, z3, rfl⟩
    rw [rgD_len]
    refine xss_firm (ao := none) (ds := (numsA n (numsN n)).map tT) 1 rfl ?_
    refine xss_one (xs_ret (xe_sortN 3 (by decide) hd.f_sorted (xv 1 rfl ⟨_, rfl, tupN_tT, fun es pm => ?_⟩)))
    obtain ⟨L', h1, h2⟩ := perm_map_ex (f := tT) pm _ rfl
    rw [h2]
    exact q L' h1
theorem sc_all_bends : FnScope ["rim", "numbers"] ["rim"] (defScope s_all_bends) := ⟨rfl, rfl, rfl, by decide +kernel, rfl, by decide +kernel, by decide +kernel⟩
def S_all_bends : SpT := fun ds t Q => ∃ n : Nat, ds = [.int n] ∧ 0 < n ∧ n ≤ 60 ∧ ∀ L : List (Int × Int × Int), L.Perm (numsA n (numsN n)) → Q t (.lst (L.map fun z => tI (bendsF n z)))
theorem w_all_bends (hd : HF K mg) : Fn P w K mg base 3 "all_bends" [] S_all_bends := by
  refine mkF hd.d_all_bends sc_all_bends (fun ds t Q h => by obtain ⟨_, rfl, _⟩ := h; rfl) (fun _ _ _ _ _ _ us hl => match us, hl with | [_], _ => rfl) fun f cdv A outer s H E hr ds t Q h => ?_
  have hN := sc_all_bends.nd
  obtain ⟨n, rfl, n0, n1, q⟩ := h
  have hk := numsN_le n1
  have hA := numsA_len n1 (numsN n) hk
  refine xss_one (xs_ret (xe_sortN 4 (by decide) hd.f_sorted (xe_lcE (hb := rfl) (hg := fun _ _ _ _ _ => pg_name hN rfl (Or.inl rfl)) tT (fun z => tI (bendsF n z)) 1 rfl hN (xi_lst (xe_call (w_numbers_of hd) (hr.mono (by decide)) (xa_cons (xv 0 rfl (xa_nil ⟨n, rfl, n0, n1, fun L pm => ⟨_, rfl, L, rfl, ?_, ⟨_, rfl, ?_, fun es pm2 => ?_⟩, fun z hz s H C cl fp => ?_⟩⟩))))))))
  · rw [pm.length_eq]
    omega
  · intro y hy
    obtain ⟨z, _, rfl⟩ := List.mem_map.mp hy
    exact ⟨bendsF n z, rfl, rfl⟩
  · obtain ⟨L', h1, h2⟩ := perm_map_ex (f := fun z => tI (bendsF n z)) pm2 _ rfl
    rw [h2]
    exact q L' (h1.trans pm)
  · exact xe_tuple hd.f_tuple (xe_call (w_bends_from hd) (hr.mono (by decide)) (xa_cons (xv 1 rfl (xa_cons (xe_neg (xv 0 rfl ⟨_, rfl, xa_nil ⟨_, _, _, _, rfl, _, .inr rfl, rfl, rfl⟩⟩))))))
theorem sc_rim_fours : FnScope ["rim", "bends"] ["rim"] (defScope s_rim_fours) := ⟨rfl, rfl, rfl, by decide +kernel, rfl, by decide +kernel, by decide +kernel⟩
def S_rim_fours (K : PySem.W.Frag) : SpT := fun ds t Q => ∃ n : Nat, ds = [.int n] ∧ 0 < n ∧ n ≤ 60 ∧ (∀ z ∈ numsA n (numsN n), FourOk (bendsF n z)) ∧ ∀ L : List (Int × Int × Int), L.Perm (numsA n (numsN n)) → Q t (.tup (L.map fun z => fourD K (bendsF n z)))
theorem w_rim_fours (hd : HF K mg) : Fn P w K mg base 6 "rim_fours" [] (S_rim_fours K) := by
  refine mkF hd.d_rim_fours sc_rim_fours (fun ds t Q h => by obtain ⟨_, rfl, _⟩ := h; rfl) (fun _ _ _ _ _ _ us hl => match us, hl with | [_], _ => rfl) fun f cdv A outer s H E hr ds t Q h => ?_
  have hN := sc_rim_fours.nd
  obtain ⟨n, rfl, n0, n1, hok, q⟩ := h
  have hk := numsN_le n1
  have hA := numsA_len n1 (numsN n) hk
  refine xss_cons (xs_expr (xe_call (w_need_number hd) (hr.mono (by decide)) (xa_cons (xv 0 rfl (xa_cons (xe_str (xa_cons (xe_int (xa_cons (xe_gint hd.i_MOST_RIM (xa_nil (⟨_, _, _, _, rfl, by omega, by omega, ?_⟩))))))))))))
  refine xss_one (xs_ret (xe_tuple hd.f_tuple (xe_lcE (hb := rfl) (hg := fun _ _ _ _ _ => pg_name hN rfl (Or.inl rfl)) (fun z => tI (bendsF n z)) (fun z => fourD K (bendsF n z)) 1 rfl hN (xi_lst (xe_call (w_all_bends hd) (hr.mono (by decide)) (xa_cons (xv 0 rfl (xa_nil ⟨n, rfl, n0, n1, fun L pm => ⟨_, rfl, L, rfl, ?_, ⟨_, .inl rfl, q L pm⟩, fun z hz s H C cl fp => ?_⟩⟩))))))))
  · rw [pm.length_eq]
    omega
  · exact xe_make (w_Four_init hd) (hr.mono (by decide)) (xa_cons (xv 1 rfl (xa_nil ⟨_, bendsF n z, rfl, .inr rfl, hok z (pm.mem_iff.mp hz), rfl, rfl⟩)))
end
end BS

set_option Elab.async false
set_option linter.all false
set_option maxRecDepth 100000
set_option maxHeartbeats 4000000
/-! the walks: the law's divisor, forms, many, root -/
namespace BS
open PySem PySem.Spec PyProof.Rows L2
theorem gcd2_nat (x y : Nat) : gcd2 (x : Int) (y : Int) = ((Nat.gcd x y : Nat) : Int) := rfl
theorem gcd2_abs (x : Nat) (v : Int) : gcd2 (x : Int) v = ((Nat.gcd x v.natAbs : Nat) : Int) := rfl
theorem gcdL_nat : ∀ ns : List Int, ∃ g : Nat, gcdL ns = g := fun ns => by
  unfold gcdL
  suffices h : ∀ (ns : List Int) (g : Nat), ∃ g' : Nat, ns.foldl gcd2 (g : Int) = (g' : Int) from h ns 0
  intro ns
  induction ns with
  | nil => exact fun g => ⟨g, rfl⟩
  | cons n ns ih => exact fun g => ih (Nat.gcd g n.natAbs)
theorem isqrt_eq {n r : Nat} (h1 : r * r ≤ n) (h2 : n < (r + 1) * (r + 1)) : Float64.isqrt n = r := by
  obtain ⟨h3, h4⟩ := Float64.isqrt_spec n
  have a := Nat.mul_self_lt_mul_self_iff.mp (Nat.lt_of_le_of_lt h1 h4)
  have b := Nat.mul_self_lt_mul_self_iff.mp (Nat.lt_of_le_of_lt h3 h2)
  omega
def isq (m : Int) : Int := ((Float64.isqrt m.toNat : Nat) : Int)
def rootD (m : Int) : D := if isq m * isq m = m then .int (isq m) else .non
def lastOf (n f h : Int) : Int := (h * h + n * n) / f
def lawLeast (n f h : Int) : Bool := decide (-f < 2 * h ∧ 2 * h ≤ f ∧ f ≤ lastOf n f h ∧ (0 ≤ h ∨ f ≠ lastOf n f h))
def lawP (n f : Int) (h : Int) : Bool := decide (V.int ((h * h + n * n) % f) = V.int 0) && (lawLeast n f h && decide (V.int (gcdL [f, h, lastOf n f h]) = V.int 1))
def lawR (n f : Int) (k : Nat) : List (Int × Int × Int) := (((List.range k).map fun j : Nat => -f + (j : Int)).filter (lawP n f)).map fun h => (f, h, lastOf n f h)
def lawA (n : Int) (k : Nat) : List (Int × Int × Int) := (List.range k).flatMap fun i : Nat => lawR n (1 + (i : Int)) (2 * (1 + (i : Int)) + 1).toNat
theorem lawR_succ (n f : Int) (j : Nat) : lawR n f (j + 1) = lawR n f j ++ (if lawP n f (-f + (j : Int)) = true then [(f, -f + (j : Int), lastOf n f (-f + (j : Int)))] else []) := by
  unfold lawR
  rw [List.range_succ, List.map_append, List.filter_append, List.map_append, List.map_singleton]
  cases hb : lawP n f (-f + (j : Int)) with
  | true => rw [List.filter_cons_of_pos (by rw [hb])] <;> rfl
  | false => rw [List.filter_cons_of_neg (by rw [hb]; exact Bool.false_ne_true)] <;> rfl
theorem lawR_len (n f : Int) (k : Nat) : (lawR n f k).length ≤ k := by
  unfold lawR
  rw [List.length_map]
  have := List.length_filter_le (lawP n f) ((List.range k).map fun j : Nat => -f + (j : Int))
  rw [List.length_map, List.length_range] at this
  exact this
theorem lawA_len (n : Int) : ∀ k : Nat, k ≤ 100 → (lawA n k).length ≤ k * 300
  | 0, _ => by simp [lawA]
  | k + 1, hk => by
    have h1 := lawA_len n k (by omega)
    have h2 := lawR_len n (1 + (k : Int)) (2 * (1 + (k : Int)) + 1).toNat
    unfold lawA at h1 ⊢
    rw [List.range_succ, List.flatMap_append, List.flatMap_singleton, List.length_append]
    omega
section
variable {P : Program} {w : World} {K : PySem.W.Frag} {mg : Str → Option Value} {base : Heap}
theorem sc_law_divisor : FnScope ["_law_values", "_law_found", "_law_value", "_law_one", "_law_other"] ["_law_values"] (defScope s_law_divisor) := ⟨rfl, rfl, rfl, by decide +kernel, rfl, by decide +kernel, by decide +kernel⟩
def S_law_divisor : SpT := fun ds t Q => ∃ (x : D) (ns : List Int), ds = [x] ∧ Sq x (ns.map D.int) ∧ Q t (.int (gcdL ns))
theorem w_law_divisor (hd : HF K mg) : Fn P w K mg base 1 "_law_divisor" [] S_law_divisor := by
  refine mkF hd.d_law_divisor sc_law_divisor (fun ds t Q h => by obtain ⟨_, _, rfl, _⟩ := h; rfl) (fun _ _ _ _ _ _ us hl => match us, hl with | [_], _ => rfl) fun f cdv A outer s H E hr ds t Q h => ?_
  have hN := sc_law_divisor.nd
  obtain ⟨x, ns, rfl, hx, q⟩ := h
  refine xss_cons (xs_set 1 hN (xe_int ?_))
  refine xss_cons (xs_for PassesOwn.never rfl (xi_sq (xv 0 rfl ⟨_, hx, fun i t2 env => t2 = t ∧ ∃ z z2 z3, env = [.d x, .d (.int (gcdL (ns.take i))), z, z2, z3], ⟨rfl, _, _, _, rfl⟩, ?_, ?_⟩)))
  · rintro i d t2 env hi ⟨rfl, z, z2, z3, rfl⟩
    obtain ⟨n, h1, _, rfl⟩ := maps_at hi
    obtain ⟨g, hg⟩ := gcdL_nat (ns.take i)
    have eT : gcdL (ns.take (i + 1)) = ((Nat.gcd g n.natAbs : Nat) : Int) := by rw [gcdL_take h1, hg, gcd2_abs]
    rw [hg]
    have ea : (if n < 0 then -n else n) = ((n.natAbs : Nat) : Int) := by split <;> omega
    refine xg_name 2 hN ?_
    refine xss_cons (xs_par 3 4 rfl hN (xv 1 rfl (xe_abs hd.f_abs (xv 2 rfl ⟨_, rfl, ?_⟩))))
    rw [ea]
    refine xss_cons (xs_while PassesOwn.never (fun m t3 env => t3 = t2 ∧ ∃ a b : Nat, env = [.d x, .d (.int (g : Int)), .d (.int n), .d (.int (a : Int)), .d (.int (b : Int))] ∧ Nat.gcd a b = Nat.gcd g n.natAbs ∧ m = b) _ ⟨rfl, _, _, rfl, rfl, rfl⟩ ?_)
    rintro m t3 env ⟨rfl, a, b, rfl, hab, hm⟩
    refine xt_gt (xv 4 rfl (xe_int (I2.mk ⟨fun h => ?_, fun h => ?_⟩)))
    · have hb := of_decide_eq_true h
      refine xss_one (xs_par 3 4 rfl hN (xv 4 rfl (xe_mod (xe_int1 hd.f_int (xv 3 rfl (.inl ⟨_, rfl, xv 4 rfl (I2.mk ⟨by omega, ?_⟩)⟩))))))
      rw [← Int.natCast_emod]
      refine ⟨a % b, by rw [hm]; exact Nat.mod_lt _ (by omega), rfl, b, a % b, rfl, ?_, rfl⟩
      rw [← hab, Nat.gcd_comm a b, Nat.gcd_rec b a, Nat.gcd_comm]
    · have hb := of_decide_eq_false h
      have hb0 : b = 0 := by omega
      rw [hb0, Nat.gcd_zero_right] at hab
      refine xss_one (xs_set 1 hN (xv 3 rfl ⟨rfl, .d (.int n), .d (.int (a : Int)), .d (.int (b : Int)), ?_⟩))
      rw [eT, ← hab]
      rfl
  · rintro t2 env ⟨rfl, z, z2, z3, rfl⟩
    rw [List.length_map, List.take_length]
    exact xss_one (xs_ret (xv 1 rfl q))
theorem sc_law_many : FnScope ["_law_side", "_law_worth", "_law_found", "_law_root_here", "_law_square"] ["_law_side", "_law_worth"] (defScope s_law_many) := ⟨rfl, rfl, rfl, by decide +kernel, rfl, by decide +kernel, by decide +kernel⟩
def lawManyF (n v : Int) : Int :=
  let k : Nat := ((List.range v.toNat).filter (rootOk n v)).length
  if n = 1 then 2 * (k : Int) else k
def S_law_many : SpT := fun ds t Q => ∃ n v : Int, ds = [.int n, .int v] ∧ 0 < n ∧ n < 2 ^ 10 ∧ 0 < v ∧ v < 2 ^ 10 ∧ Q t (.int (lawManyF n v))
theorem w_law_many (hd : HF K mg) : Fn P w K mg base 2 "_law_many" [] S_law_many := by
  refine mkF hd.d_law_many sc_law_many (fun ds t Q h => by obtain ⟨_, _, rfl, _⟩ := h; rfl) (fun _ _ _ _ _ _ us hl => match us, hl with | [_, _], _ => rfl) fun f cdv A outer s H E hr ds t Q h => ?_
  have hN := sc_law_many.nd
  obtain ⟨n, v, rfl, n0, n1, v0, v1, q⟩ := h
  unfold lawManyF at q
  simp only at q
  refine xss_cons (xs_set 2 hN (xe_int ?_))
  refine xss_cons (xs_for PassesOwn.never rfl (xi_rg1 hd.f_range (xv 1 rfl (⟨v.toNat, by rw [Int.toNat_of_nonneg (by omega)], by omega, fun i t2 env => t2 = t ∧ ∃ z z2, env = [.d (.int n), .d (.int v), .d (.int ((((List.range i).filter (rootOk n v)).length : Nat) : Int)), z, z2], ⟨rfl, _, _, rfl⟩, ?_, ?_⟩))))
  · rintro i d t2 env hi ⟨rfl, z, z2, rfl⟩
    obtain ⟨hi1, rfl⟩ := rgD_at hi
    rw [show (0 + (i : Int)) = i by omega]
    have fin : ∀ b : Bool, rootOk n v i = b → ((((List.range (i + 1)).filter (rootOk n v)).length : Nat) : Int) = ((((List.range i).filter (rootOk n v)).length : Nat) : Int) + (if b = true then 1 else 0) := fun b hb => by
      rw [List.range_succ, List.filter_append, List.length_append]
      cases b with
      | true => rw [List.filter_cons_of_pos (by rw [hb])] <;> rfl
      | false => rw [List.filter_cons_of_neg (by rw [hb]; exact Bool.false_ne_true)] <;> rfl
    refine xg_name 3 hN ?_
    refine xss_cons (xs_set 4 hN (xe_add (xe_mul (xv 3 rfl (xv 3 rfl (I2.mk ⟨by unfold CMul; omega, xe_mul (xv 0 rfl (xv 0 rfl (I2.mk ⟨by unfold CMul; omega, I2.mk ?_⟩)))⟩))))))
    refine xss_one (xs_if (xt_w (xw_and (xt_eq (xe_mod (xe_int1 hd.f_int (xv 4 rfl (.inl ⟨_, rfl, xv 1 rfl (I2.mk ⟨v0, xe_int (⟨_, _, rfl, rfl, rfl, ⟨fun h => xw_and1 (xt_eq (xe_call (w_law_divisor hd) (hr.mono (by decide)) (xa_cons (xe_l (xl_lst (xa_cons (xv 1 rfl (xa_cons (xv 3 rfl (xa_cons (xe_fdiv (xv 4 rfl (xv 1 rfl (I2.mk ⟨by unfold CDiv; omega, xa_nil (⟨Nat.le_of_ble_eq_true rfl, xa_nil (⟨_, [v, (i : Int), ((i : Int) * i + n * n) / v], rfl, .inl rfl, xe_int (⟨_, _, rfl, rfl, rfl, ⟨fun h2 => ?_, fun h2 => ?_⟩⟩)⟩)⟩)⟩)))))))))))))), fun h => ⟨nofun, fun _ => ?_⟩⟩⟩)⟩)⟩))))))))
    · have hb : rootOk n v i = true := by unfold rootOk; rw [h, h2]; rfl
      refine xss_one (xs_set 2 hN (xe_add (xv 2 rfl (xe_int (I2.mk ⟨rfl, .d (.int i), .d (.int ((i : Int) * i + n * n)), ?_⟩)))))
      rw [fin true hb]
      rfl
    · have hb : rootOk n v i = false := by unfold rootOk; rw [h2, Bool.and_false]
      refine xss_nil ⟨rfl, .d (.int i), .d (.int ((i : Int) * i + n * n)), ?_⟩
      rw [fin false hb, if_neg Bool.false_ne_true, Int.add_zero]
      rfl
    · have hb : rootOk n v i = false := by unfold rootOk; rw [h, Bool.false_and]
      refine xss_nil ⟨rfl, .d (.int i), .d (.int ((i : Int) * i + n * n)), ?_⟩
      rw [fin false hb, if_neg Bool.false_ne_true, Int.add_zero]
      rfl
  · rintro t2 env ⟨rfl, z, z2, rfl⟩
    rw [rgD_len]
    have hl := List.length_filter_le (rootOk n v) (List.range v.toNat)
    rw [List.length_range] at hl
    refine xss_one (xs_ret (xe_if (xt_eq (xv 0 rfl (xe_int (⟨_, _, rfl, rfl, rfl, ⟨fun h => xe_mul (xe_int (xv 2 rfl (I2.mk ⟨by unfold CMul; omega, ?_⟩))), fun h => xv 2 rfl ?_⟩⟩))))))
    · rw [if_pos (V.int.inj (of_decide_eq_true h))] at q
      exact q
    · rw [if_neg fun z => of_decide_eq_false h (by rw [z])] at q
      exact q
theorem sc_law_root : FnScope ["_law_number", "_law_low", "_law_high", "_law_middle"] ["_law_number"] (defScope s_law_root) := ⟨rfl, rfl, rfl, by decide +kernel, rfl, by decide +kernel, by decide +kernel⟩
def S_law_root : SpT := fun ds t Q => ∃ m : Int, ds = [.int m] ∧ 0 ≤ m ∧ m < 2 ^ 60 ∧ Q t (rootD m)
theorem w_law_root (hd : HF K mg) : Fn P w K mg base 1 "_law_root" [] S_law_root := by
  refine mkF hd.d_law_root sc_law_root (fun ds t Q h => by obtain ⟨_, rfl, _⟩ := h; rfl) (fun _ _ _ _ _ _ us hl => match us, hl with | [_], _ => rfl) fun f cdv A outer s H E hr ds t Q h => ?_
  have hN := sc_law_root.nd
  obtain ⟨m, rfl, m0, m1, q⟩ := h
  refine xss_cons (xs_asg (xe_tup (xa_cons (xe_int (xa_cons (xe_int (xa_nil ⟨Nat.le_of_ble_eq_true rfl, xg_tup rfl (xgs_cons (xg_name 1 hN (xgs_cons (xg_name 2 hN (xgs_nil ?_)))))⟩)))))))
  refine xss_cons (xs_while PassesOwn.never (fun k t2 env => t2 = t ∧ ∃ h z, env = [.d (.int m), .d (.int 0), .d (.int h), z] ∧ 1 ≤ h ∧ h ≤ 2 ^ 31 ∧ k = (2 ^ 32 - h).toNat) _ ⟨rfl, 1, _, rfl, by decide, by decide, rfl⟩ ?_)
  rintro k t2 env ⟨rfl, h, z, rfl, h1, h2, rfl⟩
  refine xt_le (xe_mul (xv 2 rfl (xv 2 rfl (I2.mk ⟨by unfold CMul; omega, xv 0 rfl (I2.mk ⟨fun c => ?_, fun c => ?_⟩)⟩))))
  · have c1 := of_decide_eq_true c
    have h3 : h < 2 ^ 30 := by
      rcases Int.lt_or_le h (2 ^ 30) with z | z
      · exact z
      · have := Int.mul_le_mul z z (by decide) (by omega)
        omega
    exact xss_one (xs_set 2 hN (xe_mul (xe_int (xv 2 rfl (I2.mk ⟨by unfold CMul; omega, _, by omega, rfl, 2 * h, z, rfl, by omega, by omega, rfl⟩)))))
  · have c1 := of_decide_eq_false c
    refine xss_cons (xs_while PassesOwn.never (fun k t3 env => t3 = t2 ∧ ∃ l u z, env = [.d (.int m), .d (.int l), .d (.int u), z] ∧ 0 ≤ l ∧ l < u ∧ u ≤ 2 ^ 31 ∧ l * l ≤ m ∧ m < u * u ∧ k = (u - l).toNat) _ ⟨rfl, 0, h, z, rfl, by decide, by omega, h2, by omega, by omega, rfl⟩ ?_)
    rintro k t3 env ⟨rfl, l, u, z, rfl, l0, lu, u1, lm, mu, rfl⟩
    refine xt_gt (xe_sub (xv 2 rfl (xv 1 rfl (I2.mk (xe_int (I2.mk ⟨fun c => ?_, fun c => ?_⟩))))))
    · have c2 := of_decide_eq_true c
      refine xss_cons (xs_set 3 hN (xe_fdiv (xe_add (xv 1 rfl (xv 2 rfl (I2.mk (xe_int (I2.mk ⟨by unfold CDiv; omega, ?_⟩))))))))
      refine xss_one (xs_asg (xe_if (xt_le (xe_mul (xv 3 rfl (xv 3 rfl (I2.mk ⟨by unfold CMul; omega, xv 0 rfl (I2.mk (⟨fun c3 => xe_tup (xa_cons (xv 3 rfl (xa_cons (xv 2 rfl (xa_nil (⟨Nat.le_of_ble_eq_true rfl, xg_tup rfl (xgs_cons (xg_name 1 hN (xgs_cons (xg_name 2 hN (xgs_nil ?_)))))⟩)))))), fun c3 => xe_tup (xa_cons (xv 1 rfl (xa_cons (xv 3 rfl (xa_nil (⟨Nat.le_of_ble_eq_true rfl, xg_tup rfl (xgs_cons (xg_name 1 hN (xgs_cons (xg_name 2 hN (xgs_nil ?_)))))⟩))))))⟩))⟩)))))))
      · exact ⟨_, by omega, rfl, (l + u) / 2, u, .d (.int ((l + u) / 2)), rfl, by omega, by omega, u1, of_decide_eq_true c3, mu, rfl⟩
      · have c4 := of_decide_eq_false c3
        exact ⟨_, by omega, rfl, l, (l + u) / 2, .d (.int ((l + u) / 2)), rfl, l0, by omega, by omega, lm, by omega, rfl⟩
    · have c2 := of_decide_eq_false c
      have eu : u = l + 1 := by omega
      have hr1 : Float64.isqrt m.toNat = l.toNat := by
        have e1 : ((l.toNat * l.toNat : Nat) : Int) = l * l := by rw [Int.natCast_mul, Int.toNat_of_nonneg l0]
        have e2 : (((l.toNat + 1) * (l.toNat + 1) : Nat) : Int) = u * u := by rw [Int.natCast_mul, Int.natCast_add, Int.toNat_of_nonneg l0, eu]; rfl
        exact isqrt_eq (by omega) (by omega)
      have hl : isq m = l := by unfold isq; rw [hr1, Int.toNat_of_nonneg l0]
      unfold rootD at q
      rw [hl] at q
      refine xss_one (xs_ret (xe_if (xt_eq (xe_mul (xv 1 rfl (xv 1 rfl (I2.mk ⟨by unfold CMul; omega, xv 0 rfl (⟨_, _, rfl, rfl, rfl, ⟨fun c3 => xv 1 rfl ?_, fun c3 => xe_non ?_⟩⟩)⟩)))))))
      · rw [if_pos (V.int.inj (of_decide_eq_true c3))] at q
        exact q
      · rw [if_neg fun z => of_decide_eq_false c3 (by rw [z])] at q
        exact q
end
end BS

set_option Elab.async false
set_option linter.all false
set_option maxRecDepth 100000
set_option maxHeartbeats 4000000
/-! the walks: the law's forms -/
namespace BS
open PySem PySem.Spec PyProof.Rows L2
section
variable {P : Program} {w : World} {K : PySem.W.Frag} {mg : Str → Option Value} {base : Heap}
theorem sc_law_forms : FnScope ["_law_side", "_law_found", "_law_first", "_law_half", "_law_worth", "_law_last", "_law_is_least"] ["_law_side"] (defScope s_law_forms) := ⟨rfl, rfl, rfl, by decide +kernel, rfl, by decide +kernel, by decide +kernel⟩
def S_law_forms : SpT := fun ds t Q => ∃ n : Int, ds = [.int n] ∧ 0 < n ∧ n ≤ 60 ∧ ∀ L : List (Int × Int × Int), L.Perm (lawA n (6 * n / 5).toNat) → Q t (.lst (L.map tT))
theorem w_law_forms (hd : HF K mg) : Fn P w K mg base 2 "_law_forms" [] S_law_forms := by
  refine mkF hd.d_law_forms sc_law_forms (fun ds t Q h => by obtain ⟨_, rfl, _⟩ := h; rfl) (fun _ _ _ _ _ _ us hl => match us, hl with | [_], _ => rfl) fun f cdv A outer s H E hr ds t Q h => ?_
  have hN := sc_law_forms.nd
  obtain ⟨n, rfl, n0, n1, q⟩ := h
  refine xss_cons (xs_own 1 hN (xl_lst (xa_nil ⟨by decide, ?_⟩)))
  refine xss_cons (xs_for PassesOwn.never rfl (xi_rg2 hd.f_range (xe_int (xe_add (xe_int (xe_fdiv (xe_mul (xe_int (xv 0 rfl (I2.mk ⟨by unfold CMul; omega, xe_int (I2.mk ⟨by unfold CDiv; omega, I2.mk (I2.mk ⟨by omega, fun i t2 env => t2 = t ∧ ∃ z z2 z3 z4 z5, env = [.d (.int n), .own (.lst none ((lawA n i).map tT)), z, z2, z3, z4, z5], ⟨rfl, _, _, _, _, _, rfl⟩, ?_, ?_⟩)⟩)⟩))))))))))
  · rintro i d t2 env hi ⟨rfl, z, z2, z3, z4, z5, rfl⟩
    obtain ⟨hi1, rfl⟩ := rgD_at hi
    have hA := lawA_len n i (by omega)
    refine xg_name 2 hN ?_
    have hsucc : lawA n (i + 1) = lawA n i ++ lawR n (1 + (i : Int)) (2 * (1 + (i : Int)) + 1).toNat := by
      unfold lawA
      rw [List.range_succ, List.flatMap_append, List.flatMap_singleton]
    have hf0 : 0 < 1 + (i : Int) := by omega
    have hf1 : 1 + (i : Int) ≤ 100 := by omega
    generalize 1 + (i : Int) = g at *
    refine xss_one (xs_for PassesOwn.never rfl (xi_rg2 hd.f_range (xe_neg (xv 2 rfl (⟨_, rfl, xe_add (xv 2 rfl (xe_int (I2.mk (I2.mk ⟨by omega, fun j t3 env => t3 = t2 ∧ ∃ z2 z3 z4 z5, env = [.d (.int n), .own (.lst none ((lawA n i ++ lawR n g j).map tT)), .d (.int g), z2, z3, z4, z5], ⟨rfl, z2, z3, z4, z5, by unfold lawR; rw [List.range_zero, List.map_nil, List.filter_nil, List.map_nil, List.append_nil]; rfl⟩, ?_, ?_⟩))))⟩)))))
    · rintro j d t3 env hj ⟨rfl, z2, z3, z4, z5, rfl⟩
      obtain ⟨hj1, rfl⟩ := rgD_at hj
      have hR := lawR_len n g j
      have fin : ∀ b : Bool, lawP n g (-g + (j : Int)) = b → (lawA n i ++ lawR n g (j + 1)).map tT = (lawA n i ++ lawR n g j).map tT ++ (if b = true then [tT (g, -g + (j : Int), lastOf n g (-g + (j : Int)))] else []) := fun b hb => by
        rw [lawR_succ, hb, ← List.append_assoc, List.map_append]
        cases b <;> rfl
      have hh1 : -100 ≤ -g + (j : Int) := by omega
      have hh2 : -g + (j : Int) ≤ 100 := by omega
      generalize -g + (j : Int) = h at *
      refine xg_name 3 hN ?_
      refine xss_cons (xs_set 4 hN (xe_add (xe_mul (xv 3 rfl (xv 3 rfl (I2.mk ⟨by unfold CMul; omega, xe_mul (xv 0 rfl (xv 0 rfl (I2.mk ⟨by unfold CMul; omega, I2.mk ?_⟩)))⟩))))))
      refine xss_cons (xs_set 5 hN (xe_fdiv (xv 4 rfl (xv 2 rfl (I2.mk ⟨by unfold CDiv; omega, ?_⟩)))))
      rw [show (h * h + n * n) / g = lastOf n g h from rfl]
      refine xss_cons (XS.mono (Q := fun t1 env1 => t1 = t3 ∧ env1 = [.d (.int n), .own (.lst none ((lawA n i ++ lawR n g j).map tT)), .d (.int g), .d (.int h), .d (.int (h * h + n * n)), .d (.int (lastOf n g h)), .d (.bl (lawLeast n g h))]) ?_ ?_ fun _ _ _ r => r)
      · have lf : ∀ b : Bool, b = lawLeast n g h → (t3 = t3 ∧ ([.d (.int n), .own (.lst none ((lawA n i ++ lawR n g j).map tT)), .d (.int g), .d (.int h), .d (.int (h * h + n * n)), .d (.int (lastOf n g h)), .d (.bl b)] : List Sl) = [.d (.int n), .own (.lst none ((lawA n i ++ lawR n g j).map tT)), .d (.int g), .d (.int h), .d (.int (h * h + n * n)), .d (.int (lastOf n g h)), .d (.bl (lawLeast n g h))]) := fun b hb => ⟨rfl, by rw [hb]⟩
        refine xs_set 6 hN (xe_and (xe_chain3 (xe_neg (xv 2 rfl ⟨_, rfl, xe_mul (xe_int (xv 3 rfl (I2.mk ⟨by unfold CMul; omega, I2.mk ⟨fun c1 => xv 2 rfl (I2.mk ⟨fun c2 => xv 5 rfl (I2.mk ⟨_, rfl, fun c3 => xe_one (xe_or (xe_ge (xv 3 rfl (xe_int (I2.mk ⟨_, rfl, fun c4 => ?_, fun c4 => xe_one (xe_ne (xv 2 rfl (xv 5 rfl ⟨_, _, rfl, rfl, rfl, ?_⟩)))⟩))))), fun c3 => ?_⟩), fun c2 => ⟨_, rfl, nofun, fun _ => ?_⟩⟩), fun c1 => ⟨_, rfl, nofun, fun _ => ?_⟩⟩⟩)))⟩))))
        · exact lf true (decide_eq_true ⟨c1, c2, of_decide_eq_true c3, .inl (of_decide_eq_true c4)⟩).symm
        · refine lf _ ?_
          have n4 := of_decide_eq_false c4
          have p3 := of_decide_eq_true c3
          unfold lawLeast
          by_cases e : g = lastOf n g h
          · rw [show decide (V.int g = V.int (lastOf n g h)) = true from decide_eq_true (by rw [← e])]
            exact (decide_eq_false fun z => z.2.2.2.elim n4 fun y => y e).symm
          · rw [show decide (V.int g = V.int (lastOf n g h)) = false from decide_eq_false fun z => e (V.int.inj z)]
            exact (decide_eq_true ⟨c1, c2, p3, .inr e⟩).symm
        · exact lf false (decide_eq_false fun z => of_decide_eq_false c3 z.2.2.1).symm
        · exact lf false (decide_eq_false fun z => c2 z.2.1).symm
        · exact lf false (decide_eq_false fun z => c1 z.1).symm
      rintro t4 env4 ⟨rfl, rfl⟩
      refine xss_one (xs_if (xt_w (xw_and (xt_eq (xe_mod (xe_int1 hd.f_int (xv 4 rfl (.inl ⟨_, rfl, xv 2 rfl (I2.mk ⟨by omega, xe_int (⟨_, _, rfl, rfl, rfl, ⟨fun c1 => xw_and (xt_val (xv 6 rfl (⟨_, rfl, ⟨fun c2 => xw_and1 (xt_eq (xe_call (w_law_divisor hd) (hr.mono (by decide)) (xa_cons (xe_l (xl_lst (xa_cons (xv 2 rfl (xa_cons (xv 3 rfl (xa_cons (xv 5 rfl (xa_nil (⟨Nat.le_of_ble_eq_true rfl, xa_nil (⟨_, [g, h, lastOf n g h], rfl, .inl rfl, xe_int (⟨_, _, rfl, rfl, rfl, ⟨fun c3 => ?_, fun c3 => ?_⟩⟩)⟩)⟩))))))))))))), fun c2 => ⟨nofun, fun _ => ?_⟩⟩⟩))), fun c1 => ⟨nofun, fun _ => ?_⟩⟩⟩)⟩)⟩))))))))
      · have hb : lawP n g h = true := by unfold lawP; rw [c1, c2, c3]; rfl
        refine xss_one (xs_append 1 rfl (by rw [List.length_map, List.length_append]; omega) (xe_tup (xa_cons (xv 2 rfl (xa_cons (xv 3 rfl (xa_cons (xv 5 rfl (xa_nil (⟨Nat.le_of_ble_eq_true rfl, ⟨rfl, .d (.int h), .d (.int (h * h + n * n)), .d (.int (lastOf n g h)), .d (.bl (lawLeast n g h)), ?_⟩⟩))))))))))
        rw [fin true hb]
        rfl
      · have hb : lawP n g h = false := by unfold lawP; rw [c3, Bool.and_false, Bool.and_false]
        refine xss_nil ⟨rfl, .d (.int h), .d (.int (h * h + n * n)), .d (.int (lastOf n g h)), .d (.bl (lawLeast n g h)), ?_⟩
        rw [fin false hb, if_neg Bool.false_ne_true, List.append_nil]
      · have hb : lawP n g h = false := by unfold lawP; rw [c2, Bool.false_and, Bool.and_false]
        refine xss_nil ⟨rfl, .d (.int h), .d (.int (h * h + n * n)), .d (.int (lastOf n g h)), .d (.bl (lawLeast n g h)), ?_⟩
        rw [fin false hb, if_neg Bool.false_ne_true, List.append_nil]
      · have hb : lawP n g h = false := by unfold lawP; rw [c1, Bool.false_and]
        refine xss_nil ⟨rfl, .d (.int h), .d (.int (h * h + n * n)), .d (.int (lastOf n g h)), .d (.bl (lawLeast n g h)), ?_⟩
        rw [fin false hb, if_neg Bool.false_ne_true, List.append_nil]
    · rintro t3 env ⟨rfl, z2, z3, z4, z5, rfl⟩
      rw [rgD_len, show (g + 1 - -g).toNat = (2 * g + 1).toNat by omega]
      exact ⟨rfl, .d (.int g), z2, z3, z4, z5, by rw [hsucc]⟩
  · rintro t2 env ⟨rfl, z, z2, z3, z4, z5, rfl⟩
    rw [rgD_len, show (1 + 6 * n / 5 - 1).toNat = (6 * n / 5).toNat by omega]
    refine xss_firm (ao := none) (ds := (lawA n (6 * n / 5).toNat).map tT) 1 rfl ?_
    refine xss_one (xs_ret (xe_sortN 3 (by decide) hd.f_sorted (xv 1 rfl ⟨_, rfl, tupN_tT, fun es pm => ?_⟩)))
    obtain ⟨L', h1, h2⟩ := perm_map_ex (f := tT) pm _ rfl
    rw [h2]
    exact q L' h1
end
end BS

set_option Elab.async false
set_option linter.all false
set_option maxRecDepth 100000
set_option maxHeartbeats 4000000
/-! xs[k] of a name's own list; the body of a def that changes the jar -/
namespace BS
open PySem PySem.Spec PyProof.Rows L2
section
variable {X : Cx} {b : Expr} {t : Nat} {env : List Sl} {pos px : Pos} {x : Str}
theorem xe_ixOwn (i : Nat) {ao : Option Addr} {ds : List D} {Q : Nat → D → Prop} (hs : PlainIx b) (he : env[i]? = some (.own (.lst ao ds))) (h : XE X b t env fun t2 y => ∃ k d, y = .int k ∧ 0 ≤ k ∧ ds[k.toNat]? = some d ∧ Q t2 d)
    (hN : X.N[i]? = some x := by rfl) (hv : Vis X.env.scope x := by first | exact Or.inl rfl | exact Or.inr (Or.inl rfl)) (hd : (x == ("__debug__" : Str)) = false := by decide) (hcd : (x == ("__classdict__" : Str)) = false := by decide) :
    XE X (.Subscript (.Name x px) b pos) t env Q := fun J G0 H0 G H σ S => by
  obtain ⟨q, o, y1, _⟩ := S.own i _ he
  refine WE.of (pe_ix ix_seq (pe_var hN hv hd hcd) pe_w hs) ⟨.ref q, y1, ?_⟩
  refine (h J G0 H0 G H σ S).mono fun u H2 ⟨G2, t2, y, e2, S2, r2, k, d, ey, h0, hdd, q2⟩ => ?_
  subst ey
  obtain rfl : u = .int k := r2
  obtain ⟨q', o', z1, z2, ⟨hao', ys, z3, zr⟩, _⟩ := S2.own i _ he
  subst z3
  have eq : q' = q := by
    rw [y1] at z1
    have := Option.some.inj (Option.some.inj z1)
    injection this with this
    exact this.symm
  subst eq
  obtain ⟨z, z3, z4⟩ := zr.get hdd
  have ei : ((k.toNat : Nat) : Int) = k := by omega
  have za : atI ys k = some z := by
    rw [← ei]
    exact atI_nat z3
  exact .inl ⟨q', ys, k, z, rfl, rfl, SqL.of z2, za, fin_e e2 S2 z4 q2⟩
end
section
variable {P : Program} {w : World} {K : PySem.W.Frag} {mg : Str → Option Value} {base : Heap} {x : Str} {st : Stmt} {N ps : List Str} {k : Nat}
/-- how a jar def's body ends -/
def JarEnd (j : Addr) (cells : List Int) (Q' : Nat → D → Prop) (t' : Nat) (env' : List Sl) (d : D) : Prop :=
  ∃ (t2 : Nat) (u' r' : Int), env'[0]? = some (.own (.lst (some j) [.lst (cells.map D.int), .int u', .int r'])) ∧ 0 ≤ u' ∧ u' ≤ (t2 : Int) ∧ 0 ≤ r' ∧ flatD d = true ∧ Q' t2 d
theorem mk_jar {S : SpT} {qual : Str} {dvs : List V} {f : Addr} {fd : FuncData} (F : FunD K x qual (defArgs st) (defBody st) (defScope st) dvs [] f fd) (Sc : FnScope N ps (defScope st))
    (hl : ∀ ds t Q, S ds t Q → ∃ es, ds = .jar :: es ∧ es.all flatD = true ∧ es.length + 1 = ps.length)
    (hb : ∀ (cdv : Value) (A : Around) (outer : List Env) (s : Shared) (H : Hp) (E : XK), Room k (CxB P w K mg base N qual st f cdv A outer s H E).A → ∀ (j : Addr) (cells : List Int) (u r : Int) (ds : List D) (t : Nat) (Q' : Nat → D → Prop), S (.jar :: ds) t Q' → 0 ≤ u → u ≤ (t : Int) → 0 ≤ r →
      XSs (CxB P w K mg base N qual st f cdv A outer s H E) (defBody st) t (.own (.lst (some j) [.lst (cells.map D.int), .int u, .int r]) :: (startE N (.non :: ds)).drop 1) (fun t' env' => JarEnd j cells Q' t' env' .non) (fun t' env' d => JarEnd j cells Q' t' env' d)) :
    FnOk P w K mg base CX0 (k + 1) f fd ps (spD S) := by
  refine F.ok Sc (fun vs H Q E h => ?_) (fun cdv A outer s H vs Q E hr h => ?_)
  · obtain ⟨J, G, t, ds, Q', h1, h2, h3, h4, _⟩ := h
    obtain ⟨es, e, _, hlen⟩ := hl _ _ _ h4
    rw [h3.length, e, List.length_cons, hlen]
  · obtain ⟨J, G, t, ds, Q', h1, h2, h3, h4, q⟩ := h
    obtain ⟨es, e, hfl, hlen⟩ := hl _ _ _ h4
    subst e
    obtain ⟨v0, us, e0, ⟨j, hJ, ev⟩, r0⟩ := h3
    subst e0 ev hJ
    obtain ⟨c, u, r, cells, a1, a2, a3, a4, a5, a6⟩ := h2 j rfl
    have hN : (D.non :: es).length ≤ N.length := by
      have e := congrArg List.length Sc.pre
      rw [List.length_take] at e
      rw [List.length_cons]
      omega
    have S0 : Stt none G H G H t (L2.start N (.non :: us)) (startE N (.non :: es)) := start_stt h1 (fun j e => nomatch e) (show RepL none G (.non :: es) (.non :: us) from ⟨.non, us, rfl, rfl, RepL.flat hfl r0⟩) hN
    have S1 : Stt none G (fun a => if a = j then none else H a) G H t (L2.start N (.non :: us)) (startE N (.non :: es)) := by
      refine ⟨⟨Same.refl _, fun a o e _ => ?_, fun a o _ n => n⟩, S0.sub, S0.jar, S0.len, S0.val, fun i c e => ?_, S0.dist⟩
      · have e' : (if a = j then none else H a) = some o := e
        by_cases ha : a = j
        · rw [if_pos ha] at e'; cases e'
        · rw [if_neg ha] at e'; exact e'
      · obtain ⟨p, o, z1, z2, z3, z4, z5, z6⟩ := S0.own i c e
        rw [z5] at z2; cases z2
    have S2 := S1.putOwn (c := .lst (some j) [.lst (cells.map D.int), .int u, .int r]) (p := j) 0 a1 ⟨fun b e => by injection e, _, rfl, .ref c, _, rfl, ⟨c, _, rfl, a2, RepL.of_ints cells⟩, .int u, _, rfl, rfl, .int r, _, rfl, rfl, rfl⟩ a3 (if_pos rfl) (fun e => nomatch e) fun k c hk e => by
      obtain ⟨p, o, z1, z2, z3, z4, z5, z6⟩ := S0.own k c e
      rw [z5] at z2; cases z2
    have es' : (L2.start N (V.non :: us)).set 0 (some (.ref j)) = L2.start N (.ref j :: us) := rfl
    have ee : (startE N (D.non :: es)).set 0 (.own (.lst (some j) [.lst (cells.map D.int), .int u, .int r])) = .own (.lst (some j) [.lst (cells.map D.int), .int u, .int r]) :: (startE N (.non :: es)).drop 1 := rfl
    rw [es', ee] at S2
    have fin : ∀ {t' : Nat} {σ' : L2.St} {env' : List Sl} {G' H' : Hp} {d : D} {v : V}, Stt none G (fun a => if a = j then none else H a) G' H' t' σ' env' → Rep none G' d v → JarEnd j cells Q' t' env' d → Q v H' := fun {t' σ' env' G' H' d v} S' r' ⟨t2, u', r2, e', b1, b2, b3, b4, q'⟩ => by
      obtain ⟨p, o, z1, z2, ⟨z3, xs, z4, z5⟩, z8, z9, z10⟩ := S'.own 0 _ e'
      have ep : p = j := z3 j rfl
      subst ep z4
      obtain ⟨x1, l1, f1, ⟨c', ys, f2, f3, f4⟩, x2, l2, f5, f6, x3, l3, f7, f8, f9⟩ := z5
      subst f1 f2 f5 f7
      obtain rfl : x2 = .int u' := f6
      obtain rfl : x3 = .int r2 := f8
      obtain rfl : l3 = [] := f9
      refine q t2 d q' v G' H' ⟨S'.gr.exG, fun a o e n => ?_, fun a o e n => ?_⟩ S'.sub (fun j2 ej => ?_) (r'.flat b4)
      · refine S'.gr.exH a o ?_ (fun z => nomatch z)
        show (if a = p then none else H a) = some o
        rw [if_neg fun z => n (by rw [z])]
        exact e
      · by_cases ha : a = p
        · rw [ha]; exact z8
        · exact S'.gr.nof a o (by show (if a = p then none else H a) = some o; rw [if_neg ha]; exact e) n
      · injection ej with ej
        subst ej
        exact ⟨c', u', r2, cells, z2, by rw [← f4.ints]; exact f3, z8, b1, b2, b3⟩
    refine ⟨WSs (CxB P w K mg base N qual st f cdv A outer s H E) (defBody st), PSs.nox pss_w, ?_⟩
    exact (hb cdv A outer s H E hr j cells u r es t Q' h4 a4 a5 a6 none G _ G H _ S2).mono (fun σ' H' ⟨G', t', env', _, S', je⟩ => fin S' (d := .non) rfl je) (fun v H' ⟨G', t', σ', env', d, S', r', je⟩ => fin S' r' je) (fun _ _ z => z) fun _ _ z => z
theorem mkJ {S : SpT} (kn : KnF K mg x st []) (Sc : FnScope N ps (defScope st)) (hl : ∀ ds t Q, S ds t Q → ∃ es, ds = .jar :: es ∧ es.all flatD = true ∧ es.length + 1 = ps.length)
    (hbn : ∀ (kV doc pm : Value) (an : Option Addr) (cdv ct : Value) (us : List Value), us.length = ps.length → bindArgs (PySem.W.fnOf x x (defArgs st) (defBody st) (defScope st) .none kV doc pm an cdv ct) ⟨us, []⟩ = pure (ps.zip us))
    (hb : ∀ (f : Addr) (cdv : Value) (A : Around) (outer : List Env) (s : Shared) (H : Hp) (E : XK), Room k (CxB P w K mg base N x st f cdv A outer s H E).A → ∀ (j : Addr) (cells : List Int) (u r : Int) (ds : List D) (t : Nat) (Q' : Nat → D → Prop), S (.jar :: ds) t Q' → 0 ≤ u → u ≤ (t : Int) → 0 ≤ r →
      XSs (CxB P w K mg base N x st f cdv A outer s H E) (defBody st) t (.own (.lst (some j) [.lst (cells.map D.int), .int u, .int r]) :: (startE N (.non :: ds)).drop 1) (fun t' env' => JarEnd j cells Q' t' env' .non) (fun t' env' d => JarEnd j cells Q' t' env' d)) : Fn P w K mg base (k + 1) x [] S := by
  obtain ⟨f, fd, F, hm⟩ := kn
  exact ⟨f, fd, ps, [], [], mk_jar F Sc hl fun cdv A outer s H E hr => hb f cdv A outer s H E hr, hm, F.kp, F.bindsN hbn, .nil, fun _ _ => rfl⟩
end
end BS

set_option Elab.async false
set_option linter.all false
set_option maxRecDepth 100000
set_option maxHeartbeats 4000000
/-! the walks: the law's draws -/
namespace BS
open PySem PySem.Spec PyProof.Rows L2
section
variable {P : Program} {w : World} {K : PySem.W.Frag} {mg : Str → Option Value} {base : Heap}
theorem sc_law_lot : FnScope ["_law_jar_here", "_law_many_here", "_law_turn", "_law_cell", "_law_mixed_here", "_law_rest"] ["_law_jar_here", "_law_many_here"] (defScope s_law_lot) := ⟨rfl, rfl, rfl, by decide +kernel, rfl, by decide +kernel, by decide +kernel⟩
def S_law_lot : SpT := fun ds t Q => ∃ n : Int, ds = [.jar, .int n] ∧ 0 < n ∧ n < 2 ^ 30 ∧ t < 100000 ∧ ∀ r : Int, 0 ≤ r → r < n → Q (t + 1) (.int r)
theorem pow_nat {x : Int} (h : 0 ≤ x) (n : Nat) : 0 ≤ x ^ n := Int.pow_nonneg h
theorem w_law_lot (hd : HF K mg) : Fn P w K mg base 1 "_law_lot" [] S_law_lot := by
  refine mkJ hd.d_law_lot sc_law_lot (fun ds t Q h => by obtain ⟨n, rfl, _⟩ := h; exact ⟨[.int n], rfl, rfl, rfl⟩) (fun _ _ _ _ _ _ us hl => match us, hl with | [_, _], _ => rfl) fun f cdv A outer s H E hr j cells u r ds t Q h u0 u1 r0 => ?_
  have hN := sc_law_lot.nd
  obtain ⟨n, e, n0, n1, t1, q⟩ := h
  cases e
  have fin : ∀ x : Int, Q (t + 1) (.int (x % n)) := fun x => q _ (Int.emod_nonneg _ (by omega)) (Int.emod_lt_of_pos _ n0)
  refine xss_cons (xs_if (xt_gt (xe_ixOwn 0 (fun _ _ => rfl) rfl (xe_int ⟨_, _, rfl, by decide, rfl, xe_int (I2.mk ⟨fun h => ?_, fun h => ?_⟩)⟩))))
  · refine xss_cons (xs_set 5 hN (xe_ixOwn 0 (fun _ _ => rfl) rfl (xe_int ⟨_, _, rfl, by decide, rfl, ?_⟩)))
    refine xss_cons (xs_setIx 0 rfl (xe_fdiv (xe_int1 hd.f_int (xv 5 rfl (.inl ⟨_, rfl, xv 1 rfl (I2.mk ⟨by unfold CDiv; omega, xe_int ⟨2, rfl, Nat.le_of_ble_eq_true rfl, ?_⟩⟩)⟩)))))
    exact xss_one (xs_ret (xe_mod (xe_int1 hd.f_int (xv 5 rfl (.inl ⟨_, rfl, xv 1 rfl (I2.mk ⟨n0, t + 1, u, r / n, rfl, u0, by omega, Int.ediv_nonneg r0 (by omega), rfl, fin _⟩)⟩)))))
  refine xss_nil ?_
  have hut : u < 100000 := by omega
  have huu : u * u ≤ 100000 * 100000 := Int.mul_le_mul (by omega) (by omega) u0 (by decide)
  have huu0 : 0 ≤ u * u := Int.mul_nonneg u0 u0
  refine xss_cons (xs_set 2 hN (xe_ixOwn 0 (fun _ _ => rfl) rfl (xe_int ⟨_, _, rfl, by decide, rfl, ?_⟩)))
  refine xss_cons (xs_setIx 0 rfl (xe_add (xv 2 rfl (xe_int (I2.mk (xe_int ⟨1, rfl, Nat.le_of_ble_eq_true rfl, ?_⟩))))))
  refine xss_cons (xs_set 3 hN (xe_add (xe_mul (xe_int (xv 2 rfl (I2.mk ⟨by unfold CMul; omega, xe_int (I2.mk ?_)⟩))))))
  refine xss_cons (XS.mono (Q := fun t1 env1 => t1 = t ∧ ∃ v : Int, env1 = [.own (.lst (some j) [.lst (cells.map D.int), .int (u + 1), .int r]), .d (.int n), .d (.int u), .d (.int v), .any, .any]) ?_ ?_ fun _ _ _ r => r)
  · refine xs_if (xt_neD hr.units (xe_ixOwn 0 (fun _ _ => rfl) rfl (xe_int ⟨_, _, rfl, by decide, rfl, xe_l (xl_lst (xa_nil ⟨Nat.le_of_ble_eq_true rfl, EqD.lsts (ns := cells) (ms := []) ⟨fun h => ?_, fun h => xss_nil ⟨rfl, _, rfl⟩⟩⟩))⟩)))
    have hc : 0 < cells.length := by
      cases cells with
      | nil => cases h
      | cons a r => exact Nat.succ_pos _
    have hk0 : 0 ≤ u % (cells.length : Int) := Int.emod_nonneg _ (by omega)
    have hk1 : u % (cells.length : Int) < cells.length := Int.emod_lt_of_pos _ (by omega)
    have hg : (cells.map D.int)[(u % (cells.length : Int)).toNat]? = some (.int (cells[(u % (cells.length : Int)).toNat]'(by omega))) := by
      rw [List.getElem?_map, List.getElem?_eq_getElem (by omega)]
      rfl
    refine xss_one (xs_set 3 hN (xe_ix (fun _ _ => rfl) (xe_ixOwn 0 (fun _ _ => rfl) rfl (xe_int ⟨_, _, rfl, by decide, rfl, xe_mod (xe_int1 hd.f_int (xv 2 rfl (.inl ⟨_, rfl, xe_len hd.f_len (xe_ixOwn 0 (fun _ _ => rfl) rfl (xe_int ⟨_, _, rfl, by decide, rfl, ⟨_, .inl rfl, I2.mk ⟨by rw [List.length_map]; omega, ?_⟩⟩⟩))⟩)))⟩))))
    rw [List.length_map]
    exact ⟨_, _, _, .inl rfl, rfl, hk0, hg, rfl, _, rfl⟩
  rintro t2 env ⟨rfl, v, rfl⟩
  have last : XSs (CxB P w K mg base ["_law_jar_here", "_law_many_here", "_law_turn", "_law_cell", "_law_mixed_here", "_law_rest"] "_law_lot" s_law_lot f cdv A outer s H E) ((defBody s_law_lot).drop 6) t2 [.own (.lst (some j) [.lst (cells.map D.int), .int (u + 1), .int r]), .d (.int n), .d (.int u), .d (.int v), .any, .any] (fun t' env' => JarEnd j cells Q t' env' .non) (fun t' env' d => JarEnd j cells Q t' env' d) := by
    have hv0 : 0 ≤ v % 2147483579 := Int.emod_nonneg _ (by decide)
    have hv1 : v % 2147483579 < 2147483579 := Int.emod_lt_of_pos _ (by decide)
    refine xss_cons (xs_set 4 hN (xe_mod (xe_int1 hd.f_int (xe_pow (xe_add (xe_add (xe_mod (xe_int1 hd.f_int (xv 3 rfl (.inl ⟨_, rfl, xe_int (I2.mk ⟨by omega, xe_mul (xe_int (xv 2 rfl (I2.mk ⟨by unfold CMul; omega, I2.mk (xe_int (I2.mk (xe_int (I2.mk ⟨by unfold CPow; omega, .inl ⟨_, rfl, xe_int (I2.mk ⟨by omega, ?_⟩)⟩⟩))))⟩)))⟩)⟩))))))))))
    generalize (v % 2147483579 + 73043 * u + 4219) ^ Int.toNat 5 = y
    have hy0 : 0 ≤ y % 2147483587 := Int.emod_nonneg _ (by decide)
    have hy1 : y % 2147483587 < 2147483587 := Int.emod_lt_of_pos _ (by decide)
    generalize y % 2147483587 = z at *
    have hz : z * (2 * u + 4219) ≤ 2147483587 * 204219 := Int.mul_le_mul (by omega) (by omega) (by omega) (by decide)
    have hz0 : 0 ≤ z * (2 * u + 4219) := Int.mul_nonneg hy0 (by omega)
    have e3 : 63059 * u * u = 63059 * (u * u) := Int.mul_assoc _ _ _
    refine xss_cons (xs_set 4 hN (xe_mod (xe_int1 hd.f_int (xe_pow (xe_add (xe_add (xe_mul (xv 4 rfl (xe_add (xe_mul (xe_int (xv 2 rfl (I2.mk ⟨by unfold CMul; omega, xe_int (I2.mk (I2.mk ⟨by unfold CMul; omega, xe_mul (xe_mul (xe_int (xv 2 rfl (I2.mk ⟨by unfold CMul; omega, xv 2 rfl (I2.mk ⟨by unfold CMul; omega, I2.mk (xe_int (I2.mk (xe_int (I2.mk ⟨by unfold CPow; omega, .inl ⟨_, rfl, xe_int (I2.mk ⟨by omega, ?_⟩)⟩⟩))))⟩)⟩))))⟩))⟩)))))))))))))
    exact xss_one (xs_ret (xe_mod (xe_int1 hd.f_int (xe_fdiv (xv 4 rfl (xe_int (I2.mk ⟨by unfold CDiv; omega, .inl ⟨_, rfl, xv 1 rfl (I2.mk ⟨n0, t2 + 1, u + 1, r, rfl, by omega, by omega, r0, rfl, fin _⟩)⟩⟩)))))))
  refine xss_cons (xs_if (xt_w (xw_and (xt_lt (xv 2 rfl (xe_len hd.f_len (xe_ixOwn 0 (fun _ _ => rfl) rfl (xe_int ⟨_, _, rfl, by decide, rfl, ⟨_, .inl rfl, I2.mk ⟨fun h => xw_and1 (xt_ge (xe_abs hd.f_abs (xv 3 rfl ⟨_, rfl, xe_pow (xe_int (xe_int (I2.mk ⟨by unfold CPow; omega, I2.mk ⟨fun h2 => ?_, fun h2 => xss_nil last⟩⟩)))⟩))), fun h => ⟨nofun, fun _ => xss_nil last⟩⟩⟩⟩))))))))
  have h3 := of_decide_eq_true h2
  refine xss_cons (xs_set 5 hN (xe_add (xe_mul (xe_int (xe_sub (xe_abs hd.f_abs (xv 3 rfl ⟨_, rfl, xe_pow (xe_int (xe_int (I2.mk ⟨by unfold CPow; omega, I2.mk (I2.mk ⟨by unfold CMul; omega, xe_int1 hd.f_int (xe_lt (xv 3 rfl (xe_int (I2.mk (.inr ⟨_, rfl, I2.mk ?_⟩)))))⟩)⟩)))⟩)))))))
  have h4 : 0 ≤ 2 * ((if v < 0 then -v else v) - 10 ^ Int.toNat 18) + (if decide (v < 0) = true then 1 else 0) := by
    have : (0 : Int) ≤ (if decide (v < 0) = true then 1 else 0) := by split <;> decide
    omega
  generalize 2 * ((if v < 0 then -v else v) - 10 ^ Int.toNat 18) + (if decide (v < 0) = true then 1 else 0) = y at *
  refine xss_cons (xs_setIx 0 rfl (xe_fdiv (xe_int1 hd.f_int (xv 5 rfl (.inl ⟨_, rfl, xv 1 rfl (I2.mk ⟨by unfold CDiv; omega, xe_int ⟨2, rfl, Nat.le_of_ble_eq_true rfl, ?_⟩⟩)⟩)))))
  exact xss_one (xs_ret (xe_mod (xe_int1 hd.f_int (xv 5 rfl (.inl ⟨_, rfl, xv 1 rfl (I2.mk ⟨n0, t2 + 1, u + 1, y / n, rfl, by omega, by omega, Int.ediv_nonneg h4 (by omega), rfl, fin _⟩)⟩)))))
end
end BS

set_option Elab.async false
set_option linter.all false
set_option maxRecDepth 100000
/-! sorted(set([a, b])) -/
namespace BSet
open PySem PySem.Spec PyProof.Rows L2
abbrev nov (w : World) : Obj := { cls := .type "set", dict := none, data := .set #[] 0 (.fresh 0 0 (!w.params.followText "set-order")) }
abbrev plus (w : World) (g : Heap) : Heap := g.push (nov w)
section
variable {P : Program} {w : World} {A : Around} {E : Value → Shared → Prop} {s : Shared}
set_option maxHeartbeats 6400000 in
theorem of_list {l : Addr} {vs : Array Value} (ns : List Int) {Q : Value → Shared → Prop} (calm : A.handled = none) (isL : s.heap.IsList l vs) (hin : IntsAre vs.toList ns) (few : ns.length + 1 < scanBound)
    (fin : ∀ (g : Heap) (tk c : Nat), SetR w g s.heap.objs.size (fun j => decide (j ∈ ns)) c → c ≤ ns.length → (∀ b o, s.heap.get? b = some o → g.get? b = some o) → Q (.ref s.heap.objs.size) { s with heap := g, toks := tk }) :
    wpAny (model P w) A (call (.type "set") [.ref l]) Q E s := by
  have sz : vs.size = ns.length := by
    have z := IntsAre.length hin
    rwa [Array.length_toList] at z
  obtain ⟨c0, tl0, chain⟩ := F.called_set.mro
  have a1 := F.called_set.made
  have a2 := F.called_set.sub
  refine wpAny_call (codeAny_of_tree ?_)
  show wpAny _ _ (callAny (.type "set") _) _ _ _
  refine wpAny_pure ⟨Code.quiet_builtin _ (by decide +kernel), codeAny_builtin F.entry_type_call ?_⟩
  rw [Around.under_plain (weight_type_call_type "set" [.ref l] []) rfl]
  have a3 := F.called_set.notType
  have a4 := F.called_set.canCreate
  have a5 := F.typeCall_set_1 (.ref l)
  repeat (any_goals (first | assumption | wp_step))
  refine codeAny_mono (code_set_led1 (.ref l) (E := E) (Q₁ := fun u z => u = .ref s.heap.objs.size ∧ z = { s with heap := plus w s.heap }) ⟨rfl, rfl⟩) fun r z hz => ?_
  cases r with
  | error _ => exact hz
  | ok fl =>
    cases fl with
    | ret u =>
      obtain ⟨rfl, rfl⟩ := hz
      have b1 : (plus w s.heap).get? s.heap.objs.size = some (nov w) := Heap.get?_push_size _ rfl
      have b2 : Shared.TypeIs { s with heap := plus w s.heap } (.ref s.heap.objs.size) "set" := ⟨_, b1, rfl⟩
      have b3 := F.called_set.init.lookup
      have b4 := F.called_set.init.bind (.ref s.heap.objs.size)
      repeat (any_goals (first | assumption | wp_step))
      refine codeAny_mono (codeAny_call_builtin (R := wants (fun r z => r = .none ∧ ∃ g tk c, z = { s with heap := g, toks := tk } ∧ SetR w g s.heap.objs.size (fun j => decide (j ∈ ns)) c ∧ c ≤ ns.length ∧ (∀ b o, s.heap.get? b = some o → g.get? b = some o)) E)
        F.called_set.init.plain F.entry_set_init (check_set_init_1 b2 ?_)) fun r z hz => ?_
      · obtain ⟨ol, ho, hcl, nl, hdl⟩ := isL
        obtain ⟨ocls, od, odata, osl⟩ := ol
        simp only at hcl hdl
        subst hcl hdl
        have c1 : (plus w s.heap).get? l = some { cls := .type "list", dict := od, data := .seq vs nl, slots := osl } := Heap.get?_push_of_some _ ho
        have c2 := F.sub_list_set
        have c3 := F.sub_list_frozenset
        have c4 : (Value.type "list" == Value.type "dict") = false := by decide
        have c5 : (plus w s.heap).IsList l vs := ⟨_, c1, rfl, nl, rfl⟩
        unfold Builtin.«set.__init__» noKeywords Builtin.Frozenset.updateFrom
        generalize hIt : pyIter = It
        wp_walk
        subst hIt
        refine wpAny_pyIter_list c5 ?_
        refine wpAny_bind (wpAny_runValue ?_)
        have d1 : l < s.heap.objs.size := Heap.lt_size ho
        have d2 : A.in1.in1.in1.handled = none := by simp [calm]
        have d0 : (plus w s.heap).objs.size = s.heap.objs.size + 1 := Heap.size_push ..
        have d3 : l ≠ (plus w s.heap).objs.size := fun z => absurd (show l = s.heap.objs.size + 1 from z.trans d0) (Nat.ne_of_lt (Nat.lt_succ_of_lt d1))
        have d4 : s.heap.objs.size ∉ [(plus w s.heap).objs.size, l] := by
          intro z
          rcases List.mem_cons.mp z with z | z
          · exact absurd (show s.heap.objs.size = s.heap.objs.size + 1 from z.trans d0) (by omega)
          · exact absurd (show s.heap.objs.size = l from List.mem_singleton.mp z) (Nat.ne_of_gt d1)
        have d5 : ∀ (i : Nat) (v : Value), vs[i]? = some v → ∃ k t, ns[i]? = some k ∧ v = .int k t := fun i v hv => by
          have hi : i < ns.length := by rw [← sz]; exact (Array.getElem?_eq_some_iff.mp hv).1
          obtain ⟨t, e⟩ := IntsAre.int_at hin i v (by rw [Array.getElem?_toList]; exact hv)
          refine ⟨ns[i], t, List.getElem?_eq_getElem hi, ?_⟩
          rw [e, List.getD_eq_getElem?_getD, List.getElem?_eq_getElem hi]
          rfl
        refine set_update_ints ((Walks.list d2 _ l d3 vs).toS) s.heap.objs.size d4 ns sz few d5 (vs.size - 0) 0 _ (by omega) (Nat.zero_le _) ⟨⟨_, Heap.get?_push_size _ rfl, rfl, rfl⟩, (c5.push _)⟩ ?first ?last
        case first => exact ⟨0, Nat.le_refl 0, setR_new_at (Heap.get?_push_of_some _ b1)⟩
        case last =>
          intro z c mv hc hS
          obtain ⟨g, z2, z3, tk, z5⟩ := z
          obtain rfl : z2 = s.gens := mv.gens
          obtain rfl : z3 = s.drawn := mv.drawn
          obtain rfl : z5 = s.os := mv.os
          show wpAny _ _ _ _ _ _
          refine wpAny_pure ?_
          show wpAny _ _ (ret Value.none) _ _ _
          rw [sz] at hc
          refine wpAny_pure ⟨rfl, g, tk, c, rfl, hS, hc, fun b o e => ?_⟩
          have hb := Heap.lt_size e
          refine mv.heap b o (fun z => ?_) (Heap.get?_push_of_some _ (Heap.get?_push_of_some _ e))
          rcases List.mem_cons.mp z with z | z
          · exact absurd (show b = s.heap.objs.size from z) (Nat.ne_of_lt hb)
          · exact absurd (show b = s.heap.objs.size + 1 from (List.mem_singleton.mp z).trans d0) (Nat.ne_of_lt (Nat.lt_succ_of_lt hb))
      · cases r with
        | error _ => exact hz
        | ok fl2 =>
          cases fl2 with
          | ret _ =>
            obtain ⟨rfl, g, tk, c, rfl, hS, hc, hk⟩ := hz
            repeat (any_goals (first | assumption | wp_step))
            exact fin _ _ _ hS hc hk
          | _ => exact hz.elim
    | _ => exact hz.elim
end
end BSet
namespace BS
open PySem PySem.Spec PyProof.Rows L2
section
variable {X : Cx} {e : Expr} {t : Nat} {env : List Sl} {pos p pos2 p2 : Pos}
/-- set(xs), xs a list of ints -/
def rSetL (w : World) (K : PySem.W.Frag) : List V → Hp → VK → Prop := fun vs H Q => ∃ (a : Addr) (ns : List Int), vs = [V.ref a] ∧ SqL K H a (ns.map V.int) ∧ ns.length ≤ 1000 ∧ ∀ p c, c ≤ ns.length → H p = none → Q (.ref p) (upd H p (SetO w p (fun j => decide (j ∈ ns)) c))
theorem cr_setL (hc : X.calm = true) : CallR X (.type "set") (rSetL X.w X.K) := by
  intro pins s σ H vs us Q I r h
  obtain ⟨a, ns, rfl, hs, hl, q⟩ := h
  obtain ⟨its, rv, p, _⟩ := I.list hs
  rw [Vals.ref1 r]
  refine BSet.of_list ns (I.ok.hd hc) p.isList (by simpa using rv.ints) (by unfold scanBound; omega) fun g tk c hS hcl hk => ?_
  exact ⟨.ref _, upd H s.heap.objs.size (SetO X.w s.heap.objs.size (fun j => decide (j ∈ ns)) c), I.laid (t' := tk) hk (Nat.le_refl _) (setO_new hS), rfl, q _ _ hcl (I.hok.fresh (Nat.le_refl _))⟩
/-- sorted(set(xs)) -/
theorem xe_sortSet {Q : Nat → D → Prop} (hc : X.calm = true) (hm : X.mg "sorted" = none) (hm2 : X.mg "set" = none) (h : XE X e t env fun t1 d => ∃ ns : List Int, d = .lst (ns.map D.int) ∧ ns.length < 64 ∧ ∀ ms : List Int, ms.Pairwise (· < ·) → (∀ k, k ∈ ms ↔ k ∈ ns) → Q t1 (.lst (ms.map D.int)))
    (hg : Gl X "sorted" := by rfl) (hg2 : Gl X "set" := by rfl) (he : starEach [e] X.env = (false, eval e X.env) :: starEach [] X.env := by rfl) (he2 : starEach [.Call (.Name "set" p2) [e] [] pos2] X.env = (false, eval (.Call (.Name "set" p2) [e] [] pos2) X.env) :: starEach [] X.env := by rfl) :
    XE X (.Call (.Name "sorted" p) [.Call (.Name "set" p2) [e] [] pos2] [] pos) t env Q := fun J G0 H0 G H σ St => by
  refine WE.of (pe_callB (cr_sortedSet hc) hg hm (by decide +kernel) (pa_cons (pe_callTy (cr_setL hc) hg2 hm2 (by decide +kernel) (pa_cons pe_w pa_nil he) (by decide) (by decide) he (by rfl)) pa_nil he2) (by decide) (by decide) he2 (by rfl)) ?_
  refine (h J G0 H0 G H σ St).mono fun v H1 ⟨G1, t1, d, e1, S1, r1, ns, ed, hl, q⟩ => ?_
  subst ed
  obtain ⟨a, xs, rfl, z1, z2⟩ := r1
  refine ⟨a, ns, rfl, SqL.of (S1.sub _ _ (by rw [← z2.ints]; exact z1)), by omega, fun p c hcl np => ?_⟩
  refine ⟨p, _, c, rfl, upd_same, by omega, fun ms p2 hp hk hn np2 => ?_⟩
  exact alloc_e (d := .lst (ms.map D.int)) e1 (S1.loose np) np2 ⟨p2, _, rfl, upd_same, RepL.of_ints ms⟩ (q ms hp fun k => by rw [hk k, decide_eq_true_iff])
end
end BS

set_option Elab.async false
set_option linter.all false
set_option maxRecDepth 100000
set_option maxHeartbeats 4000000
/-! the walks: take, mixed, walked -/
namespace BS
open PySem PySem.Spec PyProof.Rows L2
/-- a chain of exchanges: at most k, each at some place -/
def exchF (ns : List Int) (p : Nat) : List Int := ns.set p (2 * (ns.sum - ns.getD p 0) - ns.getD p 0)
def Exch : Nat → List Int → List Int → Prop
  | 0, a, b => b = a
  | k + 1, a, b => b = a ∨ ∃ p : Nat, p < 4 ∧ Exch k (exchF a p) b
theorem Exch.refl : ∀ (k : Nat) (a : List Int), Exch k a a
  | 0, _ => rfl
  | _ + 1, _ => .inl rfl
theorem Exch.snoc : ∀ {k : Nat} {a b : List Int} {p : Nat}, Exch k a b → p < 4 → Exch (k + 1) a (exchF b p)
  | 0, a, b, p, h, hp => .inr ⟨p, hp, by rw [show b = a from h]; rfl⟩
  | k + 1, a, b, p, h, hp => by
    rcases h with h | ⟨q, hq, h⟩
    · rw [h]
      exact .inr ⟨p, hp, Exch.refl _ _⟩
    · exact .inr ⟨q, hq, Exch.snoc h hp⟩
theorem Exch.mono : ∀ {k : Nat} {a b : List Int}, Exch k a b → Exch (k + 1) a b
  | 0, a, b, h => .inl h
  | k + 1, a, b, h => by
    rcases h with h | ⟨q, hq, h⟩
    · exact .inl h
    · exact .inr ⟨q, hq, Exch.mono h⟩
theorem Exch.le {j k : Nat} {a b : List Int} (h : Exch j a b) (hj : j ≤ k) : Exch k a b := by
  induction hj with
  | refl => exact h
  | step _ ih => exact ih.mono
theorem eraseIdx_maps {α β : Type} (f : α → β) : ∀ (l : List α) (i : Nat), (l.map f).eraseIdx i = (l.eraseIdx i).map f
  | [], _ => rfl
  | _ :: _, 0 => rfl
  | a :: l, i + 1 => by
    show f a :: (l.map f).eraseIdx i = f a :: (l.eraseIdx i).map f
    rw [eraseIdx_maps f l i]
theorem erase_perm {α : Type} : ∀ {l : List α} {i : Nat} (h : i < l.length), (l[i] :: l.eraseIdx i).Perm l
  | a :: l, 0, _ => List.Perm.refl _
  | a :: l, i + 1, h => by
    show (l[i]'(Nat.lt_of_succ_lt_succ h) :: a :: l.eraseIdx i).Perm (a :: l)
    exact (List.Perm.swap _ _ _).trans ((erase_perm (Nat.lt_of_succ_lt_succ h)).cons a)
theorem exchF_len (ns : List Int) (p : Nat) : (exchF ns p).length = ns.length := by unfold exchF; rw [List.length_set]
section
variable {P : Program} {w : World} {K : PySem.W.Frag} {mg : Str → Option Value} {base : Heap}
theorem sc_law_take : FnScope ["_law_jar_here", "_law_some"] ["_law_jar_here", "_law_some"] (defScope s_law_take) := ⟨rfl, rfl, rfl, by decide +kernel, rfl, by decide +kernel, by decide +kernel⟩
def S_law_take : SpT := fun ds t Q => ∃ (x : D) (es : List D), ds = [.jar, x] ∧ Sq x es ∧ 0 < es.length ∧ es.length < 2 ^ 29 ∧ t < 100000 ∧ ∀ d ∈ es, Q (t + 1) d
theorem w_law_take (hd : HF K mg) : Fn P w K mg base 2 "_law_take" [] S_law_take := by
  refine mkF hd.d_law_take sc_law_take (fun ds t Q h => by obtain ⟨_, _, rfl, _⟩ := h; rfl) (fun _ _ _ _ _ _ us hl => match us, hl with | [_, _], _ => rfl) fun f cdv A outer s H E hr ds t Q h => ?_
  have hN := sc_law_take.nd
  obtain ⟨x, es, rfl, hx, h0, h1, ht, q⟩ := h
  refine xss_one (xs_ret (xe_ix (fun _ _ => rfl) (xv 1 rfl (xe_call (w_law_lot hd) (hr.mono (by decide)) (xa_cons (xv 0 rfl (xa_cons (xe_len hd.f_len (xv 1 rfl ⟨_, hx, xa_nil ⟨_, rfl, by omega, by omega, ht, fun r r0 r1 => ?_⟩⟩)))))))))
  have hi : r.toNat < es.length := by omega
  exact ⟨es, r, es[r.toNat], hx, rfl, r0, List.getElem?_eq_getElem hi, q _ (List.getElem_mem hi)⟩
theorem sc_law_mixed : FnScope ["_law_jar_here", "_law_some", "_law_left", "_law_found"] ["_law_jar_here", "_law_some"] (defScope s_law_mixed) := ⟨rfl, rfl, rfl, by decide +kernel, rfl, by decide +kernel, by decide +kernel⟩
def S_law_mixed : SpT := fun ds t Q => ∃ (x : D) (ns : List Int), ds = [.jar, x] ∧ Sq x (ns.map D.int) ∧ ns.length ≤ 100 ∧ t + 100 < 100000 ∧ ∀ ms : List Int, ms.Perm ns → Q (t + ns.length) (.lst (ms.map D.int))
theorem w_law_mixed (hd : HF K mg) : Fn P w K mg base 2 "_law_mixed" [] S_law_mixed := by
  refine mkF hd.d_law_mixed sc_law_mixed (fun ds t Q h => by obtain ⟨_, _, rfl, _⟩ := h; rfl) (fun _ _ _ _ _ _ us hl => match us, hl with | [_, _], _ => rfl) fun f cdv A outer s H E hr ds t Q h => ?_
  have hN := sc_law_mixed.nd
  obtain ⟨x, ns, rfl, hx, hl, ht, q⟩ := h
  refine xss_cons (xs_parL 2 3 rfl hN (xl_list hd.f_list (xv 1 rfl ⟨_, hx, xl_lst (xa_nil ⟨Nat.le_of_ble_eq_true rfl, ?_⟩)⟩)))
  refine xss_cons (xs_while PassesOwn.never (fun m t2 env => ∃ ls fs : List Int, env = [.d .jar, .d x, .own (.lst none (ls.map D.int)), .own (.lst none (fs.map D.int))] ∧ (fs ++ ls).Perm ns ∧ t2 = t + fs.length ∧ m = ls.length) _ ⟨ns, [], rfl, List.Perm.refl _, rfl, rfl⟩ ?_)
  rintro m t2 env ⟨ls, fs, rfl, pm, rfl, rfl⟩
  have hlen := pm.length_eq
  rw [List.length_append] at hlen
  have hfl : (ls.map D.int).all flatD = true := by
    rw [List.all_eq_true]
    intro d hd
    obtain ⟨n, _, rfl⟩ := List.mem_map.mp hd
    rfl
  refine xt_peek 2 rfl hfl (xt_neD hr.units (xv 2 rfl (xe_l (xl_lst (xa_nil ⟨Nat.le_of_ble_eq_true rfl, EqD.lsts (ns := ls) (ms := []) ⟨fun h => ?_, fun h => ?_⟩⟩)))))
  · have h0 : ¬ ls = [] := fun z => by rw [z] at h; cases h
    have hp : 0 < ls.length := List.length_pos_iff.mpr h0
    refine xss_one (xs_appendPop 3 2 (by decide) rfl rfl (by rw [List.length_map]; omega) (xe_call (w_law_lot hd) (hr.mono (by decide)) (xa_cons (xv 0 rfl (xa_cons (xe_peek 2 rfl hfl (xe_len hd.f_len (xv 2 rfl ⟨_, .inl rfl, rfl, xa_nil ⟨_, rfl, by rw [List.length_map]; omega, by rw [List.length_map]; omega, by omega, fun r r0 r1 => ?_⟩⟩))))))))
    rw [List.length_map] at r1
    have hi : r.toNat < ls.length := by omega
    refine ⟨r.toNat, .int ls[r.toNat], by rw [Int.toNat_of_nonneg r0], by omega, by rw [List.getElem?_map, List.getElem?_eq_getElem hi]; rfl, _, ?_, ls.eraseIdx r.toNat, fs ++ [ls[r.toNat]], ?_, ?_, ?_, rfl⟩
    · rw [List.length_eraseIdx, if_pos hi]
      omega
    · rw [List.map_append, eraseIdx_maps]
      rfl
    · rw [List.append_assoc]
      exact (List.Perm.append_left fs (erase_perm hi)).trans pm
    · rw [List.length_append, List.length_singleton]
      omega
  · have h0 : ls = [] := by
      have h1 : (!decide (ls = [])) = false := h
      cases ls with
      | nil => rfl
      | cons a r => cases h1
    subst h0
    rw [List.append_nil] at pm
    refine xss_firm (ao := none) (ds := fs.map D.int) 3 rfl ?_
    refine xss_one (xs_ret (xv 3 rfl ?_))
    rw [pm.length_eq]
    exact q fs pm
theorem sc_law_walked : FnScope ["_law_jar_here", "_law_bends", "_law_most", "_law_found", "_law_turn", "_law_place"] ["_law_jar_here", "_law_bends", "_law_most"] (defScope s_law_walked) := ⟨rfl, rfl, rfl, by decide +kernel, rfl, by decide +kernel, by decide +kernel⟩
def S_law_walked : SpT := fun ds t Q => ∃ (x : D) (ns : List Int) (k : Nat), ds = [.jar, x, .int k] ∧ Sq x (ns.map D.int) ∧ ns.length = 4 ∧ k ≤ 10 ∧ t + 200 < 100000 ∧ ∀ (t2 : Nat) (ms ms' : List Int), t2 ≤ t + 50 → Exch k ns ms' → ms.Perm ms' → Q t2 (.lst (ms.map D.int))
theorem w_law_walked (hd : HF K mg) : Fn P w K mg base 3 "_law_walked" [] S_law_walked := by
  refine mkF hd.d_law_walked sc_law_walked (fun ds t Q h => by obtain ⟨_, _, _, rfl, _⟩ := h; rfl) (fun _ _ _ _ _ _ us hl => match us, hl with | [_, _, _], _ => rfl) fun f cdv A outer s H E hr ds t Q h => ?_
  have hN := sc_law_walked.nd
  obtain ⟨x, ns, k, rfl, hx, h4, hk, ht, q⟩ := h
  refine xss_cons (xs_own 3 hN (xl_list hd.f_list (xv 1 rfl ⟨_, hx, ?_⟩)))
  refine xss_cons (xs_for PassesOwn.never rfl (xi_rg1 hd.f_range (xe_call (w_law_lot hd) (hr.mono (by decide)) (xa_cons (xv 0 rfl (xa_cons (xe_add (xv 2 rfl (xe_int (I2.mk (xa_nil ⟨_, rfl, by omega, by omega, by omega, fun r r0 r1 => ⟨r.toNat, by rw [Int.toNat_of_nonneg r0], by omega, fun i t2 env => t2 = t + 1 + i ∧ ∃ ms z z2, env = [.d .jar, .d x, .d (.int k), .own (.lst none (ms.map D.int)), z, z2] ∧ Exch i ns ms ∧ ms.length = 4, ⟨rfl, ns, _, _, rfl, rfl, h4⟩, ?_, ?_⟩⟩)))))))))))
  · rintro i d t2 env hi ⟨rfl, ms, z, z2, rfl, hE, hm⟩
    obtain ⟨hi1, rfl⟩ := rgD_at hi
    have hfl : (ms.map D.int).all flatD = true := by
      rw [List.all_eq_true]
      intro d hd
      obtain ⟨n, _, rfl⟩ := List.mem_map.mp hd
      rfl
    refine xg_name 4 hN ?_
    refine xss_cons (xs_set 5 hN (xe_call (w_law_lot hd) (hr.mono (by decide)) (xa_cons (xv 0 rfl (xa_cons (xe_int (xa_nil ⟨_, rfl, by decide, by decide, by omega, fun p p0 p1 => ?_⟩)))))))
    have hg : (ms.map D.int)[p.toNat]? = some (.int (ms.getD p.toNat 0)) := by
      rw [List.getElem?_map, List.getElem?_eq_getElem (by omega), List.getD_eq_getElem?_getD, List.getElem?_eq_getElem (by omega)]
      rfl
    refine xss_one (xs_setIx 3 rfl (xe_peek 3 rfl hfl (xe_sub (xe_mul (xe_int (xe_sub (xe_sum rfl hd.f_sum (xv 3 rfl ⟨ms, .inl rfl, xe_ix (fun _ _ => rfl) (xv 3 rfl (xv 5 rfl ⟨_, _, _, .inl rfl, rfl, p0, hg, I2.mk (I2.mk ⟨by unfold CMul; omega, xe_ix (fun _ _ => rfl) (xv 3 rfl (xv 5 rfl ⟨_, _, _, .inl rfl, rfl, p0, hg, I2.mk ⟨rfl, xv 5 rfl ⟨p.toNat, by rw [Int.toNat_of_nonneg p0], by rw [List.length_map]; omega, ?_⟩⟩⟩))⟩)⟩))⟩))))))))
    refine ⟨by omega, exchF ms p.toNat, .d (.int (0 + (i : Int))), .d (.int p), ?_, hE.snoc (by omega), by rw [exchF_len]; exact hm⟩
    rw [← List.map_set]
    rfl
  · rintro t2 env ⟨rfl, ms, z, z2, rfl, hE, hm⟩
    rw [rgD_len] at hE ⊢
    refine xss_firm (ao := none) (ds := ms.map D.int) 3 rfl ?_
    refine xss_one (xs_ret (xe_call (w_law_mixed hd) (hr.mono (by decide)) (xa_cons (xv 0 rfl (xa_cons (xv 3 rfl (xa_nil ⟨_, ms, rfl, .inl rfl, by omega, by omega, fun ls pm => ?_⟩)))))))
    exact q _ ls ms (by omega) (hE.le (by omega)) pm
end
end BS

set_option Elab.async false
set_option linter.all false
set_option maxRecDepth 100000
set_option maxHeartbeats 4000000
/-! the walks: the law's pairs -/
namespace BS
open PySem PySem.Spec PyProof.Rows L2
theorem sorted_ext : ∀ {l1 l2 : List Int}, l1.Pairwise (· < ·) → l2.Pairwise (· < ·) → (∀ k, k ∈ l1 ↔ k ∈ l2) → l1 = l2
  | [], [], _, _, _ => rfl
  | [], b :: l2, _, _, h => absurd ((h b).mpr List.mem_cons_self) (by simp)
  | a :: l1, [], _, _, h => absurd ((h a).mp List.mem_cons_self) (by simp)
  | a :: l1, b :: l2, p1, p2, h => by
    obtain ⟨q1, r1⟩ := List.pairwise_cons.mp p1
    obtain ⟨q2, r2⟩ := List.pairwise_cons.mp p2
    have ab : a = b := by
      rcases List.mem_cons.mp ((h a).mp List.mem_cons_self) with z | z
      · exact z
      · rcases List.mem_cons.mp ((h b).mpr List.mem_cons_self) with y | y
        · exact y.symm
        · have := q1 b y
          have := q2 a z
          omega
    subst ab
    rw [sorted_ext r1 r2 fun k => ?_]
    constructor
    · intro hk
      rcases List.mem_cons.mp ((h k).mp (List.mem_cons_of_mem _ hk)) with z | z
      · have := q1 k hk
        omega
      · exact z
    · intro hk
      rcases List.mem_cons.mp ((h k).mpr (List.mem_cons_of_mem _ hk)) with z | z
      · have := q2 k hk
        omega
      · exact z
/-- what is found at x -/
def secL (r bx : Int) : List Int := if r = 0 then [-bx] else [-r - bx, r - bx]
theorem secL_sorted {r bx : Int} (h : 0 ≤ r) : (secL r bx).Pairwise (· < ·) := by
  unfold secL
  split
  · simp
  · simp
    omega
theorem secL_mem {r bx k : Int} : k ∈ secL r bx ↔ k ∈ [r - bx, -r - bx] := by
  unfold secL
  split
  · rename_i h
    subst h
    simp
  · simp
    constructor <;> (intro h; omega)
def goodY (c x s : Int) : Bool := decide (V.int (s / c * c) = V.int s) && ((decide (0 < x) && decide (V.int (gcdL [x, s / c]) = V.int 1)) || decide ([x, s / c] = [0, 1]))
def secsX (a b c m x : Int) : List Int := if isq (m * c - (a * c - b * b) * x * x) * isq (m * c - (a * c - b * b) * x * x) = m * c - (a * c - b * b) * x * x then secL (isq (m * c - (a * c - b * b) * x * x)) (b * x) else []
def pairX (a b c m : Int) (x : Nat) : Nat := ((secsX a b c m (x : Int)).filter (goodY c (x : Int))).length
def pairsN (a b c m : Int) (n : Nat) : Nat := ((List.range n).map (pairX a b c m)).sum
theorem pairsN_succ (a b c m : Int) (n : Nat) : pairsN a b c m (n + 1) = pairsN a b c m n + pairX a b c m n := by
  unfold pairsN
  rw [List.range_succ, List.map_append, List.sum_append]
  simp
section
variable {P : Program} {w : World} {K : PySem.W.Frag} {mg : Str → Option Value} {base : Heap}
theorem sc_law_pairs : FnScope ["_law_numbers", "_law_worth", "_law_first", "_law_half", "_law_last", "_law_square", "_law_found", "_law_x", "_law_root_here", "_law_seconds", "_law_second", "_law_y"] ["_law_numbers", "_law_worth"] (defScope s_law_pairs) := ⟨rfl, rfl, rfl, by decide +kernel, rfl, by decide +kernel, by decide +kernel⟩
def S_law_pairs : SpT := fun ds t Q => ∃ a b c m : Int, ds = [tI3 a b c, .int m] ∧ 0 < c ∧ c < 2 ^ 28 ∧ b.natAbs < 2 ^ 28 ∧ a.natAbs < 2 ^ 28 ∧ 0 < a * c - b * b ∧ a * c - b * b < 2 ^ 30 ∧ 0 < m ∧ m < 2 ^ 12 ∧
  ∀ n : Nat, (∀ x : Nat, x < n → (x : Int) * x * (a * c - b * b) ≤ m * c) → m * c < (n : Int) * n * (a * c - b * b) → Q t (.int ((pairsN a b c m n : Nat) : Int))
theorem w_law_pairs (hd : HF K mg) : Fn P w K mg base 2 "_law_pairs" [] S_law_pairs := by
  refine mkF hd.d_law_pairs sc_law_pairs (fun ds t Q h => by obtain ⟨_, _, _, _, rfl, _⟩ := h; rfl) (fun _ _ _ _ _ _ us hl => match us, hl with | [_, _], _ => rfl) fun f cdv A outer s H E hr ds t Q h => ?_
  have hN := sc_law_pairs.nd
  obtain ⟨a, b, c, m, rfl, c0, c1, b1, a1, d0, d1, m0, m1, q⟩ := h
  have hmc : m * c ≤ 2 ^ 12 * 2 ^ 28 := Int.mul_le_mul (by omega) (by omega) (by omega) (by decide)
  have hmc0 : 0 < m * c := Int.mul_pos m0 c0
  refine xss_cons (xs_asg (xv 0 rfl (xg_tup rfl (xgs_cons (xg_name 2 hN (xgs_cons (xg_name 3 hN (xgs_cons (xg_name 4 hN (xgs_nil ?_))))))))))
  refine xss_cons (xs_par3 5 6 7 rfl hN (xe_sub (xe_mul (xv 2 rfl (xv 4 rfl (I2.mk ⟨by unfold CMul; omega, xe_mul (xv 3 rfl (xv 3 rfl (I2.mk ⟨by unfold CMul; omega, I2.mk (xe_int (xe_int ?_))⟩)))⟩))))))
  refine xss_cons (xs_while PassesOwn.never (fun k t2 env => t2 = t ∧ ∃ (x : Nat) (z z2 z3 z4 : Sl), env = [.d (tI3 a b c), .d (.int m), .d (.int a), .d (.int b), .d (.int c), .d (.int (a * c - b * b)), .d (.int ((pairsN a b c m x : Nat) : Int)), .d (.int (x : Int)), z, z2, z3, z4] ∧ (∀ y : Nat, y < x → (y : Int) * y * (a * c - b * b) ≤ m * c) ∧ (x : Int) ≤ m * c + 1 ∧ k = (m * c + 2 - (x : Int)).toNat) _ ⟨rfl, 0, _, _, _, _, rfl, fun y hy => absurd hy (by omega), by omega, rfl⟩ ?_)
  rintro k t2 env ⟨rfl, x, z, z2, z3, z4, rfl, hx, hx2, rfl⟩
  refine xt_le (xe_mul (xe_mul (xv 7 rfl (xv 7 rfl (I2.mk ⟨by unfold CMul; omega, xv 5 rfl (I2.mk ⟨by unfold CMul; omega, xe_mul (xv 1 rfl (xv 4 rfl (I2.mk ⟨by unfold CMul; omega, I2.mk ⟨fun h => ?_, fun h => ?_⟩⟩)))⟩)⟩)))))
  · have h1 := of_decide_eq_true h
    have hxx0 : 0 ≤ (x : Int) * x := Int.mul_nonneg (by omega) (by omega)
    have hxx : (x : Int) * x * 1 ≤ (x : Int) * x * (a * c - b * b) := Int.mul_le_mul_of_nonneg_left (by omega) hxx0
    have hxs : (x : Int) ≤ m * c := by
      rcases Nat.eq_zero_or_pos x with y | y
      · omega
      · have : (x : Int) * 1 ≤ (x : Int) * x := Int.mul_le_mul_of_nonneg_left (by omega) (by omega)
        omega
    have e1 : (a * c - b * b) * (x : Int) * x = (x : Int) * x * (a * c - b * b) := by grind
    have r0 : 0 ≤ m * c - (a * c - b * b) * (x : Int) * x := by omega
    have r1 : m * c - (a * c - b * b) * (x : Int) * x < 2 ^ 60 := by omega
    have hsx : secsX a b c m (x : Int) = if isq (m * c - (a * c - b * b) * (x : Int) * x) * isq (m * c - (a * c - b * b) * (x : Int) * x) = m * c - (a * c - b * b) * (x : Int) * x then secL (isq (m * c - (a * c - b * b) * (x : Int) * x)) (b * (x : Int)) else [] := rfl
    have hlast : ∀ y : Nat, y < x + 1 → (y : Int) * y * (a * c - b * b) ≤ m * c := fun y hy => by
      by_cases e : y = x
      · rw [e]; exact h1
      · exact hx y (by omega)
    refine xss_cons (xs_set 8 hN (xe_call (w_law_root hd) (hr.mono (by decide)) (xa_cons (xe_sub (xe_mul (xv 1 rfl (xv 4 rfl (I2.mk ⟨by unfold CMul; omega, xe_mul (xe_mul (xv 5 rfl (xv 7 rfl (I2.mk ⟨by unfold CMul; omega, xv 7 rfl (I2.mk ⟨by unfold CMul; omega, I2.mk (xa_nil ⟨_, rfl, r0, r1, ?_⟩)⟩)⟩))))⟩))))))))
    refine xss_cons (XS.mono (Q := fun t1 env1 => t1 = t2 ∧ ∃ z8, env1 = [.d (tI3 a b c), .d (.int m), .d (.int a), .d (.int b), .d (.int c), .d (.int (a * c - b * b)), .d (.int ((pairsN a b c m x : Nat) : Int)), .d (.int (x : Int)), z8, .d (.lst ((secsX a b c m (x : Int)).map D.int)), z3, z4]) ?_ ?_ fun _ _ _ r => r)
    · rw [hsx]
      generalize m * c - (a * c - b * b) * (x : Int) * x = g at *
      unfold rootD
      have hq0 : 0 ≤ isq g := Int.natCast_nonneg _
      by_cases hg : isq g * isq g = g
      · rw [if_pos hg, if_pos hg]
        refine xs_set 9 hN (xe_if (xt_isN (xv 8 rfl ⟨nofun, fun _ => xe_sortSet rfl hd.f_sorted hd.f_set (xe_l (xl_lst (xa_cons (xe_sub (xv 8 rfl (xe_mul (xv 3 rfl (xv 7 rfl (I2.mk ⟨by unfold CMul; omega, I2.mk (xa_cons (xe_sub (xe_neg (xv 8 rfl ⟨_, rfl, xe_mul (xv 3 rfl (xv 7 rfl (I2.mk ⟨by unfold CMul; omega, I2.mk (xa_nil ⟨Nat.le_of_ble_eq_true rfl, [isq g - b * (x : Int), -isq g - b * (x : Int)], rfl, Nat.le_of_ble_eq_true rfl, fun ms hs hk => ⟨rfl, .d (.int (isq g)), ?_⟩⟩)⟩)))⟩))))⟩)))))))))⟩)))
        rw [sorted_ext hs (secL_sorted (bx := b * (x : Int)) hq0) fun k => (hk k).trans secL_mem.symm]
        rfl
      · rw [if_neg hg, if_neg hg]
        exact xs_set 9 hN (xe_if (xt_isN (xv 8 rfl ⟨fun _ => xe_l (xl_lst (xa_nil ⟨Nat.le_of_ble_eq_true rfl, rfl, _, rfl⟩)), nofun⟩)))
    rintro t3 env3 ⟨rfl, z8, rfl⟩
    have hps := pairsN_succ a b c m x
    unfold pairX at hps
    generalize secsX a b c m (x : Int) = ms at hps ⊢
    refine xss_cons (xs_for PassesOwn.never rfl (xi_lst (xv 9 rfl ⟨_, rfl, fun i t4 env => t4 = t3 ∧ ∃ z3 z4, env = [.d (tI3 a b c), .d (.int m), .d (.int a), .d (.int b), .d (.int c), .d (.int (a * c - b * b)), .d (.int ((pairsN a b c m x + ((ms.take i).filter (goodY c (x : Int))).length : Nat) : Int)), .d (.int (x : Int)), z8, .d (.lst (ms.map D.int)), z3, z4], ⟨rfl, z3, z4, rfl⟩, ?_, ?_⟩)))
    · rintro i d t4 env hi ⟨rfl, z3, z4, rfl⟩
      obtain ⟨v, h2, _, rfl⟩ := maps_at hi
      have fin : ∀ k : Bool, goodY c (x : Int) v = k → ((pairsN a b c m x + ((ms.take (i + 1)).filter (goodY c (x : Int))).length : Nat) : Int) = ((pairsN a b c m x + ((ms.take i).filter (goodY c (x : Int))).length : Nat) : Int) + (if k = true then 1 else 0) := fun k hk => by
        rw [take_at h2, List.filter_append, List.length_append]
        cases k with
        | true => rw [List.filter_cons_of_pos (by rw [hk])] <;> rfl
        | false => rw [List.filter_cons_of_neg (by rw [hk]; exact Bool.false_ne_true)] <;> rfl
      refine xg_name 10 hN ?_
      refine xss_cons (xs_set 11 hN (xe_fdiv (xv 10 rfl (xv 4 rfl (I2.mk ⟨by unfold CDiv; omega, ?_⟩)))))
      have no : goodY c (x : Int) v = false → (t4 = t4 ∧ ∃ z3 z4, ([.d (tI3 a b c), .d (.int m), .d (.int a), .d (.int b), .d (.int c), .d (.int (a * c - b * b)), .d (.int ((pairsN a b c m x + ((ms.take i).filter (goodY c (x : Int))).length : Nat) : Int)), .d (.int (x : Int)), z8, .d (.lst (ms.map D.int)), .d (.int v), .d (.int (v / c))] : List Sl) = [.d (tI3 a b c), .d (.int m), .d (.int a), .d (.int b), .d (.int c), .d (.int (a * c - b * b)), .d (.int ((pairsN a b c m x + ((ms.take (i + 1)).filter (goodY c (x : Int))).length : Nat) : Int)), .d (.int (x : Int)), z8, .d (.lst (ms.map D.int)), z3, z4]) := fun hb => ⟨rfl, _, _, by rw [fin false hb, if_neg Bool.false_ne_true, Int.add_zero]⟩
      have yes : goodY c (x : Int) v = true → (t4 = t4 ∧ ∃ z3 z4, ([.d (tI3 a b c), .d (.int m), .d (.int a), .d (.int b), .d (.int c), .d (.int (a * c - b * b)), .d (.int (((pairsN a b c m x + ((ms.take i).filter (goodY c (x : Int))).length : Nat) : Int) + 1)), .d (.int (x : Int)), z8, .d (.lst (ms.map D.int)), .d (.int v), .d (.int (v / c))] : List Sl) = [.d (tI3 a b c), .d (.int m), .d (.int a), .d (.int b), .d (.int c), .d (.int (a * c - b * b)), .d (.int ((pairsN a b c m x + ((ms.take (i + 1)).filter (goodY c (x : Int))).length : Nat) : Int)), .d (.int (x : Int)), z8, .d (.lst (ms.map D.int)), z3, z4]) := fun hb => ⟨rfl, _, _, by rw [fin true hb, if_pos rfl]⟩
      have ty : ∀ {Q3 : Nat → Bool → Prop} {p1 p2 p3 p4 p5 p6 p7 : Pos} {k1 k2 k3 k4 : Nat}, (∀ k : Bool, (decide ([(x : Int), v / c] = [0, 1]) = k) → Q3 t4 k) → XT (CxB P w K mg base ["_law_numbers", "_law_worth", "_law_first", "_law_half", "_law_last", "_law_square", "_law_found", "_law_x", "_law_root_here", "_law_seconds", "_law_second", "_law_y"] "_law_pairs" s_law_pairs f cdv A outer s H E) (.Compare (.Tuple [.Name "_law_x" p1, .Name "_law_y" p2] k1 p3) [.Eq] [.Tuple [.Constant (.int 0) k2 p4, .Constant (.int 1) k3 p5] k4 p6] p7) t4 [.d (tI3 a b c), .d (.int m), .d (.int a), .d (.int b), .d (.int c), .d (.int (a * c - b * b)), .d (.int ((pairsN a b c m x + ((ms.take i).filter (goodY c (x : Int))).length : Nat) : Int)), .d (.int (x : Int)), z8, .d (.lst (ms.map D.int)), .d (.int v), .d (.int (v / c))] Q3 := fun hk =>
        xt_eqD hr.units (xe_tup (xa_cons (xv 7 rfl (xa_cons (xv 11 rfl (xa_nil ⟨Nat.le_of_ble_eq_true rfl, xe_tup (xa_cons (xe_int (xa_cons (xe_int (xa_nil ⟨Nat.le_of_ble_eq_true rfl, EqD.tups (ns := [(x : Int), v / c]) (ms := [0, 1]) (hk _ rfl)⟩)))))⟩))))))
      refine xss_one (xs_if (xt_w (xw_and (xt_eq (xe_mul (xv 11 rfl (xv 4 rfl (I2.mk ⟨by unfold CMul; omega, xv 10 rfl (⟨_, _, rfl, rfl, rfl, ⟨fun g1 => xw_and1 (xt_w (xw_or (xt_w (xw_and (xt_gt (xv 7 rfl (xe_int (I2.mk (⟨fun g2 => xw_and1 (xt_eq (xe_call (w_law_divisor hd) (hr.mono (by decide)) (xa_cons (xe_l (xl_lst (xa_cons (xv 7 rfl (xa_cons (xv 11 rfl (xa_nil (⟨Nat.le_of_ble_eq_true rfl, xa_nil (⟨_, [(x : Int), v / c], rfl, .inl rfl, xe_int (⟨_, _, rfl, rfl, rfl, ⟨fun g3 => ⟨fun g9 => ?_, nofun⟩, fun g3 => xw_or1 (ty fun k hk => ⟨fun g4 => ?_, fun g4 => ?_⟩)⟩⟩)⟩)⟩))))))))))), fun g2 => ⟨nofun, fun _ => xw_or1 (ty fun k hk => ⟨fun g4 => ?_, fun g4 => ?_⟩)⟩⟩))))))))), fun g1 => ⟨nofun, fun _ => ?_⟩⟩⟩)⟩))))))))
      · exact xss_one (xs_set 6 hN (xe_add (xv 6 rfl (xe_int (I2.mk (yes (by unfold goodY; rw [g1, g2, g3]; rfl)))))))
      · exact xss_one (xs_set 6 hN (xe_add (xv 6 rfl (xe_int (I2.mk (yes (by unfold goodY; rw [g1, hk, g4, Bool.or_true]; rfl)))))))
      · exact xss_nil (no (by unfold goodY; rw [g1, g3, hk, g4, Bool.and_false]; rfl))
      · exact xss_one (xs_set 6 hN (xe_add (xv 6 rfl (xe_int (I2.mk (yes (by unfold goodY; rw [g1, hk, g4, Bool.or_true]; rfl)))))))
      · exact xss_nil (no (by unfold goodY; rw [g1, g2, hk, g4]; rfl))
      · exact xss_nil (no (by unfold goodY; rw [g1, Bool.false_and]))
    · rintro t4 env ⟨rfl, z3, z4, rfl⟩
      rw [List.length_map, List.take_length]
      refine xss_one (xs_set 7 hN (xe_add (xv 7 rfl (xe_int (I2.mk ⟨_, ?_, rfl, x + 1, z8, .d (.lst (ms.map D.int)), z3, z4, ?_, hlast, by omega, rfl⟩)))))
      · omega
      · rw [hps]
        rfl
  · exact xss_one (xs_ret (xv 6 rfl (q x hx (by have := of_decide_eq_false h; omega))))
end
end BS

set_option Elab.async false
set_option linter.all false
set_option maxRecDepth 100000
set_option maxHeartbeats 4000000
/-! an __init__ that begins with super().__init__(..), its base's __init__ taking *parts -/
namespace BS
open PySem PySem.Spec PyProof.Rows L2 NdefX
/-- what is known of such an __init__ -/
structure Sup (P : Program) (K : PySem.W.Frag) (mg : Str → Option Value) (C : Addr) (q : Str) (st : Stmt) (f fP : Addr) (fd : FuncData) (cda cc : Addr) : Prop where
  ex : ∃ (oc : Value) (od : Option Addr) (kV doc pm ct : Value) (an : Option Addr) (osl : Array (Option Value)), fd = PySem.W.fnX "__init__" q (defArgs st) (defBody st) (defScope st) [("__class__", cc)] .none kV doc pm an (.ref cda) ct ∧ K.lookup f = some ⟨oc, od, .func fd, osl⟩
  cod : PySem.W.codeIn K (.ref cda) q = true
  fil : ∃ (ccl : Value) (cdd : Option Addr) (vs : Array Value) (ccs : Array (Option Value)) (file : Str) (tf : Tok), K.lookup cda = some ⟨ccl, cdd, .fields vs, ccs⟩ ∧ vs[2]? = some (.str file tf) ∧ ((P.main.file : Str) == file) = true
  cel : ∃ (cl : Value) (cld : Option Addr) (csl : Array (Option Value)), K.lookup cc = some ⟨cl, cld, .cell (some (.ref C)), csl⟩
  cls : ∃ cd, PySem.W.clsIn K C = some cd
  sub : PySem.W.mroIn K C (.ref C) = some true
  sup : mg "super" = none
  top : (P.main.scope.names.lookup ("super" : Str)).isSome = false
  op : PySem.W.nsIn K PySem.cStatics "thirdparty.any" = some none
  fp : PySem.W.ks_superIn K C C "__init__" = some (some (.ref fP))
  ty : PySem.W.typeIn K (.ref fP) = some (.type "function")
  fi : PySem.W.fnIn K fP = true
def spStar (C : Addr) (S : List D → Nat → (Nat → List Str → List D → Prop) → Prop) : Sp := fun vs H Q E => ∃ ws rest, vs = ws ++ rest ∧ ws.length = 2 ∧ rest.length ≤ sizeLine ∧ ∀ p, H p = Option.none → spI C S (ws ++ [V.ref p]) (upd H p (.tup rest)) Q E
abbrev nfS (st : Stmt) (q : Str) (cda cc : Addr) : NF := ⟨"__init__", q, defArgs st, defBody st, defScope st, [("__class__", cc)], cda⟩
abbrev CxS (P : Program) (w : World) (K : PySem.W.Frag) (mg : Str → Option Value) (base : Heap) (N : List Str) (q : Str) (st : Stmt) (f cda cc : Addr) (A : Around) (outer : List Env) (s : Shared) (H : Hp) (E : XK) : Cx := ncx CX0 P w K mg base N (nfS st q cda cc) f A outer s H E
section
variable {P : Program} {w : World} {K : PySem.W.Frag} {mg : Str → Option Value} {base : Heap} {N ps : List Str} {q : Str} {st st2 : Stmt} {C f fP cda cc : Addr} {fd : FuncData} {k : Nat} {e : Expr} {es : List Expr} {p0 p1 ap pos pos2 : Pos} {ar : Arg}
theorem one_look {a x : Str} {c d : Addr} (h : ([(a, c)] : List (Str × Addr)).lookup x = some d) : x = a ∧ d = c := by
  have h' : (match x == a with | true => some c | false => none) = some d := h
  cases e : x == a with
  | true => rw [e] at h'; exact ⟨beq_iff_eq.mp e, (Option.some.inj h').symm⟩
  | false => rw [e] at h'; cases h'
/-- the statement super().__init__(..) -/
theorem sup_step {X : Cx} {body : List Stmt} {σ : L2.St} {H : Hp} {s1 : Shared} {x dx : Addr} {sp : Sp} {Q1 : Hp → Prop} {m : Str → Option Value} (I0 : L2.Inv X [] σ H s1) (hx : H x = some (.ins C dx [])) (U : Sup X.prog X.K X.mg C q st f fP fd cda cc)
    (hks : X.env.kindOf "super" = some .globalImplicit) (hkc : X.env.kindOf "__class__" = some .free) (hfu : X.env.func = some f) (hco : X.env.code = .ref cda) (hce : X.env.cells.lookup ("__class__" : Str) = some cc)
    (hself : ((defArgs st).posonlyargs ++ (defArgs st).args).head? = some ar) (hka : X.env.kindOf ar.arg = some .local) (hns : s1.heap.Ns X.env.locals m) (hm : m ar.arg = some (.ref x)) (hi : interactive X.env = false)
    (FP : FnR X.prog X.w X.K X.mg X.base CX0 k fP sp) (hr : Room k X.A)
    (h1 : starEach (e :: es) X.env = (false, eval e X.env) :: starEach es X.env) (h2 : (backTo pos (starEach es X.env)).any (·.1) = false)
    (h3 : swapsWith (.Call (.Attribute (.Call (.Name "super" p0) [] [] p1) "__init__" ap) (e :: es) [] pos) none pos2.line X.env = pure false)
    (pl : Sem Bool) (hmc : eval (.Call (.Attribute (.Call (.Name "super" p0) [] [] p1) "__init__" ap) (e :: es) [] pos) X.env = (do
      let ov ← attributeBase (.Call (.Name "super" p0) [] [] p1) "__init__" X.env (eval (.Call (.Name "super" p0) [] [] p1) X.env)
      standAt ap.atName
      let (g, first) ← holding [ov] (getMethod ov "__init__" pl)
      callWith pos g first (backTo pos (starEach (e :: es) X.env)) []))
    (hQ : ∀ qa, H qa = none → WA X (e :: es) σ (upd H qa (.met fP x)) fun vs H1 => H1 qa = some (.met fP x) ∧ sp (.ref x :: vs) H1 (fun _ H' => Q1 H') fun _ _ _ => False) :
    _root_.PySem.wpAt (model X.prog X.w) X.A (.func body X.env) (exec (.Expr (.Call (.Attribute (.Call (.Name "super" p0) [] [] p1) "__init__" ap) (e :: es) [] pos) pos2) X.env) (fun fl s' => fl = .next ∧ ∃ H', L2.Inv X [] σ H' s' ∧ Q1 H') X.xe s1 := by
  obtain ⟨oc, od, kV, doc, pm, ct, an, osl, efd, lk⟩ := U.ex
  obtain ⟨ccl, cdd, vs, ccs, file, tf, lcd, hvs, hfile⟩ := U.fil
  obtain ⟨cl, cld, csl, hcel⟩ := U.cel
  obtain ⟨cd, hcd⟩ := U.cls
  obtain ⟨oC, lC, dC⟩ : ∃ oC, X.K.lookup C = some oC ∧ oC.data = .cls cd := by
    unfold PySem.W.clsIn at hcd
    split at hcd
    · rename_i z
      cases hcd
      exact ⟨_, z, rfl⟩
    · cases hcd
  subst efd
  refine ks_wpAt_Expr_any (ks_wpAt_mono (Q := fun _ s' => ∃ H', L2.Inv X [] σ H' s' ∧ Q1 H') (E := X.xe) ?_ (fun _ s' z => ⟨rfl, z⟩) fun _ _ z => z) hi h3
  refine ks_wpAt_MethodCall (ks_wpAt_super_base hks hkc (by decide) hfu (I0.kIn _ _ lk) rfl hself hco (I0.kIn _ _ lcd) rfl hvs hfile U.top ?_) hmc
  obtain ⟨mb, b1, b2⟩ := I0.mod.blt
  refine PySem.W.ks_loadName_global I0.ok.kind hks (Calls.loadGlobal_builtin (by rw [I0.ok.glob]; exact I0.mod.glob.keeps I0.bk) U.sup (by rw [I0.ok.blt]; exact b1.keeps I0.bk) ((b2 "super" (by decide)).trans (by decide +kernel : bootBuiltins "super" = some (.type "super"))) ⟨rfl, ?_⟩)
  refine wpAny_loadName_free I0.ok.kind hkc hce ⟨_, I0.kIn _ _ hcel, rfl⟩ ?_
  refine wpAny_loadName_local I0.ok.kind hka hns hm ?_
  obtain ⟨mA, O, rO, _, _, _⟩ := ins_get I0.hok hx
  obtain ⟨oi, J, _⟩ := O.look
  obtain ⟨hh, g, d, t, os⟩ := s1
  refine ks_wpAny_isType_cls (I0.kIn _ _ lC) dC ⟨rfl, ?_⟩
  refine ks_wpAny_call_super (I0.kIn _ _ lC) dC J.at_ J.cls (fun c e => ?_) (PySem.W.looks_mroIn I0.kIn U.sub) (fun h' e' kk => ?_)
  · have := J.no
    unfold PySem.W.notCls at this
    rw [e] at this
    exact Bool.noConfusion this
  have I1 : L2.Inv X [] σ H ⟨h', g, d, t, os⟩ := I0.kept kk
  obtain ⟨oi1, J1, _⟩ := (ins_get I1.hok hx).choose_spec.1.look
  have hfp := U.fp
  unfold PySem.W.ks_superIn at hfp
  rw [hcd] at hfp
  obtain ⟨oF, lF, cF⟩ : ∃ oF, X.K.lookup fP = some oF ∧ oF.cls = .type "function" := by
    have ht : (X.K.lookup fP).map (·.cls) = some (.type "function") := U.ty
    cases z : X.K.lookup fP with
    | none => rw [z] at ht; cases ht
    | some oF => rw [z] at ht; exact ⟨oF, rfl, Option.some.inj ht⟩
  refine ks_wpAny_getMethod_super e' (PySem.W.looks_opaque I1.kIn U.op) (l₀ := cd.mro) (fun A Q E s k q => wpAny_bind ((PySem.W.looks_clsIn I1.kIn hcd) A _ E s k (wpAny_pure q))) rfl I1.kIn hfp (I1.kIn _ _ lF) cF (PySem.W.ks_ne I1.kIn J1 hcd) (by decide) ?_
  have nq : H h'.objs.size = none := I1.hok.fresh (Nat.le_refl _)
  have I2 : L2.Inv X [] σ (upd H h'.objs.size (.met fP x)) ⟨h'.push (PySem.W.methodObj (.ref fP) (.ref x)), g, d, t + 1, os⟩ :=
    I1.laid (t' := t + 1) (a := h'.objs.size) (o := .met fP x) (fun b u z => Heap.get?_push_of_some _ z) (Nat.le_refl _) (show (h'.push (PySem.W.methodObj (.ref fP) (.ref x))).get? h'.objs.size = some (PySem.W.methodObj (.ref fP) (.ref x)) from Heap.get?_push_size h' rfl)
  show wpAny _ _ (callWith pos (.ref h'.objs.size) [] (backTo pos (starEach (e :: es) X.env)) []) _ _ _
  have ha := hQ _ nq pos [] _ I2
  rw [h1] at ha ⊢
  refine callwith_met (q := h'.objs.size) (g := fP) (a := x) (by show ((false || (backTo pos (starEach es X.env)).any (·.1)) || false) = false; rw [h2]; rfl) U.fi (Calls.evalArgs_plain ?_)
  refine thn ha fun us s4 ⟨vs4, H4, I4, r4, hm4, hsp⟩ => ⟨met_P I4 hm4, ?_⟩
  refine wpAny_call (PySem.W.method_call (met_P I4 hm4).1 (codeAny_mono (run_fnR (us := Value.ref x :: us) (vs := V.ref x :: vs4) (Q := fun _ H' => Q1 H') FP hr pass0 I4 (.cons rfl r4) hsp) fun r s' z => ?_))
  cases r with
  | error e => exact z
  | ok fl =>
    cases fl with
    | ret v =>
      obtain ⟨_, H', I', _, q'⟩ := z
      exact ⟨H', I', q'⟩
    | _ => exact z
theorem start_own {J : Option Addr} {G H : Hp} {t : Nat} {us : List V} {ds : List D} {x dx : Addr} (sb : Same G H) (jar : JarB J G H t) (r : RepL J G ds us) (hl : (D.non :: ds).length ≤ N.length) (hx : H x = some (.ins C dx [])) (gx : G x = none) (jx : J ≠ some x) :
    Stt J G (fun a => if a = x then none else H a) G H t (L2.start N (.ref x :: us)) (.own (.obj x C [] []) :: (startE N (.non :: ds)).drop 1) := by
  have S0 : Stt J G H G H t (L2.start N (.non :: us)) (startE N (.non :: ds)) := start_stt sb jar (show RepL J G (.non :: ds) (.non :: us) from ⟨.non, us, rfl, rfl, r⟩) hl
  have S1 : Stt J G (fun a => if a = x then none else H a) G H t (L2.start N (.non :: us)) (startE N (.non :: ds)) := by
    refine ⟨⟨Same.refl _, fun a o e _ => ?_, fun a o _ n => n⟩, S0.sub, S0.jar, S0.len, S0.val, fun i c e => ?_, S0.dist⟩
    · have e' : (if a = x then none else H a) = some o := e
      by_cases ha : a = x
      · rw [if_pos ha] at e'; cases e'
      · rw [if_neg ha] at e'; exact e'
    · obtain ⟨p, o, z1, z2, z3, z4, z5, z6⟩ := S0.own i c e
      rw [z5] at z2; cases z2
  exact S1.putOwn (c := .obj x C [] []) (p := x) 0 hx ⟨rfl, dx, [], rfl, rfl, rfl, by show 0 < 900; decide⟩ gx (if_pos rfl) jx fun k c hk e => by
    obtain ⟨p, o, z1, z2, z3, z4, z5, z6⟩ := S0.own k c e
    rw [z5] at z2; cases z2
theorem fn_sup {S SP : List D → Nat → (Nat → List Str → List D → Prop) → Prop} (U : Sup P K mg C q st f fP fd cda cc)
    (hbody : defBody st = [.Expr (.Call (.Attribute (.Call (.Name "super" p0) [] [] p1) "__init__" ap) (e :: es) [] pos) pos2, st2])
    (Sc : NScope N ps ["__class__"] (defScope st)) (hself : ((defArgs st).posonlyargs ++ (defArgs st).args).head? = some ar) (har : ps[0]? = some ar.arg) (hks : (defScope st).names.lookup ("super" : Str) = some .globalImplicit)
    (hl : ∀ ds t Q, S ds t Q → ds.length + 1 = ps.length) (FP : FnR P w K mg base CX0 k fP (spStar C SP))
    (hst : ∀ (A : Around) (outer : List Env) (s : Shared) (H : Hp) (E : XK), starEach (e :: es) (CxS P w K mg base N q st f cda cc A outer s H E).env = (false, eval e (CxS P w K mg base N q st f cda cc A outer s H E).env) :: starEach es (CxS P w K mg base N q st f cda cc A outer s H E).env ∧ (backTo pos (starEach es (CxS P w K mg base N q st f cda cc A outer s H E).env)).any (·.1) = false ∧
      swapsWith (.Call (.Attribute (.Call (.Name "super" p0) [] [] p1) "__init__" ap) (e :: es) [] pos) none pos2.line (CxS P w K mg base N q st f cda cc A outer s H E).env = pure false)
    (pl : Sem Bool) (hmc : ∀ (A : Around) (outer : List Env) (s : Shared) (H : Hp) (E : XK), eval (.Call (.Attribute (.Call (.Name "super" p0) [] [] p1) "__init__" ap) (e :: es) [] pos) (CxS P w K mg base N q st f cda cc A outer s H E).env = (do
      let ov ← attributeBase (.Call (.Name "super" p0) [] [] p1) "__init__" (CxS P w K mg base N q st f cda cc A outer s H E).env (eval (.Call (.Name "super" p0) [] [] p1) (CxS P w K mg base N q st f cda cc A outer s H E).env)
      standAt ap.atName
      let (g, first) ← holding [ov] (getMethod ov "__init__" pl)
      callWith pos g first (backTo pos (starEach (e :: es) (CxS P w K mg base N q st f cda cc A outer s H E).env)) []))
    (hb : ∀ (A : Around) (outer : List Env) (s : Shared) (H : Hp) (E : XK), Room k (CxS P w K mg base N q st f cda cc A outer s H E).A → ∀ (x : Addr) (ds : List D) (t : Nat) (Q' : Nat → List Str → List D → Prop), S ds t Q' →
      XA (CxS P w K mg base N q st f cda cc A outer s H E) (e :: es) t (.own (.obj x C [] []) :: (startE N (.non :: ds)).drop 1) fun t1 as => ∃ (y : Str) (parts : List D), as = .str y :: parts ∧ parts.length ≤ 1000 ∧ SP [.str y, .tup parts] t1 fun t2 ks fs => ks.length < 900 ∧
        XSs (CxS P w K mg base N q st f cda cc A outer s H E).nox [st2] t2 (.own (.obj x C ks fs) :: (startE N (.non :: ds)).drop 1) (fun t' env' => ∃ ks fs, env'[0]? = some (.own (.obj x C ks fs)) ∧ Q' t' ks fs) (fun t' env' d => d = .non ∧ ∃ ks fs, env'[0]? = some (.own (.obj x C ks fs)) ∧ Q' t' ks fs)) :
    FnOk P w K mg base CX0 (k + 1) f fd ps (spI C S) := by
  obtain ⟨oc, od, kV, doc, pm, ct, an, osl, efd, lk⟩ := U.ex
  refine ⟨fun vs H Q E h => ?_, fun A outer s H args us vs Q E hr e0 hbd r hsp => ?_⟩
  · obtain ⟨x, dx, us, J, G, t, ds, Q', h1, h2, h3, h4, h5, h6, h7, h8, _⟩ := h
    rw [h1, List.length_cons, h7.length, hl _ _ _ h8]
  obtain ⟨x, dx, us', J, G, t, ds, Q', h1, h2, h3, h4, h5, h6, h7, h8, qq⟩ := hsp
  subst h1
  have hlen : (V.ref x :: us').length = ps.length := by rw [List.length_cons, h7.length, hl _ _ _ h8]
  have hN : (D.non :: ds).length ≤ N.length := by
    have e := congrArg List.length Sc.pre
    rw [List.length_take, List.length_append] at e
    rw [List.length_cons, hl _ _ _ h8]
    omega
  have hN2 : ps.length + 1 ≤ N.length := by
    have e := congrArg List.length Sc.pre
    rw [List.length_take, List.length_append, List.length_singleton] at e
    omega
  have KX : K.In s.heap := e0.mod.kin.keeps fun b o e => (e0.bs b o e).1
  have lim : s.heap.NoLimit := e0.mod.nolimit.keeps fun b o e => (e0.bs b o e).1
  obtain ⟨cl, cld, csl, hcel⟩ := U.cel
  have Hcc : H cc = none := (e0.bs _ _ (e0.mod.kin _ _ hcel)).2
  have ce : CellsAt [("__class__", cc)] ["__class__"] [none] s.heap H := by
    refine ⟨rfl, fun y c e => ?_, fun y z c e1 e2 => ?_, fun i y hi => ?_⟩
    · obtain ⟨_, rfl⟩ := one_look e
      exact ⟨Hcc, _, _, KX _ _ hcel, rfl⟩
    · exact (one_look e1).1.trans (one_look e2).1.symm
    · cases i with
      | zero =>
        cases (show some ("__class__" : Str) = some y from hi)
        exact ⟨cc, rfl, fun v hv => by cases hv⟩
      | succ i => simp at hi
  subst efd
  obtain ⟨h1', h2', h3'⟩ := hst A outer s H E
  have hmc' := hmc A outer s H E
  have hb' := hb A outer s H E
  refine PySem.ks_codeAny_call_defAt (body := defBody st) (binds := ps.zip us) hr.depth (KX _ _ lk) rfl lim (PySem.W.codeRec_of KX U.cod) rfl hbd (fun y hy => Sc.nocell y hy) (fun ⟨n, v⟩ hy => Sc.par n (List.of_mem_zip hy).1) (fun h₀ hns kp => ?_) Sc.co Sc.gen Sc.kind
  have I0 : L2.Inv (CxS P w K mg base N q st f cda cc A outer s H E) [] (startF N (V.ref x :: us') [none]) H { s with heap := h₀, toks := s.toks + (ps.zip us).length } := inv_startN (F := nfS st q cda cc) Sc hr.hd e0 hlen r ce hns kp
  have eS : startF N (V.ref x :: us') [none] = L2.start N (V.ref x :: us') := by
    unfold startF L2.start
    rw [hlen, List.length_singleton, show N.length - ps.length = (N.length - ps.length - 1) + 1 by omega, List.replicate_succ]
    rfl
  rw [eS] at I0
  have hrX : Room k (CxS P w K mg base N q st f cda cc A outer s H E).A := hr.deeper _
  have hkc : (CxS P w K mg base N q st f cda cc A outer s H E).env.kindOf "__class__" = some .free := Sc.frk "__class__" List.mem_cons_self
  have hka : (CxS P w K mg base N q st f cda cc A outer s H E).env.kindOf ar.arg = some .local := Sc.par ar.arg (List.mem_of_getElem? har)
  have ndP : ps.Nodup := by
    have z := Sc.nd.sublist (List.take_sublist (ps.length + (["__class__"] : List Str).length) N)
    rw [Sc.pre] at z
    exact (List.nodup_append.mp z).1
  obtain ⟨u0, ur, eus, ru0, _⟩ : ∃ u0 ur, us = u0 :: ur ∧ RelV (V.ref x) u0 ∧ Vals us' ur := by
    cases r with
    | cons a b => exact ⟨_, _, rfl, a, b⟩
  have hself2 : (ps.zip us).reverse.lookup ar.arg = some (.ref x) := zip_look ndP har (by rw [eus]; show some u0 = _; rw [show u0 = Value.ref x from ru0])
  have hin : interactive (CxS P w K mg base N q st f cda cc A outer s H E).env = false := by
    have hk : (CxS P w K mg base N q st f cda cc A outer s H E).env.scope.kind = .function := Sc.kind
    unfold interactive
    rw [hk]
    rfl
  have eb : execs (defBody st) (CxS P w K mg base N q st f cda cc A outer s H E).env = execs [.Expr (.Call (.Attribute (.Call (.Name "super" p0) [] [] p1) "__init__" ap) (e :: es) [] pos) pos2, st2] (CxS P w K mg base N q st f cda cc A outer s H E).env := congrArg (fun b => execs b (CxS P w K mg base N q st f cda cc A outer s H E).env) hbody
  show _root_.PySem.wpAt (model P w) (CxS P w K mg base N q st f cda cc A outer s H E).A (.func (defBody st) (CxS P w K mg base N q st f cda cc A outer s H E).env) (execs (defBody st) (CxS P w K mg base N q st f cda cc A outer s H E).env) (fun fl s' => CR CX0 outer P w H s Q E (.ok (.ret (match fl with | .ret v => v | _ => .none))) s') (CxS P w K mg base N q st f cda cc A outer s H E).xe { s with heap := h₀, toks := s.toks + (ps.zip us).length }
  rw [eb]
  refine ks_wpAt_execs_cons (ks_wpAt_mono (sup_step (X := CxS P w K mg base N q st f cda cc A outer s H E) (Q1 := fun H' => ∃ (Hb G' : Hp) (t' : Nat) (ks : List Str) (fs : List D), (∀ a o, H a = some o → a ≠ x → Hb a = some o) ∧ Stt J G Hb G' H' t' (L2.start N (V.ref x :: us')) (.own (.obj x C ks fs) :: (startE N (.non :: ds)).drop 1) ∧
      XSs (CxS P w K mg base N q st f cda cc A outer s H E).nox [st2] t' (.own (.obj x C ks fs) :: (startE N (.non :: ds)).drop 1) (fun t' env' => ∃ ks fs, env'[0]? = some (.own (.obj x C ks fs)) ∧ Q' t' ks fs) (fun t' env' d => d = .non ∧ ∃ ks fs, env'[0]? = some (.own (.obj x C ks fs)) ∧ Q' t' ks fs))
    I0 h2 U hks hkc rfl rfl rfl hself hka hns hself2 hin FP hrX h1' h2' h3' pl hmc' fun qa nq => ?_) (fun fl s' hq => ?_) fun _ _ z => z)
  · -- the arguments, the base's __init__
    have hxq : x ≠ qa := fun z => by rw [z, nq] at h2; cases h2
    have h2q : upd H qa (.met fP x) x = some (.ins C dx []) := by rw [upd_ne hxq]; exact h2
    have S2 := start_own (N := N) (J := J) (G := G) (H := upd H qa (.met fP x)) (t := t) (us := us') (ds := ds) (h5.trans (same_new nq)) (h6.grow (same_new nq) (Same.refl _) fun j e => h6.jg e) h7 hN h2q h3 h4
    refine (hb' hrX x ds t Q' h8 J G _ G _ _ S2).mono fun vs H1 ⟨G1, t1, as, sG, S3, r3, y, parts, eas, hpl, hsp⟩ => ⟨?_, ?_⟩
    · refine S3.gr.exH qa _ ?_ fun ej => ?_
      · show (if qa = x then none else upd H qa (.met fP x) qa) = _
        rw [if_neg (Ne.symm hxq), upd_same]
      · obtain ⟨c, u, rr, cells, z, _⟩ := h6 qa ej
        rw [nq] at z; cases z
    · subst eas
      obtain ⟨vy, vr, e1, e2, r4⟩ := r3
      obtain rfl : vy = .str y := e2
      subst e1
      refine ⟨[.ref x, .str y], vr, rfl, rfl, ?_, fun p np => ?_⟩
      · rw [r4.length]
        exact Nat.le_trans hpl (by decide)
      obtain ⟨p', o, z1, z2, ⟨z3, dx', fv, z4, z5, z6, z7⟩, z8, z9, z10⟩ := S3.own 0 _ rfl
      subst z3 z4
      have efv : fv = [] := List.map_eq_nil_iff.mp z5
      subst efv
      have S4 := S3.alloc (o := .tup vr) np
      have hpx : p' ≠ p := fun z => by rw [z, np] at z2; cases z2
      refine ⟨p', dx', [.str y, .ref p], J, upd G1 p (.tup vr), t1, [.str y, .tup parts], _, rfl, ?_, ?_, h4, S4.sub, S4.jar, ⟨.str y, _, rfl, rfl, .ref p, _, rfl, ⟨p, vr, rfl, upd_same, r4.mono (same_new (S3.sub.free np))⟩, rfl⟩, hsp, fun t' ks fs hq dx2 fv G' H' g1 g2 g3 g4 jr hx hks' rf => ?_⟩
      · rw [upd_ne hpx]; exact z2
      · rw [upd_ne hpx]; exact z8
      have S5 : Stt J G (fun a => if a = p' then none else upd H qa (.met fP p') a) (upd G1 p (.tup vr)) (upd H1 p (.tup vr)) t1 (L2.start N (V.ref p' :: us')) ((Sl.own (.obj p' C [] []) :: (startE N (.non :: ds)).drop 1).set 0 .any) := S4.drop1 0 (some (.ref p'))
      have own' : ∀ (k : Nat) c, ((Sl.own (.obj p' C [] []) :: (startE N (.non :: ds)).drop 1).set 0 .any)[k]? = some (Sl.own c) → (L2.start N (V.ref p' :: us'))[k]? ≠ some (some (.ref p')) := fun k c e z => by
        cases k with
        | zero => cases (show some Sl.any = some (Sl.own c) from e)
        | succ k =>
          have e' : (Sl.own (.obj p' C [] []) :: (startE N (.non :: ds)).drop 1)[k + 1]? = some (Sl.own c) := e
          exact absurd (S4.dist 0 (k + 1) _ _ p' rfl e' rfl z) (by simp)
      have S6 : Stt J G (fun a => if a = p' then none else upd H qa (.met fP p') a) G' H' t' (L2.start N (V.ref p' :: us')) ((Sl.own (.obj p' C [] []) :: (startE N (.non :: ds)).drop 1).set 0 .any) := by
        refine ⟨⟨S5.gr.exG.trans g1, fun a o ha n => g2 a o (S5.gr.exH a o ha n) (fun z => ?_) n, fun a o ha n => ?_⟩, g4, jr, S5.len, fun i d e => ?_, fun i c e => ?_, S5.dist⟩
        · have ha' : (if a = p' then none else upd H qa (.met fP p') a) = some o := ha
          rw [if_pos z] at ha'; cases ha'
        · by_cases ej : J = some a
          · exact jr.jg ej
          · exact g3 a o (S5.gr.exH a o ha ej) (S5.gr.nof a o ha n)
        · obtain ⟨v, w1, w2⟩ := S5.val i d e
          exact ⟨v, w1, w2.mono g1⟩
        · obtain ⟨p2, o, w1, w2, w3, w4, w5, w6⟩ := S5.own i c e
          exact ⟨p2, o, w1, g2 p2 o w2 (fun z => own' i c e (by rw [w1, z])) w6, w3.mono g1, g3 p2 o w2 w4, w5, w6⟩
      have gx' : G' p' = none := g3 p' _ (by rw [upd_ne hpx]; exact z2) (by rw [upd_ne hpx]; exact z8)
      have S7 := S6.putOwn (c := .obj p' C ks fs) (p := p') 0 hx ⟨rfl, dx2, fv, rfl, hks', rf, by rw [← List.length_map (f := fun z => z.1), hks']; exact hq.1⟩ gx' (if_pos rfl) h4 fun k c hk e => own' k c e
      exact ⟨_, G', t', ks, fs, fun a o ha n => by
        show (if a = p' then none else upd H qa (.met fP p') a) = some o
        rw [if_neg n]
        exact same_new nq a o ha, S7, hq.2⟩
  · -- the rest
    obtain ⟨rfl, H9, I9, Hb, G9, t9, ks9, fs9, hHb, S9, hx9⟩ := hq
    refine wpAt_of_wpAny ?_
    have fin : ∀ {t' : Nat} {σ' : L2.St} {env' : List Sl} {G' H' : Hp} {ks : List Str} {fs : List D}, Stt J G Hb G' H' t' σ' env' → env'[0]? = some (Sl.own (.obj x C ks fs)) → Q' t' ks fs → Q .non H' := fun {t' σ' env' G' H' ks fs} S' e' q' => by
      obtain ⟨p, o, z1, z2, ⟨z3, dx', fv, z4, z5, z6, z7⟩, z8, z9, z10⟩ := S'.own 0 _ e'
      subst z3 z4
      refine qq t' ks fs q' dx' fv G' H' S'.gr.exG (fun a o e n j => S'.gr.exH a o (hHb a o e n) j) (fun a o e n => ?_) S'.sub S'.jar z2 z5 z6
      by_cases ha : a = p
      · rw [ha]; exact z8
      · exact S'.gr.nof a o (hHb a o e ha) n
    have hw : WSs (CxS P w K mg base N q st f cda cc A outer s H E).nox [st2] { nx := fun _ H' => Q .non H', rt := Q } (L2.start N (V.ref x :: us')) H9 :=
      (hx9 J G Hb G9 H9 _ S9).mono (fun σ' H' ⟨G', t', env', _, S', ks, fs, e', q'⟩ => fin S' e' q') (fun v H' ⟨G', t', σ', env', d, S', r', ed, ks, fs, e', q'⟩ => by
        subst ed
        rw [show v = .non from r']
        exact fin S' e' q') (fun _ _ z => z) fun _ _ z => z
    refine wpAny_mono ((PSs.nox pss_w).run [] s' _ H9 _ I9 hw) (fun fl s2 hs => ?_) fun _ _ z => z
    have done : ∀ {σ' : L2.St} {H' : Hp} {v : V} {u : Value}, L2.Inv (CxS P w K mg base N q st f cda cc A outer s H E) [] σ' H' s2 → RelV v u → Q v H' → CE outer P w H s Q u s2 := fun {σ' H' v u} J rv q => ⟨v, H', J.os, J.bare, J.base, J.hok, rv, q⟩
    cases fl with
    | ret u =>
      obtain ⟨v, σ', H', J, rv, q⟩ := hs
      exact done J rv q
    | next =>
      obtain ⟨σ', H', J, q⟩ := hs
      exact done (v := V.non) (u := Value.none) J rfl q
    | brk =>
      obtain ⟨_, _, _, q⟩ := hs
      exact q.elim
    | cont =>
      obtain ⟨_, _, _, q⟩ := hs
      exact q.elim
end
end BS

set_option Elab.async false
set_option linter.all false
set_option maxRecDepth 100000
set_option maxHeartbeats 4000000
/-! own fields read and stored in a body; an __init__ with *parts; bool(x) by an own __bool__ -/
namespace BS
open PySem PySem.Spec PyProof.Rows L2
section
variable {X : Cx} {e : Expr} {t k : Nat} {env : List Sl} {pos p px : Pos} {x : Str}
/-- name.f, the name's own instance -/
theorem xe_fldOwn (i j : Nat) {ia C : Addr} {f : Str} {ks : List Str} {ds : List D} {d : D} {Q : Nat → D → Prop} (he : env[i]? = some (.own (.obj ia C ks ds))) (cl : Cls X.K C) (na : NoAttr X.K C f) (hk : ks[j]? = some f) (hn : ∀ l, l < j → ks[l]? ≠ some f) (hd : ds[j]? = some d) (q : Q t d)
    (hN : X.N[i]? = some x := by rfl) (hv : Vis X.env.scope x := by first | exact Or.inl rfl | exact Or.inr (Or.inl rfl)) (hdb : (x == ("__debug__" : Str)) = false := by decide) (hcd : (x == ("__classdict__" : Str)) = false := by decide)
    (hb : attributeBase (.Name x px) f X.env (eval (.Name x px) X.env) = eval (.Name x px) X.env := by rfl) : XE X (.Attribute (.Name x px) f pos) t env Q := fun J G0 H0 G H σ S => by
  obtain ⟨q', o, z1, z2, ⟨hia, dx, fs, z3, z4, zr, z5⟩, _⟩ := S.own i _ he
  subst z3 z4
  obtain ⟨z, w1, w2⟩ := zr.get hd
  exact WE.of (pe_fld (pe_var hN hv hdb hcd) hb) ⟨.ref q', z1, q', C, dx, fs, z, rfl, z2, cl, na, lookup_at hk w1 hn, fin_e (Same.refl _) S w2 q⟩
/-- name.f = .., as a target -/
theorem xg_fld (i : Nat) {ia C : Addr} {f : Str} {ks : List Str} {ds : List D} {d : D} {Qe : List Sl → Prop} (he : env[i]? = some (.own (.obj ia C ks ds))) (cl : Cls X.K C) (na : NoAttr X.K C f) (hf : f ∉ ks) (hl : ks.length < 100) (q : Qe (env.set i (.own (.obj ia C (ks ++ [f]) (ds ++ [d])))))
    (hN : X.N[i]? = some x := by rfl) (hv : Vis X.env.scope x := by first | exact Or.inl rfl | exact Or.inr (Or.inl rfl)) (hdb : (x == ("__debug__" : Str)) = false := by decide) (hcd : (x == ("__classdict__" : Str)) = false := by decide) :
    XG X (.Attribute (.Name x px) f pos) t env d Qe := fun J G0 H0 G H σ v S r pins s u I ru => by
  obtain ⟨q', o, z1, z2, ⟨hia, dx, fs, z3, z4, zr, z5⟩, _⟩ := S.own i _ he
  subst z3 z4
  have hlen : fs.length < 100 := by rw [List.length_map] at hl; exact hl
  rw [assign_Attribute]
  refine wpAny_bind (wpAny_holding (thn ((pe_var hN hv hdb hcd).run pins s σ H (fun y H' => y = .ref q' ∧ H' = H) I ⟨.ref q', z1, rfl, rfl⟩) fun ov s2 ⟨y, H2, I2, ry, ey, eH⟩ => ?_))
  subst ey eH
  obtain rfl : ov = Value.ref q' := ry
  refine wpAny_bind (wpAny_standAt (wpAny_bind (wpAny_holding (setattr_ok I2 z2 cl na (by omega) ru fun s3 I3 => ?_))))
  refine wpAny_release ⟨σ, _, I3, G, t, _, Same.refl _, S.mut (c' := .obj ia C (fs.map (·.1) ++ [f]) (ds ++ [d])) he z1 ⟨hia, dx, putF f v fs, rfl, ?_, ?_, ?_⟩, rfl, q⟩
  · rw [putF_new hf, List.map_append]
    rfl
  · rw [putF_new hf, List.map_append]
    exact zr.append (.one r)
  · rw [putF_new hf, List.length_append]
    show fs.length + 1 < 900
    omega

/-! ### bool(x) -/
theorem truthy_own {prog : Program} {w : World} {A : Around} {E : Value → Shared → Prop} {s : Shared} {K : PySem.W.Frag} {a C f : Addr} {ox : Obj} {od : Option Obj} {Q : Bool → Shared → Prop} (XK : K.In s.heap) (I : PySem.W.InstAt s.heap a ox C od) (hf : PySem.W.findIn K (.ref C) "__bool__" = some (some (.ref f)))
    (lf : ∃ oF, K.lookup f = some oF ∧ oF.cls = .type "function") (h : wpAny (model prog w) A (call (.ref f) [.ref a]) (fun v s' => ∃ b, v = .bool b ∧ Q b s') E s) : wpAny (model prog w) A (truthy (.ref a)) Q E s := by
  obtain ⟨oF, l1, l2⟩ := lf
  unfold truthy
  refine wpAny_bind ?_
  unfold callSpecial? specialOf
  refine wpAny_bind (wpAny_bind (I.type.here ((PySem.W.looks_findIn XK hf).here ?_)))
  refine wpAny_holding ?_
  refine wpAny_bind (wpAny_bindSpecial_def (XK _ _ l1) l2 ?_)
  refine wpAny_bind (wpAny_mono h (fun v s' ⟨b, e, q⟩ => ?_) fun _ _ z => z)
  subst e
  exact wpAny_pure (wpAny_pure q)
theorem call_bool_own {prog : Program} {w : World} {A : Around} {E : Value → Shared → Prop} {s : Shared} {K : PySem.W.Frag} {a C f : Addr} {ox : Obj} {od : Option Obj} {Q : Value → Shared → Prop} (XK : K.In s.heap) (I : PySem.W.InstAt s.heap a ox C od) (hf : PySem.W.findIn K (.ref C) "__bool__" = some (some (.ref f)))
    (lf : ∃ oF, K.lookup f = some oF ∧ oF.cls = .type "function") (h : codeAny (model prog w) A.in1.in1 (.call (.ref f) ⟨[.ref a], []⟩) (fun r s' => match r with | .ok (.ret v) => ∃ b, v = .bool b ∧ Q v s' | .ok _ => False | .error e => E e s') s) : wpAny (model prog w) A (call (.type "bool") [.ref a]) Q E s := by
  refine callType_newIn (S := fun A' R s' => s' = s ∧ codeAny (model prog w) A'.in1 (.call (.ref f) ⟨[.ref a], []⟩) (fun r s' => match r with | .ok (.ret v) => ∃ b, v = .bool b ∧ R (.ok (.ret v)) s' | .ok _ => False | .error e => R (.error e) s') s) F.called_bool F.newNe_bool (F.typeCall_bool_1 _) (F.newCall_bool_1 _) (fun obj => F.args_object_init_2 obj _) F.entry_bool_new (MeetsIn.of_wp fun A' R s' hs => ?_) ⟨rfl, ?_⟩
  · obtain ⟨es, hc⟩ := hs
    subst es
    have f1 := F.conv_sub_bool
    obtain ⟨hp, g, d, tk, os⟩ := s'
    unfold Builtin.«bool.__new__»
    repeat (any_goals (first | assumption | (with_reducible refine truthy_own XK I hf lf ?_) | wp_step))
    refine codeAny_mono hc fun r s' z => ?_
    cases r with
    | error e => exact z
    | ok fl =>
      cases fl with
      | ret v =>
        obtain ⟨b, e, q⟩ := z
        subst e
        exact ⟨b, rfl, wpAny_pure ⟨_, rfl, q⟩⟩
      | _ => exact z
  · refine codeAny_mono h fun r s' z => ?_
    cases r with
    | error e => exact z
    | ok fl =>
      cases fl with
      | ret v =>
        obtain ⟨b, e, q⟩ := z
        subst e
        exact ⟨b, rfl, rfl, q⟩
      | _ => exact z
/-- the class at C has an own __bool__ that answers b -/
def BoolF (X : Cx) (k : Nat) (C : Addr) (b : Bool) : Prop := ∃ g, PySem.W.findIn X.K (.ref C) "__bool__" = some (some (.ref g)) ∧ (∃ oF, X.K.lookup g = some oF ∧ oF.cls = .type "function") ∧ FnR X.prog X.w X.K X.mg X.base CX0 k g (spD fun ds t Q => ∃ ks fs, ds = [.ins C ks fs] ∧ Q t (.bl b))
def rBoolO (X : Cx) (k : Nat) : List V → Hp → VK → Prop := fun vs H Q => ∃ (a C dx : Addr) (fs : List (Str × V)) (b : Bool), vs = [V.ref a] ∧ H a = some (.ins C dx fs) ∧ BoolF X k C b ∧ spD (fun ds t Q => ∃ ks fs, ds = [.ins C ks fs] ∧ Q t (.bl b)) vs H (fun v H' => v = .bl b ∧ Q v H') fun _ _ _ => False
theorem cr_boolO (hr : Room (k + 2) X.A) : CallR X (.type "bool") (rBoolO X k) := by
  intro pins s σ H vs us Q I r h
  obtain ⟨a, C, dx, fs, b, rfl, ha, ⟨g, hf, lf, F⟩, hs⟩ := h
  rw [Vals.ref1 r]
  obtain ⟨mA, O, _, _, _, _⟩ := ins_get I.hok ha
  obtain ⟨od, J, _⟩ := O.look
  have hr2 : Room k X.A.in1.in1 := (show Room (k + 1) X.A.in1 from hr.in1).in1
  refine call_bool_own I.kIn J hf lf (codeAny_mono (F _ X.stack s H [Value.ref a] [V.ref a] (fun v H' => v = .bl b ∧ Q v H') (fun _ _ _ => False) hr2 I.env0.in1.in1 (.cons rfl .nil) hs) fun r s' z => ?_)
  cases r with
  | error e => exact False.elim z
  | ok fl =>
    cases fl with
    | ret u =>
      obtain ⟨v, H', I', rv, ev, q⟩ := I.after z
      subst ev
      exact ⟨b, rv, .bl b, H', I', rv, q⟩
    | _ => exact False.elim z
theorem xe_boolOwn {Q : Nat → D → Prop} (hr : Room (k + 2) X.A) (hm : X.mg "bool" = none) (h : XE X e t env fun t1 d => ∃ C ks fs b, d = .ins C ks fs ∧ BoolF X k C b ∧ Q t1 (.bl b)) (hg : Gl X "bool" := by rfl) (he : starEach [e] X.env = (false, eval e X.env) :: starEach [] X.env := by rfl) :
    XE X (.Call (.Name "bool" p) [e] [] pos) t env Q :=
  xe_bty (cr_boolO hr) hm (xa_1 (h.mono fun t1 d ⟨C, ks, fs, b, ed, hb, q⟩ J G0 H0 Gb G H σ vs s S r => by
    subst ed
    obtain ⟨v, rfl, r1⟩ := rep1 r
    obtain ⟨a, dx, fv, rfl, z1, z2, z3⟩ := r1
    refine ⟨a, C, dx, fv, b, rfl, S.sub _ _ z1, hb, J, G, t1, [.ins C ks fs], fun t' d' => t' = t1 ∧ d' = .bl b, S.sub, S.jar, .one ⟨a, dx, fv, rfl, z1, z2, z3⟩, ⟨ks, fs, rfl, rfl, rfl⟩, fun t' d' ⟨e1, e2⟩ v G' H' g sb jr rv => ?_⟩
    subst e1 e2
    exact ⟨rv, G', t', .bl b, s.trans g.exG, S.gr' g sb jr, rv, q⟩) he) (by decide +kernel) hg (he := he)
end
section
variable {P : Program} {w : World} {K : PySem.W.Frag} {mg : Str → Option Value} {base : Heap} {qual : Str} {st : Stmt} {f : Addr} {N : List Str} {k : Nat}
/-- an __init__'s body by its walk -/
theorem init_body {C : Addr} {S : List D → Nat → (Nat → List Str → List D → Prop) → Prop} {cdv : Value} {A : Around} {outer : List Env} {s : Shared} {H : Hp} {vs : List V} {Q : VK} {E : XK} {n : Nat} (hl : ∀ ds t Q, S ds t Q → ds.length + 1 = n) (hn : n ≤ N.length)
    (hb : ∀ (x : Addr) (ds : List D) (t : Nat) (Q' : Nat → List Str → List D → Prop), S ds t Q' →
      XSs (CxB P w K mg base N qual st f cdv A outer s H E) (defBody st) t (.own (.obj x C [] []) :: (startE N (.non :: ds)).drop 1) (fun t' env' => ∃ ks fs, env'[0]? = some (.own (.obj x C ks fs)) ∧ Q' t' ks fs) (fun t' env' d => d = .non ∧ ∃ ks fs, env'[0]? = some (.own (.obj x C ks fs)) ∧ Q' t' ks fs)) (h : spI C S vs H Q E) :
    ∃ t, PSs (cxOf CX0 P w K mg base N qual (defScope st) f cdv A outer s H E) (defBody st) t ∧ t { nx := fun _ H' => Q .non H', rt := Q } (L2.start N vs) H := by
  obtain ⟨x, dx, us, J, G, t, ds, Q', h1, h2, h3, h4, h5, h6, h7, h8, q⟩ := h
  subst h1
  have hN : (D.non :: ds).length ≤ N.length := by
    rw [List.length_cons, hl _ _ _ h8]
    exact hn
  have S2 := start_own (N := N) h5 h6 h7 hN h2 h3 h4
  have fin : ∀ {t' : Nat} {σ' : L2.St} {env' : List Sl} {G' H' : Hp} {ks : List Str} {fs : List D}, Stt J G (fun a => if a = x then none else H a) G' H' t' σ' env' → env'[0]? = some (Sl.own (.obj x C ks fs)) → Q' t' ks fs → Q .non H' := fun {t' σ' env' G' H' ks fs} S' e' q' => by
    obtain ⟨p, o, z1, z2, ⟨z3, dx', fv, z4, z5, z6, z7⟩, z8, z9, z10⟩ := S'.own 0 _ e'
    subst z3 z4
    refine q t' ks fs q' dx' fv G' H' S'.gr.exG (fun a o e n j => S'.gr.exH a o (by show (if a = p then none else H a) = some o; rw [if_neg n]; exact e) j) (fun a o e n => ?_) S'.sub S'.jar z2 z5 z6
    by_cases ha : a = p
    · rw [ha]; exact z8
    · exact S'.gr.nof a o (by show (if a = p then none else H a) = some o; rw [if_neg ha]; exact e) n
  refine ⟨WSs (CxB P w K mg base N qual st f cdv A outer s H E) (defBody st), PSs.nox pss_w, ?_⟩
  refine (hb x ds t Q' h8 J G _ G H _ S2).mono (fun σ' H' ⟨G', t', env', _, S', ks, fs, e', q'⟩ => fin S' e' q') (fun v H' ⟨G', t', σ', env', d, S', r', ed, ks, fs, e', q'⟩ => ?_) (fun _ _ z => z) fun _ _ z => z
  subst ed
  rw [show v = .non from r']
  exact fin S' e' q'
/-- def __init__(self, a, *v) -/
theorem star_init {C : Addr} {S : List D → Nat → (Nat → List Str → List D → Prop) → Prop} {fd : FuncData} {p1 p2 pv : Str} (F : FunD K "__init__" qual (defArgs st) (defBody st) (defScope st) [] [] f fd) (Sc : FnScope N ([p1, p2] ++ [pv]) (defScope st)) (hl : ∀ ds t Q, S ds t Q → ds.length + 1 = 3)
    (hbn : ∀ (kV doc pm : Value) (an : Option Addr) (cdv ct : Value) (us rest : List Value), us.length = 2 → bindArgs (PySem.W.fnOf "__init__" qual (defArgs st) (defBody st) (defScope st) .none kV doc pm an cdv ct) ⟨us ++ rest, []⟩ = (newTuple rest >>= fun t => pure (([p1, p2] : List Str).zip us ++ [(pv, t)])))
    (hb : ∀ (cdv : Value) (A : Around) (outer : List Env) (s : Shared) (H : Hp) (E : XK), Room k (CxB P w K mg base N qual st f cdv A outer s H E).A → ∀ (x : Addr) (ds : List D) (t : Nat) (Q' : Nat → List Str → List D → Prop), S ds t Q' →
      XSs (CxB P w K mg base N qual st f cdv A outer s H E) (defBody st) t (.own (.obj x C [] []) :: (startE N (.non :: ds)).drop 1) (fun t' env' => ∃ ks fs, env'[0]? = some (.own (.obj x C ks fs)) ∧ Q' t' ks fs) (fun t' env' d => d = .non ∧ ∃ ks fs, env'[0]? = some (.own (.obj x C ks fs)) ∧ Q' t' ks fs)) :
    FnR P w K mg base CX0 (k + 1) f (spStar C S) := by
  obtain ⟨oc, od, dV, kV, doc, pm, an, cdv, ct, osl, rfl, lk, hcd, hD, _⟩ := F.ex
  obtain rfl : dV = .none := by
    rcases hD with ⟨_, e⟩ | ⟨e, _⟩
    · exact e
    · exact absurd rfl e
  have hn : 3 ≤ N.length := by
    have e := congrArg List.length Sc.pre
    rw [List.length_take] at e
    have e2 : ([p1, p2] ++ [pv] : List Str).length = 3 := rfl
    omega
  exact StX.fn_star (ps := [p1, p2]) (pv := pv) lk hcd Sc (StX.cxUp_none) (fun us rest h => hbn _ _ _ _ _ _ us rest h) fun A outer s H vs Q E hr h => init_body hl hn (fun x ds t Q' hS => hb cdv A outer s H E hr x ds t Q' hS) h
end
end BS

set_option Elab.async false
set_option linter.all false
set_option maxRecDepth 100000
set_option maxHeartbeats 4000000
/-! the walks: papers, touches -/
namespace BS
open PySem PySem.Spec PyProof.Rows L2 NdefX
abbrev prog0 : Program := (PySem.Challenge.rw_bendsigns_k21_whole_bends_that_touch_a_r).prog
/-- what more the head tells: the papers' classes -/
structure HS (K : PySem.W.Frag) (mg : Str → Option Value) : Prop where
  kForm : PySem.W.kitAny K (.ref (He.ga K "Form")) [.type "list", .type "tuple"] = some false
  sT : ∃ f fd cda cc, Sup prog0 K mg (He.ga K "Touching") "Touching.__init__" s_Touching_init f (He.ma K (He.ga K "Paper") "__init__") fd cda cc ∧ Mk K (He.ga K "Touching") f
  sU : ∃ f fd cda cc, Sup prog0 K mg (He.ga K "Untouched") "Untouched.__init__" s_Untouched_init f (He.ma K (He.ga K "Paper") "__init__") fd cda cc ∧ Mk K (He.ga K "Untouched") f
  bT : PySem.W.findIn K (.ref (He.ga K "Touching")) "__bool__" = some (some (.ref (He.ma K (He.ga K "Paper") "__bool__")))
  bU : PySem.W.findIn K (.ref (He.ga K "Untouched")) "__bool__" = some (some (.ref (He.ma K (He.ga K "Denial") "__bool__")))
  tP : ∃ oF, K.lookup (He.ma K (He.ga K "Paper") "__bool__") = some oF ∧ oF.cls = .type "function"
  tD : ∃ oF, K.lookup (He.ma K (He.ga K "Denial") "__bool__") = some oF ∧ oF.cls = .type "function"
/-- what fixed leaves as it is, to a depth -/
def FixOk (K : PySem.W.Frag) : Nat → D → Prop
  | 0, _ => False
  | n + 1, d => (∃ i, d = .int i) ∨ (∃ a b c m, d = formD K a b c m) ∨ ∃ ds, d = .tup ds ∧ ds.length ≤ 5000 ∧ ∀ e ∈ ds, FixOk K n e
section
variable {P : Program} {w : World} {K : PySem.W.Frag} {mg : Str → Option Value} {base : Heap}
theorem sc_fixed : FnScope ["value", "part"] ["value"] (defScope s_fixed) := ⟨rfl, rfl, rfl, by decide +kernel, rfl, by decide +kernel, by decide +kernel⟩
def S_fixed (K : PySem.W.Frag) (n : Nat) : SpT := fun ds t Q => ∃ d : D, ds = [d] ∧ FixOk K n d ∧ Q t d
theorem w_fixed (hd : HF K mg) (hs : HS K mg) : ∀ n : Nat, Fn P w K mg base (n + 1) "fixed" [] (S_fixed K n)
  | 0 => by
    refine mkF hd.d_fixed sc_fixed (fun ds t Q h => by obtain ⟨_, rfl, _⟩ := h; rfl) (fun _ _ _ _ _ _ us hl => match us, hl with | [_], _ => rfl) fun f cdv A outer s H E hr ds t Q h => ?_
    obtain ⟨d, _, hf, _⟩ := h
    exact hf.elim
  | n + 1 => by
    refine mkF hd.d_fixed sc_fixed (fun ds t Q h => by obtain ⟨_, rfl, _⟩ := h; rfl) (fun _ _ _ _ _ _ us hl => match us, hl with | [_], _ => rfl) fun f cdv A outer s H E hr ds t Q h => ?_
    have hN := sc_fixed.nd
    obtain ⟨d, rfl, hf, q⟩ := h
    have IH := w_fixed hd hs n
    rcases hf with ⟨i, rfl⟩ | ⟨a, b, c, m, rfl⟩ | ⟨es, rfl, hl, hes⟩
    · refine xss_cons (xs_if (xt_val (xe_isiLT hd.f_isinstance hd.f_list hd.f_tuple (xv 0 rfl ⟨false, isLT_int, false, rfl, nofun, fun _ => ?_⟩))))
      exact xss_nil (xss_one (xs_ret (xv 0 rfl q)))
    · refine xss_cons (xs_if (xt_val (xe_isiLT hd.f_isinstance hd.f_list hd.f_tuple (xv 0 rfl ⟨false, .inr ⟨_, _, _, rfl, own_Form hd, hs.kForm⟩, false, rfl, nofun, fun _ => ?_⟩))))
      exact xss_nil (xss_one (xs_ret (xv 0 rfl q)))
    · refine xss_cons (xs_if (xt_val (xe_isiLT hd.f_isinstance hd.f_list hd.f_tuple (xv 0 rfl ⟨true, isLT_tup, true, rfl, fun _ => ?_, nofun⟩))))
      refine xss_one (xs_ret (xe_tuple hd.f_tuple (xe_lcM (hb := rfl) (hg := fun _ _ _ _ _ => pg_name hN rfl (Or.inl rfl)) es id id 1 rfl hN (xi_tup (xv 0 rfl ⟨es, rfl, by rw [List.map_id], by omega, ⟨es, .inl (by rw [List.map_id]), q⟩, fun e he s H C cl fp => ?_⟩)))))
      exact xe_call IH (hr.mono (Nat.le_refl _)) (xa_cons (xv 1 rfl (xa_nil ⟨e, rfl, hes e he, rfl, rfl⟩)))
theorem sc_Paper_init : FnScope ["self", "word", "parts"] ["self", "word", "parts"] (defScope s_Paper_init) := ⟨rfl, rfl, rfl, by decide +kernel, rfl, by decide +kernel, by decide +kernel⟩
def S_Paper (K : PySem.W.Frag) : List D → Nat → (Nat → List Str → List D → Prop) → Prop := fun ds t Q => ∃ (y : Str) (parts : List D), ds = [.str y, .tup parts] ∧ FixOk K 4 (.tup parts) ∧ Q t ["word", "parts"] [.str y, .tup parts]
theorem w_Paper_init (hd : HF K mg) (hs : HS K mg) {C : Addr} (cl : Cls K C) (n1 : NoAttr K C "word") (n2 : NoAttr K C "parts") : FnR P w K mg base CX0 6 (He.ma K (He.ga K "Paper") "__init__") (spStar C (S_Paper K)) := by
  obtain ⟨f, fd, F, M, _⟩ := hd.d_Paper_init
  have ef : He.ma K (He.ga K "Paper") "__init__" = f := by
    unfold He.ma
    rw [M.init]
  rw [ef]
  refine star_init (p1 := "self") (p2 := "word") (pv := "parts") F sc_Paper_init (fun ds t Q h => by obtain ⟨_, _, rfl, _⟩ := h; rfl) (fun _ _ _ _ _ _ us rest hl => match us, rest, hl with | [_, _], [], _ => rfl | [_, _], _ :: _, _ => rfl) fun cdv A outer s H E hr x ds t Q h => ?_
  have hN := sc_Paper_init.nd
  obtain ⟨y, parts, rfl, hf, q⟩ := h
  refine xss_cons (xs_fld (ao := none) 0 rfl cl n1 (by decide) (by decide) (xv 1 rfl ?_))
  refine xss_one (xs_fld (ao := none) 0 rfl cl n2 (by decide) (by decide) (xe_call (w_fixed hd hs 4) (hr.mono (by decide)) (xa_cons (xv 2 rfl (xa_nil ⟨_, rfl, hf, _, _, rfl, q⟩)))))
theorem bool_paper (hd : HF K mg) : FnR P w K mg base CX0 1 (He.ma K (He.ga K "Paper") "__bool__") (spD fun ds t Q => ∃ (C : Addr) (ks : List Str) (fs : List D), ds = [.ins C ks fs] ∧ Q t (.bl true)) := by
  obtain ⟨f, fd, F, ef⟩ := hd.d_Paper_bool
  have sc : FnScope ["self"] ["self"] (defScope s_Paper_bool) := ⟨rfl, rfl, rfl, by decide +kernel, rfl, by decide +kernel, by decide +kernel⟩
  have O : FnOk P w K mg base CX0 1 f fd ["self"] (spD fun ds t Q => ∃ (C : Addr) (ks : List Str) (fs : List D), ds = [.ins C ks fs] ∧ Q t (.bl true)) :=
    mk_fn F sc (fun ds t Q h => by obtain ⟨_, _, _, rfl, _⟩ := h; rfl) fun cdv A outer s H E hr ds t Q h => by
      obtain ⟨C, ks, fs, rfl, q⟩ := h
      exact xss_one (xs_ret (xe_bl q))
  rw [← ef]
  exact (O.raw (F.bindsN fun _ _ _ _ _ _ us hl => match us, hl with | [_], _ => rfl) .nil).imp fun vs H Q E h => by rw [List.append_nil]; exact h
theorem bool_denial (hd : HF K mg) : FnR P w K mg base CX0 1 (He.ma K (He.ga K "Denial") "__bool__") (spD fun ds t Q => ∃ (C : Addr) (ks : List Str) (fs : List D), ds = [.ins C ks fs] ∧ Q t (.bl false)) := by
  obtain ⟨f, fd, F, ef⟩ := hd.d_Denial_bool
  have sc : FnScope ["self"] ["self"] (defScope s_Denial_bool) := ⟨rfl, rfl, rfl, by decide +kernel, rfl, by decide +kernel, by decide +kernel⟩
  have O : FnOk P w K mg base CX0 1 f fd ["self"] (spD fun ds t Q => ∃ (C : Addr) (ks : List Str) (fs : List D), ds = [.ins C ks fs] ∧ Q t (.bl false)) :=
    mk_fn F sc (fun ds t Q h => by obtain ⟨_, _, _, rfl, _⟩ := h; rfl) fun cdv A outer s H E hr ds t Q h => by
      obtain ⟨C, ks, fs, rfl, q⟩ := h
      exact xss_one (xs_ret (xe_bl q))
  rw [← ef]
  exact (O.raw (F.bindsN fun _ _ _ _ _ _ us hl => match us, hl with | [_], _ => rfl) .nil).imp fun vs H Q E h => by rw [List.append_nil]; exact h
theorem spD_imp {S S' : SpT} (h : ∀ ds t Q, S ds t Q → S' ds t Q) {vs : List V} {H : Hp} {Q : VK} {E : XK} (z : spD S vs H Q E) : spD S' vs H Q E := by
  obtain ⟨J, G, t, ds, Q', h1, h2, h3, h4, h5⟩ := z
  exact ⟨J, G, t, ds, Q', h1, h2, h3, h _ _ _ h4, h5⟩
theorem boolF_T {X : Cx} (hd : HF X.K X.mg) (hs : HS X.K X.mg) : BoolF X 1 (He.ga X.K "Touching") true := ⟨_, hs.bT, hs.tP, (bool_paper hd).imp fun vs H Q E h => spD_imp (fun ds t Q ⟨ks, fs, e, q⟩ => ⟨_, ks, fs, e, q⟩) h⟩
theorem boolF_U {X : Cx} (hd : HF X.K X.mg) (hs : HS X.K X.mg) : BoolF X 1 (He.ga X.K "Untouched") false := ⟨_, hs.bU, hs.tD, (bool_denial hd).imp fun vs H Q E h => spD_imp (fun ds t Q ⟨ks, fs, e, q⟩ => ⟨_, ks, fs, e, q⟩) h⟩
end
section
variable {w : World} {K : PySem.W.Frag} {mg : Str → Option Value} {base : Heap}
theorem sc_Touching_init : NScope ["self", "x", "y", "__class__"] ["self", "x", "y"] ["__class__"] (defScope s_Touching_init) := nscope_by (by decide +kernel)
def S_Touching : List D → Nat → (Nat → List Str → List D → Prop) → Prop := fun ds t Q => ∃ x y : Int, ds = [.int x, .int y] ∧ ∀ ks fs, Q t ks fs
theorem w_Touching_init (hd : HF K mg) (hs : HS K mg) : Cl prog0 w K mg base 7 "Touching" (He.ga K "Touching") S_Touching := by
  obtain ⟨f, fd, cda, cc, U, M⟩ := hs.sT
  refine ⟨f, fd, ["self", "x", "y"], fn_sup (N := ["self", "x", "y", "__class__"]) (SP := S_Paper K) U rfl sc_Touching_init rfl rfl rfl (fun ds t Q h => by obtain ⟨_, _, rfl, _⟩ := h; rfl) (w_Paper_init hd hs hd.c_Touching hd.n_Touching_word hd.n_Touching_parts) (fun _ _ _ _ _ => ⟨rfl, rfl, rfl⟩) _ (fun _ _ _ _ _ => rfl) (fun A outer s H E hr x ds t Q h => ?_), M, hd.m_Touching, ?_⟩
  · obtain ⟨a, b, rfl, q⟩ := h
    refine xa_cons (xe_str (xa_cons (xv 1 rfl (xa_cons (xv 2 rfl (xa_nil ⟨_, [.int a, .int b], rfl, Nat.le_of_ble_eq_true rfl, _, _, rfl, .inr (.inr ⟨_, rfl, Nat.le_of_ble_eq_true rfl, ?_⟩), by decide, ?_⟩))))))
    · intro e he
      rcases List.mem_cons.mp he with rfl | he
      · exact .inl ⟨_, rfl⟩
      · exact .inl ⟨_, List.mem_singleton.mp he⟩
    · refine xss_one (xs_asg (xe_fldOwn 0 1 rfl hd.c_Touching hd.n_Touching_parts rfl (by decide) rfl (xg_tup rfl (xgs_cons (xg_fld 0 rfl hd.c_Touching hd.n_Touching_x (by decide) (by decide) (xgs_cons (xg_fld 0 rfl hd.c_Touching hd.n_Touching_y (by decide) (by decide) (xgs_nil ⟨_, _, rfl, q _ _⟩))))))))
  · obtain ⟨oc, od, kV, doc, pm, ct, an, osl, efd, lk⟩ := U.ex
    subst efd
    exact .all fun us hl => match us, hl with | [_, _, _], _ => rfl
theorem sc_Untouched_init : NScope ["self", "forms", "__class__"] ["self", "forms"] ["__class__"] (defScope s_Untouched_init) := nscope_by (by decide +kernel)
def S_Untouched (K : PySem.W.Frag) : List D → Nat → (Nat → List Str → List D → Prop) → Prop := fun ds t Q => ∃ d : D, ds = [d] ∧ FixOk K 3 d ∧ ∀ ks fs, Q t ks fs
theorem w_Untouched_init (hd : HF K mg) (hs : HS K mg) : Cl prog0 w K mg base 7 "Untouched" (He.ga K "Untouched") (S_Untouched K) := by
  obtain ⟨f, fd, cda, cc, U, M⟩ := hs.sU
  refine ⟨f, fd, ["self", "forms"], fn_sup (N := ["self", "forms", "__class__"]) (SP := S_Paper K) U rfl sc_Untouched_init rfl rfl rfl (fun ds t Q h => by obtain ⟨_, rfl, _⟩ := h; rfl) (w_Paper_init hd hs hd.c_Untouched hd.n_Untouched_word hd.n_Untouched_parts) (fun _ _ _ _ _ => ⟨rfl, rfl, rfl⟩) _ (fun _ _ _ _ _ => rfl) (fun A outer s H E hr x ds t Q h => ?_), M, hd.m_Untouched, ?_⟩
  · obtain ⟨d, rfl, hf, q⟩ := h
    refine xa_cons (xe_str (xa_cons (xv 1 rfl (xa_nil ⟨_, [d], rfl, Nat.le_of_ble_eq_true rfl, _, _, rfl, .inr (.inr ⟨_, rfl, Nat.le_of_ble_eq_true rfl, ?_⟩), by decide, ?_⟩))))
    · intro e he
      rw [List.mem_singleton.mp he]
      exact hf
    · refine xss_one (xs_fld (ao := none) 0 rfl hd.c_Untouched hd.n_Untouched_forms (by decide) (by decide) (xe_ix (fun _ _ => rfl) (xe_fldOwn 0 1 rfl hd.c_Untouched hd.n_Untouched_parts rfl (by decide) rfl (xe_int ⟨_, _, _, .inr rfl, rfl, by decide, rfl, _, _, rfl, q _ _⟩))))
  · obtain ⟨oc, od, kV, doc, pm, ct, an, osl, efd, lk⟩ := U.ex
    subst efd
    exact .all fun us hl => match us, hl with | [_, _], _ => rfl
end
end BS

set_option Elab.async false
set_option linter.all false
set_option maxRecDepth 100000
set_option maxHeartbeats 4000000
/-! the walks: touches -/
namespace BS
open PySem PySem.Spec PyProof.Rows L2
/-- the told pairs of a worth -/
def hitsL (a b c p q r s m : Int) : List (Int × Int × Int) := (spotsL a b c p q r s m).filter fun z => decide (V.int z.1 = V.int m)
section
variable {w : World} {K : PySem.W.Frag} {mg : Str → Option Value} {base : Heap}
theorem sc_touches : FnScope ["four", "place", "number", "here", "asked", "pairs", "x", "y", "worth"] ["four", "place", "number"] (defScope s_touches) := ⟨rfl, rfl, rfl, by decide +kernel, rfl, by decide +kernel, by decide +kernel⟩
def S_touches (K : PySem.W.Frag) : SpT := fun ds t Q => ∃ (a b c d p m : Int), ds = [fourD K [a, b, c, d], .int p, .int m] ∧ PlaceOk a b c d p ∧ 1 - bendAt a b c d p ≤ m ∧ m ≤ 2000 - bendAt a b c d p ∧
  ∀ fa fb fc fp fq fr fs : Int, Red fa fb fc → Act (numsAt a b c d p).1 (numsAt a b c d p).2.1 (numsAt a b c d p).2.2 fa fb fc fp fq fr fs →
    (hitsL fa fb fc fp fq fr fs (m + bendAt a b c d p) ≠ [] → ∀ ks gs, Q t (.ins (He.ga K "Touching") ks gs)) ∧ (hitsL fa fb fc fp fq fr fs (m + bendAt a b c d p) = [] → ∀ ks gs, Q t (.ins (He.ga K "Untouched") ks gs))
theorem w_touches (hd : HF K mg) (hs : HS K mg) : Fn prog0 w K mg base 9 "touches" [] (S_touches K) := by
  refine mkF hd.d_touches sc_touches (fun ds t Q h => by obtain ⟨_, _, _, _, _, _, rfl, _⟩ := h; rfl) (fun _ _ _ _ _ _ us hl => match us, hl with | [_, _, _], _ => rfl) fun f cdv A outer s H E hr ds t Q h => ?_
  have hN := sc_touches.nd
  obtain ⟨a, b, c, d, p, m, rfl, ok, m0, m1, q⟩ := h
  refine xss_cons (xs_expr (xe_call (w_need_worth hd) (hr.mono (by decide)) (xa_cons (xv 0 rfl (xa_cons (xv 1 rfl (xa_cons (xv 2 rfl (xa_nil (⟨_, _, _, _, _, _, rfl, ok.p0, ok.p4, ok.z, m0, m1, ?_⟩))))))))))
  refine xss_cons (xs_set 3 hN (xe_ix (fun _ _ => rfl) (xe_fld 0 hd.c_Four hd.n_Four_bends (xv 0 rfl (⟨_, _, _, rfl, rfl, nofun, rfl, xv 1 rfl (⟨_, _, _, .inr rfl, rfl, ok.p0, bendD_get ok.p0 ok.p4, ?_⟩)⟩)))))
  have sok := spotOk_of (v := m + bendAt a b c d p) ok (by omega) (by omega)
  have hb1 := ok.bd
  have hz := ok.z
  generalize bendAt a b c d p = n at *
  refine xss_cons (xs_set 4 hN (xe_add (xv 2 rfl (xv 3 rfl (I2.mk ?_)))))
  have lens : ∀ {fa fb fc fp fq fr fs : Int}, Red fa fb fc → Act (numsAt a b c d p).1 (numsAt a b c d p).2.1 (numsAt a b c d p).2.2 fa fb fc fp fq fr fs → (spotsL fa fb fc fp fq fr fs (m + n)).length ≤ 100000 := fun red act => spots_len red (by omega) (by rw [act.disc]; exact ok.d0)
  refine xss_cons (XS.mono (Q := fun t1 env1 => t1 = t ∧ ∃ L : List (Int × Int), env1 = [.d (fourD K [a, b, c, d]), .d (.int p), .d (.int m), .d (.int n), .d (.int (m + n)), .d (.lst (L.map tP)), .any, .any, .any] ∧ ∃ fa fb fc fp fq fr fs : Int, Red fa fb fc ∧ Act (numsAt a b c d p).1 (numsAt a b c d p).2.1 (numsAt a b c d p).2.2 fa fb fc fp fq fr fs ∧ L.Perm ((hitsL fa fb fc fp fq fr fs (m + n)).map fun z => z.2)) ?_ ?_ fun _ _ _ r => r)
  · refine xs_set 5 hN (xe_sortN 2 (by decide) hd.f_sorted (xe_lc3F (hb := rfl) (hg := fun _ _ _ _ _ => pg_tup rfl (pgs_cons (pg_name hN rfl (Or.inl rfl)) (pgs_cons (pg_name hN rfl (Or.inl rfl)) (pgs_cons (pg_name hN rfl (Or.inl rfl)) pgs_nil)))) (fun z : Int × Int × Int => .int z.1) (fun z => .int z.2.1) (fun z => .int z.2.2) (fun z => tP z.2) (fun z => decide (V.int z.1 = V.int (m + n))) 8 6 7 rfl hN (xi_lst (xe_call (w_spots hd) (hr.mono (by decide)) (xa_cons (xe_call (w_numbers_at hd) (hr.mono (by decide)) (xa_cons (xe_fld 0 hd.c_Four hd.n_Four_bends (xv 0 rfl ⟨_, _, _, rfl, rfl, nofun, rfl, xa_cons (xv 1 rfl (xa_nil ⟨a, b, c, d, p, rfl, ok.p0, ok.p4, xa_cons (xv 4 rfl (xa_nil ⟨_, _, _, _, rfl, sok, fun fa fb fc fp fq fr fs red act haf => ⟨_, rfl, spotsL fa fb fc fp fq fr fs (m + n), rfl, lens red act, ⟨_, rfl, ?_, fun es pm => ?_⟩, fun z hz s H C cl fp => xts_one (xt_eq (xv 8 rfl (xv 4 rfl ⟨_, _, rfl, rfl, rfl, rfl, rfl, fun _ s H C cl fp => xe_tup (xa_cons (xv 6 rfl (xa_cons (xv 7 rfl (xa_nil ⟨Nat.le_of_ble_eq_true rfl, rfl, rfl⟩)))))⟩)))⟩⟩))⟩))⟩)))))))))
    · intro y hy
      obtain ⟨z, _, rfl⟩ := List.mem_map.mp hy
      exact ⟨[z.2.1, z.2.2], rfl, rfl⟩
    · obtain ⟨L', h1, h2⟩ := perm_map_ex (f := tP) pm ((hitsL fa fb fc fp fq fr fs (m + n)).map fun z => z.2) (by unfold hitsL; rw [List.map_map]; rfl)
      exact ⟨rfl, L', by rw [h2]; rfl, fa, fb, fc, fp, fq, fr, fs, red, act, h1⟩
  rintro t2 env ⟨rfl, L, rfl, fa, fb, fc, fp, fq, fr, fs, red, act, pm⟩
  obtain ⟨q1, q2⟩ := q fa fb fc fp fq fr fs red act
  have hlen := pm.length_eq
  rw [List.length_map] at hlen
  have eL : L.map tP = (L.map fun z => [z.1, z.2]).map fun ns => D.tup (ns.map D.int) := by rw [List.map_map]; rfl
  refine xss_cons (xs_if (xt_neD hr.units (xv 5 rfl (xe_l (xl_lst (xa_nil ⟨Nat.le_of_ble_eq_true rfl, ?_⟩))))))
  rw [eL]
  refine EqD.tupsNil ⟨fun h => ?_, fun h => ?_⟩
  · cases L with
    | nil => cases h
    | cons z L =>
      have hne : hitsL fa fb fc fp fq fr fs (m + n) ≠ [] := fun e => by rw [e] at hlen; cases hlen
      refine xss_cons (xs_asg (xe_ix (fun _ _ => rfl) (xv 5 rfl (xe_int ⟨_, _, _, .inl rfl, rfl, by decide, rfl, xg_tup rfl (xgs_cons (xg_name 6 hN (xgs_cons (xg_name 7 hN (xgs_nil ?_)))))⟩))))
      exact xss_one (xs_ret (xe_make (w_Touching_init hd hs) (hr.mono (by decide)) (xa_cons (xv 6 rfl (xa_cons (xv 7 rfl (xa_nil ⟨_, _, rfl, fun ks gs => q1 hne ks gs⟩)))))))
  · have he : hitsL fa fb fc fp fq fr fs (m + n) = [] := by
      cases L with
      | nil => exact List.length_eq_zero_iff.mp hlen.symm
      | cons z L => cases h
    have ea : (if n < 0 then -n else n) = ((n.natAbs : Nat) : Int) := by split <;> omega
    refine xss_nil (xss_one (xs_ret (xe_make (w_Untouched_init hd hs) (hr.mono (by decide)) (xa_cons (xe_call (w_forms_with hd) (hr.mono (by decide)) (xa_cons (xv 4 rfl (xa_cons (xe_abs hd.f_abs (xv 3 rfl ⟨_, rfl, ?_⟩))))))))))
    rw [ea]
    refine xa_nil ⟨_, n.natAbs, rfl, by omega, by omega, by omega, by omega, fun gs hl hg => xa_nil ⟨_, rfl, ?_, fun ks gs => q2 he ks gs⟩⟩
    exact .inr (.inr ⟨gs, rfl, hl, fun e he => by
      obtain ⟨a, b, c, n, rfl⟩ := hg e he
      exact .inr (.inl ⟨_, _, _, _, rfl⟩)⟩)
end
end BS

set_option Elab.async false
set_option linter.all false
set_option maxRecDepth 100000
set_option maxHeartbeats 4000000
/-! the walks: the law's two checks, over plain facts -/
namespace BS
open PySem PySem.Spec PyProof.Rows L2
def fourR (n : Nat) (z : Int × Int × Int) : List Int := [-(n : Int), z.1 + n, z.2.2 + n, z.1 + z.2.2 - 2 * z.2.1 + n]
/-- what is known of the circle that is drawn -/
def CircOk (a b c d p : Int) : Prop := PlaceOk a b c d p ∧ -60 ≤ bendAt a b c d p ∧ bendAt a b c d p < 2 ^ 13 ∧ 0 < (numsAt a b c d p).2.2 ∧ (numsAt a b c d p).2.2 < 2 ^ 28 ∧ (numsAt a b c d p).2.1.natAbs < 2 ^ 28 ∧ (numsAt a b c d p).1.natAbs < 2 ^ 28
/-- the plain facts -/
structure MF : Prop where
  rimOk : ∀ n : Nat, 0 < n → n ≤ 12 → ∀ z ∈ lawA n (6 * (n : Int) / 5).toNat, FormOk z.1 z.2.1 z.2.2 n ∧ FourOk (fourR n z) ∧ PlaceOk (-(n : Int)) (z.1 + n) (z.2.2 + n) (z.1 + z.2.2 - 2 * z.2.1 + n) 0 ∧ numsAt (-(n : Int)) (z.1 + n) (z.2.2 + n) (z.1 + z.2.2 - 2 * z.2.1 + n) 0 = z
  rimSum : ∀ (n : Nat) (v : Int), 0 < n → n ≤ 12 → 0 < v → v < 60 → ∀ L : List (Int × Int × Int), L.Perm (lawA n (6 * (n : Int) / 5).toNat) → (L.map fun z => manyF (-(n : Int)) v z).sum = lawManyF n v
  rims : ∀ n : Nat, 0 < n → n ≤ 9 → 0 < (numsA n (numsN n)).length ∧ ∀ z ∈ numsA n (numsN n), FourOk (bendsF n z)
  rimsLen : ∀ n : Nat, 0 < n → n ≤ 9 → (numsA n (numsN n)).length < 2 ^ 29
  circ : ∀ n : Nat, 0 < n → n ≤ 9 → ∀ z ∈ numsA n (numsN n), ∀ ms', Exch 3 (bendsF n z) ms' → ∀ ms : List Int, ms.Perm ms' → FourOk ms ∧ ∃ a b c d, ms = [a, b, c, d] ∧ ∀ p : Int, 0 ≤ p → p < 4 → CircOk a b c d p
  count : ∀ a b c d p M : Int, PlaceOk a b c d p → 0 < M → M < 300 → ∀ fa fb fc fp fq fr fs : Int, Red fa fb fc → Act (numsAt a b c d p).1 (numsAt a b c d p).2.1 (numsAt a b c d p).2.2 fa fb fc fp fq fr fs → ∀ most : Int, M ≤ most → most < 2 ^ 14 →
    manyF (bendAt a b c d p) M (numsAt a b c d p) = (((spotsL fa fb fc fp fq fr fs most).filter fun z => decide (V.int z.1 = V.int M)).length : Int)
  pairs : ∀ a b c d p M : Int, PlaceOk a b c d p → 0 < M → M < 300 → ∀ n : Nat, (∀ x : Nat, x < n → (x : Int) * x * ((numsAt a b c d p).1 * (numsAt a b c d p).2.2 - (numsAt a b c d p).2.1 * (numsAt a b c d p).2.1) ≤ M * (numsAt a b c d p).2.2) →
    M * (numsAt a b c d p).2.2 < (n : Int) * n * ((numsAt a b c d p).1 * (numsAt a b c d p).2.2 - (numsAt a b c d p).2.1 * (numsAt a b c d p).2.1) → ((pairsN (numsAt a b c d p).1 (numsAt a b c d p).2.1 (numsAt a b c d p).2.2 M n : Nat) : Int) = manyF (bendAt a b c d p) M (numsAt a b c d p)
  worth : ∀ {a b c p q r s m : Int} {z : Int × Int × Int}, Red a b c → 0 < a * c - b * b → m < 2 ^ 14 → z ∈ spotsL a b c p q r s m → 0 < z.1 ∧ z.1 ≤ m
  ones : manyF (-1) 1 (1, 0, 1) = 2 ∧ manyF (-1) 2 (1, 0, 1) = 2 ∧ manyF (-1) 3 (1, 0, 1) = 0 ∧ manyF (-1) 5 (1, 0, 1) = 4 ∧ manyF 1 2 (1, 0, 1) = 2
  led : ∀ f h l : Int, 0 < f → 0 < f * l - h * h → ∃ a b c p q r s, Red a b c ∧ Act f h l a b c p q r s
section
variable {P : Program} {w : World} {K : PySem.W.Frag} {mg : Str → Option Value} {base : Heap}
theorem sc_law_rim_right : FnScope ["_law_jar_here", "_law_number", "_law_most", "_law_fours", "_law_worth", "_law_told", "_law_first", "_law_half", "_law_last", "_law_four"] ["_law_jar_here", "_law_number", "_law_most"] (defScope s_law_rim_right) := ⟨rfl, rfl, rfl, by decide +kernel, rfl, by decide +kernel, by decide +kernel⟩
def S_law_rim_right : SpT := fun ds t Q => ∃ (n : Nat) (m : Int), ds = [.jar, .int n, .int m] ∧ 0 < n ∧ n ≤ 12 ∧ 1 ≤ m ∧ m ≤ 60 ∧ t + 200 < 100000 ∧ ∀ t2 : Nat, t2 ≤ t + 100 → Q t2 (.bl true)
theorem w_law_rim_right (hd : HF K mg) (mf : MF) : Fn P w K mg base 8 "_law_rim_right" [] S_law_rim_right := by
  refine mkF hd.d_law_rim_right sc_law_rim_right (fun ds t Q h => by obtain ⟨_, _, rfl, _⟩ := h; rfl) (fun _ _ _ _ _ _ us hl => match us, hl with | [_, _, _], _ => rfl) fun f cdv A outer s H E hr ds t Q h => ?_
  have hN := sc_law_rim_right.nd
  obtain ⟨n, m, rfl, n0, n1, m0, m1, ht, q⟩ := h
  have hlen := lawA_len (n : Int) (6 * (n : Int) / 5).toNat (by omega)
  refine xss_cons (XS.mono (Q := fun t1 env1 => t1 = t ∧ ∃ L : List (Int × Int × Int), env1 = [.d .jar, .d (.int n), .d (.int m), .d (.lst (L.map fun z => fourD K (fourR n z))), .any, .any, .any, .any, .any, .any] ∧ L.Perm (lawA n (6 * (n : Int) / 5).toNat)) ?_ ?_ fun _ _ _ r => r)
  · refine xs_setLc3F (hb := rfl) (hg := fun _ _ _ _ _ => pg_tup rfl (pgs_cons (pg_name hN rfl (Or.inl rfl)) (pgs_cons (pg_name hN rfl (Or.inl rfl)) (pgs_cons (pg_name hN rfl (Or.inl rfl)) pgs_nil)))) (fun z : Int × Int × Int => .int z.1) (fun z => .int z.2.1) (fun z => .int z.2.2) (fun z => fourD K (fourR n z)) (fun _ => true) 3 6 7 8 rfl hN (xi_lst (xe_call (w_law_forms hd) (hr.mono (by decide)) (xa_cons (xv 1 rfl (xa_nil ⟨_, rfl, by omega, by omega, fun L pm => ⟨_, rfl, L, rfl, ?_, ⟨rfl, L, ?_, pm⟩, fun z hz s H C cl fp => xts_nil ⟨rfl, rfl, fun _ s H C cl fp => ?_⟩⟩⟩)))))
    · rw [pm.length_eq]
      omega
    · obtain ⟨k1, k2, _⟩ := mf.rimOk n n0 n1 z (pm.mem_iff.mp hz)
      exact xe_call (w_four_from hd) (hr.mono (by decide)) (xa_cons (xe_make (w_Form_init hd) (hr.mono (by decide)) (xa_cons (xv 6 rfl (xa_cons (xv 7 rfl (xa_cons (xv 8 rfl (xa_nil ⟨_, _, _, n, rfl, k1, xa_cons (xe_bl (xa_nil ⟨_, _, _, n, rfl, k2, rfl, rfl⟩))⟩)))))))))
    · rw [List.filter_eq_self.mpr fun _ _ => rfl]
      rfl
  rintro t1 env1 ⟨rfl, L, rfl, pm⟩
  refine xss_cons (xs_for PassesOwn.never rfl (xi_rg2 hd.f_range (xe_int (xv 2 rfl (I2.mk ⟨by omega, fun i t2 env => t2 = t1 + i ∧ ∃ z z2, env = [.d .jar, .d (.int n), .d (.int m), .d (.lst (L.map fun z => fourD K (fourR n z))), z, z2, .any, .any, .any, .any], ⟨rfl, _, _, rfl⟩, ?_, ?_⟩)))))
  · rintro i d t2 env hi ⟨rfl, z, z2, rfl⟩
    obtain ⟨hi1, rfl⟩ := rgD_at hi
    have v0 : 0 < 1 + (i : Int) := by omega
    have v1 : 1 + (i : Int) < 60 := by omega
    have hs := mf.rimSum n (1 + (i : Int)) n0 n1 v0 v1 L pm
    generalize 1 + (i : Int) = v at *
    refine xg_name 4 hN ?_
    refine xss_one (xs_if (xt_eq (xe_call (w_law_lot hd) (hr.mono (by decide)) (xa_cons (xv 0 rfl (xa_cons (xe_int (xa_nil ⟨_, rfl, by decide, by decide, by omega, fun r r0 r1 => xe_int ⟨_, _, rfl, rfl, rfl, fun h => ?_, fun h => xss_nil ⟨by omega, _, _, rfl⟩⟩⟩))))))))
    refine xss_cons (XS.mono (Q := fun t3 env1 => t3 = t1 + i + 1 ∧ env1 = [.d .jar, .d (.int n), .d (.int m), .d (.lst (L.map fun z => fourD K (fourR n z))), .d (.int v), .d (.lst ((L.map fun z => manyF (-(n : Int)) v z).map D.int)), .any, .any, .any, .any]) ?_ ?_ fun _ _ _ r => r)
    · refine xs_setLcF (hb := rfl) (hg := fun _ _ _ _ _ => pg_name hN rfl (Or.inl rfl)) L (fun z => fourD K (fourR n z)) (fun z => D.int (manyF (-(n : Int)) v z)) (fun _ => true) 5 9 rfl hN (xi_lst (xv 3 rfl ⟨_, rfl, rfl, ?_, ⟨rfl, ?_⟩, fun z hz s H C cl fp => xts_nil ⟨rfl, rfl, fun _ s H C cl fp => ?_⟩⟩))
      · rw [pm.length_eq]
        omega
      · obtain ⟨_, _, k3, k4⟩ := mf.rimOk n n0 n1 z (pm.mem_iff.mp hz)
        refine xe_call (w_many_touching hd) (hr.mono (by decide)) (xa_cons (xv 9 rfl (xa_cons (xe_int (xa_cons (xe_add (xv 4 rfl (xv 1 rfl (I2.mk (xa_nil ⟨_, _, _, _, _, _, rfl, k3, ?_, ?_, rfl, ?_⟩))))))))))
        · show 1 - -(n : Int) ≤ v + n
          omega
        · show v + (n : Int) ≤ 2000 - -(n : Int)
          omega
        · rw [k4]
          show D.int (manyF (-(n : Int)) (v + n + -(n : Int)) z) = _
          rw [show v + (n : Int) + -(n : Int) = v by omega]
      · rw [List.filter_eq_self.mpr fun _ _ => rfl, List.map_map]
        rfl
    rintro t3 env1 ⟨rfl, rfl⟩
    refine xss_one (xs_if (xt_ne (xe_sum rfl hd.f_sum (xv 5 rfl ⟨_, .inl rfl, xe_call (w_law_many hd) (hr.mono (by decide)) (xa_cons (xv 1 rfl (xa_cons (xv 4 rfl (xa_nil ⟨_, _, rfl, by omega, by omega, v0, by omega, ⟨_, _, rfl, rfl, rfl, fun h => ?_, fun h => xss_nil ⟨by omega, _, _, rfl⟩⟩⟩)))))⟩))))
    rw [hs] at h
    rw [decide_eq_true rfl] at h
    cases h
  · rintro t2 env ⟨rfl, z, z2, rfl⟩
    rw [rgD_len]
    exact xss_one (xs_ret (xe_bl (q _ (by omega))))
end
end BS

set_option Elab.async false
set_option linter.all false
set_option maxRecDepth 100000
set_option maxHeartbeats 4000000
/-! keywords alone -/
namespace BS
open PySem PySem.Spec PyProof.Rows L2
def WK (X : Cx) (kws : List Keyword) : TA := fun σ H Q => ∀ (pos : Pos) (pins : List (Addr × Obj)) (s : Shared), Inv X pins σ H s → wpAny (model X.prog X.w) X.A (evalAll ((backToKw pos (keywordEach kws X.env)).map (·.2))) (AP X pins σ Q) X.xe s
def XK2 (X : Cx) (kws : List Keyword) (t : Nat) (env : List Sl) (Q : Nat → List D → Prop) : Prop := ∀ J G0 H0 G H σ, Stt J G0 H0 G H t σ env → WK X kws σ H (PostA J G0 H0 G σ env Q)
section
variable {X : Cx} {e : Expr} {t k : Nat} {env : List Sl} {pos p kpos : Pos} {x : Str} {nm : Option Str} {kws : List Keyword} {σ : L2.St} {H : Hp}
theorem pk_w : PK X kws (WK X kws) := ⟨fun pos pins s σ H Q I h => h pos pins s I⟩
theorem WK.of {ta : TA} {Q : List V → Hp → Prop} (h : PK X kws ta) (q : ta σ H Q) : WK X kws σ H Q := fun pos pins s I => h.run pos pins s σ H Q I q
theorem WK.mono {Q Q' : List V → Hp → Prop} (h : WK X kws σ H Q) (k : ∀ v H', Q v H' → Q' v H') : WK X kws σ H Q' := fun pos pins s I => thn (h pos pins s I) fun u s' ⟨v, H', I', r, q⟩ => ⟨v, H', I', r, k v H' q⟩
theorem xk_nil {Q : Nat → List D → Prop} (q : Q t []) : XK2 X [] t env Q := fun J G0 H0 G H σ S => WK.of pk_nil (show PostA _ _ _ _ _ _ _ _ _ from ⟨G, t, [], Same.refl _, S, rfl, q⟩)
theorem xk_cons {Q : Nat → List D → Prop} (h : XE X e t env fun t1 d => XK2 X kws t1 env fun t2 ds => Q t2 (d :: ds)) : XK2 X (⟨nm, e, kpos⟩ :: kws) t env Q := fun J G0 H0 G H σ S => by
  refine WK.of (pk_cons pe_w pk_w) ((h J G0 H0 G H σ S).mono fun v H1 ⟨G1, t1, x, e1, S1, r1, q1⟩ => ?_)
  refine (q1 J G0 H0 G1 H1 σ S1).mono fun vs H2 ⟨G2, t2, ds, e2, S2, r2, q2⟩ => ?_
  exact ⟨G2, t2, x :: ds, e1.trans e2, S2, ⟨v, vs, rfl, r1.mono e2, r2⟩, q2⟩
end
/-- a def that is called by keywords alone -/
def FnK (P : Program) (w : World) (K : PySem.W.Frag) (mg : Str → Option Value) (base : Heap) (k : Nat) (x : Str) (ks : List Str) (gD : List D → List D) (S : SpT) : Prop :=
  ∃ (f : Addr) (fd : FuncData) (ps : List Str) (g : List Value → List Value → List Value) (gV : List V → List V → List V), FnOk P w K mg base CX0 k f fd ps (spD S) ∧ mg x = some (.ref f) ∧ PySem.W.keepIn K (.ref f) = true ∧ KBn K fd ps 0 ks g gV ∧
    ∀ J G ds vs, ds.length = ks.length → RepL J G ds vs → RepL J G (gD ds) (gV [] vs)
section
variable {X : Cx} {t k : Nat} {env : List Sl} {pos p : Pos} {x : Str} {kws : List Keyword}
theorem xe_callW {ks : List Str} {gD : List D → List D} {S : SpT} {Q : Nat → D → Prop} (F : FnK X.prog X.w X.K X.mg X.base k x ks gD S) (hr : Room k X.A) (h : XK2 X kws t env fun t1 as => as.length = ks.length ∧ S (gD as) t1 Q)
    (hg : Gl X x := by rfl) (hall : (backToKw pos (keywordEach kws X.env)).all (·.1.isSome) = true := by rfl) (hks : (backToKw pos (keywordEach kws X.env)).filterMap (·.1) = ks := by rfl) (hdb : (x == ("__debug__" : Str)) = false := by decide)
    (hpl : ((backTo pos (starEach [] X.env)).any (·.1) || (backToKw pos (keywordEach kws X.env)).any (·.1.isNone)) = false := by rfl) :
    XE X (.Call (.Name x p) [] kws pos) t env Q := by
  obtain ⟨f, fd, ps, g, gV, Fo, hm, hk, hb, hgD⟩ := F
  exact xe_callK Fo hm hk hr hb hgD pk_w h hg hall hks hdb hpl
end
section
variable {P : Program} {w : World} {K : PySem.W.Frag} {mg : Str → Option Value} {base : Heap} {x : Str} {st : Stmt} {N ps : List Str} {k : Nat}
theorem kb_of {qual : Str} {params : Arguments} {body : List Stmt} {scope : Scope} {f : Addr} {fd : FuncData} {ks : List Str} {g : {α : Type} → List α → List α} (F : FunD K x qual params body scope [] [] f fd)
    (hb : ∀ (kV doc pm : Value) (an : Option Addr) (cdv ct : Value) (ws : List Value), ws.length = ks.length → bindArgs (PySem.W.fnOf x qual params body scope .none kV doc pm an cdv ct) ⟨[], ks.zip ws⟩ = pure (ps.zip (g ws)))
    (hrel : ∀ {zs : List V} {ws : List Value}, Vals zs ws → Vals (g zs) (g ws)) : KBn K fd ps 0 ks (fun _ ws => g ws) (fun _ zs => g zs) := by
  obtain ⟨oc, od, dV, kV, doc, pm, an, cdv, ct, osl, rfl, lk, hcd, hD, hK⟩ := F.ex
  rcases hD with ⟨_, rfl⟩ | ⟨e, _⟩
  · refine ⟨fun s us ws _ h1 h2 => ?_, fun _ r => hrel r⟩
    cases List.eq_nil_of_length_eq_zero h1
    exact .of_eq (hb kV doc pm an cdv ct ws h2)
  · exact absurd rfl e
theorem mkFK {S : SpT} {ks : List Str} {g : {α : Type} → List α → List α} (kn : KnF K mg x st []) (Sc : FnScope N ps (defScope st)) (hl : ∀ ds t Q, S ds t Q → ds.length = ps.length)
    (hbn : ∀ (kV doc pm : Value) (an : Option Addr) (cdv ct : Value) (ws : List Value), ws.length = ks.length → bindArgs (PySem.W.fnOf x x (defArgs st) (defBody st) (defScope st) .none kV doc pm an cdv ct) ⟨[], ks.zip ws⟩ = pure (ps.zip (g ws)))
    (hrel : ∀ {zs : List V} {ws : List Value}, Vals zs ws → Vals (g zs) (g ws)) (hrep : ∀ J G ds vs, ds.length = ks.length → RepL J G ds vs → RepL J G (g ds) (g vs))
    (hb : ∀ (f : Addr) (cdv : Value) (A : Around) (outer : List Env) (s : Shared) (H : Hp) (E : XK), Room k (CxB P w K mg base N x st f cdv A outer s H E).A → ∀ (ds : List D) (t : Nat) (Q' : Nat → D → Prop), S ds t Q' →
      XSs (CxB P w K mg base N x st f cdv A outer s H E) (defBody st) t (startE N ds) (fun t' _ => Q' t' .non) (fun t' _ d => Q' t' d)) : FnK P w K mg base (k + 1) x ks g S := by
  obtain ⟨f, fd, F, hm⟩ := kn
  exact ⟨f, fd, ps, _, _, mk_fn F Sc hl fun cdv A outer s H E hr => hb f cdv A outer s H E hr, hm, F.kp, kb_of F hbn hrel, hrep⟩
end
/-- the third, the second, the first -/
def rev3 {α : Type} (l : List α) : List α := match l with
  | [a, b, c] => [c, b, a]
  | _ => []
theorem rev3_vals : ∀ {zs : List V} {ws : List Value}, Vals zs ws → Vals (rev3 zs) (rev3 ws)
  | _, _, .nil => .nil
  | _, _, .cons _ .nil => .nil
  | _, _, .cons _ (.cons _ .nil) => .nil
  | _, _, .cons a (.cons b (.cons c .nil)) => .cons c (.cons b (.cons a .nil))
  | _, _, .cons _ (.cons _ (.cons _ (.cons _ _))) => .nil
theorem rev3_rep (J : Option Addr) (G : Hp) : ∀ (ds : List D) (vs : List V), ds.length = 3 → RepL J G ds vs → RepL J G (rev3 ds) (rev3 vs)
  | [_, _, _], _, _, ⟨_, _, rfl, ra, _, _, rfl, rb, _, _, rfl, rc, rfl⟩ => ⟨_, _, rfl, rc, _, _, rfl, rb, _, _, rfl, ra, rfl⟩
end BS

set_option Elab.async false
set_option linter.all false
set_option maxRecDepth 100000
set_option maxHeartbeats 4000000
/-! the walks: the law's check of a circle -/
namespace BS
open PySem PySem.Spec PyProof.Rows L2
theorem spots_len2 {a b c m p q r s : Int} (h : Red a b c) (hm : m < 2 ^ 14) (hD : 0 < a * c - b * b) : (spotsL a b c p q r s m).length ≤ 60000 := by
  unfold spotsL
  split
  · exact Nat.zero_le _
  · rw [List.length_map]
    have h1 := pairs_length (b := b) (c := c) h.1 hm (by omega) (rowsF a b c m)
    have h2 := rowsF_le (m := m) h hm hD
    omega
theorem manyF_bd (n w : Int) (N : Int × Int × Int) (h : w < 300) : (manyF n w N).natAbs.log2 < 1920 ∧ 0 ≤ manyF n w N := by
  have h2 : ((rootsL n w).filter fun z => decide (redOf z = redOf N)).length ≤ w.toNat := by
    refine Nat.le_trans (List.length_filter_le _ _) ?_
    unfold rootsL
    rw [List.length_map]
    have := List.length_filter_le (rootOk n w) (List.range w.toNat)
    rw [List.length_range] at this
    exact this
  have h3 : (manyF n w N).natAbs < 1024 ∧ 0 ≤ manyF n w N := by
    unfold manyF
    simp only
    generalize ((rootsL n w).filter fun z => decide (redOf z = redOf N)).length = k at *
    split
    · omega
    · omega
  generalize manyF n w N = W at *
  refine ⟨?_, h3.2⟩
  rcases Nat.eq_zero_or_pos W.natAbs with e | e
  · rw [e]
    decide
  · exact Nat.lt_of_lt_of_le ((Nat.log2_lt (Nat.pos_iff_ne_zero.mp e)).mpr (show W.natAbs < 2 ^ 10 from h3.1)) (by decide)
section
variable {P : Program} {w : World} {K : PySem.W.Frag} {mg : Str → Option Value} {base : Heap}
theorem wk_many_touching (hd : HF K mg) : FnK P w K mg base 7 "many_touching" ["number", "place", "four"] rev3 (S_many_touching K) :=
  mkFK hd.d_many_touching sc_many_touching (fun ds t Q h => by obtain ⟨_, _, _, _, _, _, rfl, _⟩ := h; rfl) (fun _ _ _ _ _ _ ws hl => match ws, hl with | [_, _, _], _ => rfl) rev3_vals rev3_rep (b_many_touching hd)
end
section
variable {w : World} {K : PySem.W.Frag} {mg : Str → Option Value} {base : Heap}
theorem sc_law_circle_right : FnScope ["_law_jar_here", "_law_four", "_law_place", "_law_bend", "_law_turn", "_law_numbers", "_law_listed", "_law_number", "_law_told", "_law_row"] ["_law_jar_here"] (defScope s_law_circle_right) := ⟨rfl, rfl, rfl, by decide +kernel, rfl, by decide +kernel, by decide +kernel⟩
def S_law_circle_right : SpT := fun ds t Q => ds = [.jar] ∧ t + 300 < 100000 ∧ ∀ t2 : Nat, t2 ≤ t + 100 → Q t2 (.bl true)
theorem w_law_circle_right (hd : HF K mg) (hs : HS K mg) (mf : MF) : Fn prog0 w K mg base 10 "_law_circle_right" [] S_law_circle_right := by
  refine mkF hd.d_law_circle_right sc_law_circle_right (fun ds t Q h => by obtain ⟨rfl, _⟩ := h; rfl) (fun _ _ _ _ _ _ us hl => match us, hl with | [_], _ => rfl) fun f cdv A outer s H E hr ds t Q h => ?_
  have hN := sc_law_circle_right.nd
  obtain ⟨rfl, ht, q⟩ := h
  refine xss_cons (XS.mono (Q := fun t1 env1 => ∃ a b c d : Int, t1 ≤ t + 55 ∧ env1 = [.d .jar, .d (fourD K [a, b, c, d]), .any, .any, .any, .any, .any, .any, .any, .any] ∧ ∀ p : Int, 0 ≤ p → p < 4 → CircOk a b c d p) ?_ ?_ fun _ _ _ r => r)
  · refine xs_set 1 hN (xe_make (w_Four_init hd) (hr.mono (by decide)) (xa_cons (xe_call (w_law_walked hd) (hr.mono (by decide)) (xa_cons (xv 0 rfl (xa_cons (xe_fld 0 hd.c_Four hd.n_Four_bends (xe_call (w_law_take hd) (hr.mono (by decide)) (xa_cons (xv 0 rfl (xa_cons (xe_call (w_rim_fours hd) (hr.mono (by decide)) (xa_cons (xe_add (xe_int (xe_call (w_law_lot hd) (hr.mono (by decide)) (xa_cons (xv 0 rfl (xa_cons (xe_int (xa_nil ⟨_, rfl, by decide, by decide, by omega, fun r r0 r1 => I2.mk ?_⟩)))))))))))))))))))))
    obtain ⟨n, hn⟩ : ∃ n : Nat, 1 + r = n := ⟨(1 + r).toNat, by omega⟩
    rw [hn]
    obtain ⟨g1, g2⟩ := mf.rims n (by omega) (by omega)
    refine xa_nil ⟨n, rfl, by omega, by omega, g2, fun L pm => xa_nil ⟨_, _, rfl, .inr rfl, by rw [List.length_map, pm.length_eq]; exact g1, ?_, by omega, fun e he => ?_⟩⟩
    · rw [List.length_map, pm.length_eq]
      exact mf.rimsLen n (by omega) (by omega)
    · obtain ⟨z, hz, rfl⟩ := List.mem_map.mp he
      refine ⟨_, _, _, rfl, rfl, nofun, rfl, xa_cons (xe_int (xa_nil ⟨_, bendsF n z, 3, rfl, .inr rfl, rfl, by decide, by omega, fun t2 ms ms' h2 hE pm2 => xa_nil ?_⟩))⟩
      obtain ⟨f4, a, b, c, d, em, hp⟩ := mf.circ n (by omega) (by omega) z (pm.mem_iff.mp hz) ms' hE ms pm2
      refine ⟨_, ms, rfl, .inl rfl, f4, a, b, c, d, by omega, ?_, hp⟩
      subst em
      rfl
  rintro t1 env1 ⟨a, b, c, d, h1, rfl, hp⟩
  refine xss_cons (xs_set 2 hN (xe_call (w_law_lot hd) (hr.mono (by decide)) (xa_cons (xv 0 rfl (xa_cons (xe_int (xa_nil ⟨_, rfl, by decide, by decide, by omega, fun p p0 p1 => ?_⟩)))))))
  obtain ⟨ok, b0, b1, c0, c1, c2, c3⟩ := hp p p0 p1
  refine xss_cons (xs_set 3 hN (xe_ix (fun _ _ => rfl) (xe_fld 0 hd.c_Four hd.n_Four_bends (xv 1 rfl (⟨_, _, _, rfl, rfl, nofun, rfl, xv 2 rfl ⟨_, _, _, .inr rfl, rfl, p0, bendD_get p0 p1, ?_⟩⟩)))))
  have D0 := ok.d0
  refine xss_cons (XS.mono (Q := fun t2 env2 => t2 = t1 + 1 ∧ ∃ (fa fb fc fp fq fr fs : Int) (L : List (Int × Int × Int)), Red fa fb fc ∧ Act (numsAt a b c d p).1 (numsAt a b c d p).2.1 (numsAt a b c d p).2.2 fa fb fc fp fq fr fs ∧ L.Perm (listedL fa fb fc fp fq fr fs (60 + bendAt a b c d p) (bendAt a b c d p)) ∧
    env2 = [.d .jar, .d (fourD K [a, b, c, d]), .d (.int p), .d (.int (bendAt a b c d p)), .any, .d (tI3 (numsAt a b c d p).1 (numsAt a b c d p).2.1 (numsAt a b c d p).2.2), .d (.tup (L.map tT)), .any, .any, .any]) ?_ ?_ fun _ _ _ r => r)
  · refine xs_par 5 6 rfl hN (xe_fld 0 hd.c_Form hd.n_Form_numbers (xe_call (w_form_at hd) (hr.mono (by decide)) (xa_cons (xv 1 rfl (xa_cons (xv 2 rfl (xa_nil ⟨a, b, c, d, p, _, rfl, p0, p1, ok.z, ok.f, _, _, _, rfl, rfl, nofun, rfl, xe_call (w_touching hd) (hr.mono (by decide)) (xa_cons (xv 1 rfl (xa_cons (xv 2 rfl (xa_cons (xe_int (xa_nil ⟨a, b, c, d, p, 60, rfl, ok, by decide, by decide, by omega, by omega, fun fa fb fc fp fq fr fs red act L pm => ⟨rfl, fa, fb, fc, fp, fq, fr, fs, L, red, act, pm, rfl⟩⟩)))))))⟩)))))))
  rintro t2 env2 ⟨rfl, fa, fb, fc, fp, fq, fr, fs, L, red, act, pm, rfl⟩
  have cnt := fun M m0 m1 most m2 m3 => mf.count a b c d p M ok m0 m1 fa fb fc fp fq fr fs red act most m2 m3
  have prs := fun M m0 m1 => mf.pairs a b c d p M ok m0 m1
  have hlen : L.length ≤ 60000 := by
    rw [pm.length_eq]
    unfold listedL
    rw [List.length_map]
    exact spots_len2 red (by omega) (by rw [act.disc]; exact D0)
  have hDb : (numsAt a b c d p).1 * (numsAt a b c d p).2.2 - (numsAt a b c d p).2.1 * (numsAt a b c d p).2.1 < 2 ^ 30 := by
    rw [ok.f.d]
    have := ok.bd
    have h9 : (bendAt a b c d p).natAbs * (bendAt a b c d p).natAbs < 2 ^ 14 * 2 ^ 14 := Nat.mul_lt_mul'' this this
    rw [← Int.natCast_mul]
    omega
  have hrow : ∀ z ∈ L, 0 < z.1 + bendAt a b c d p ∧ z.1 ≤ 60 := fun z hz => by
    obtain ⟨y, hy, rfl⟩ := List.mem_map.mp (pm.mem_iff.mp hz)
    have := mf.worth red (by rw [act.disc]; exact D0) (by omega) hy
    show 0 < y.1 - bendAt a b c d p + bendAt a b c d p ∧ y.1 - bendAt a b c d p ≤ 60
    omega
  have hfil : ∀ number : Int, (L.filter fun z => decide (V.int z.1 = V.int number)).length = ((spotsL fa fb fc fp fq fr fs (60 + bendAt a b c d p)).filter fun z => decide (V.int z.1 = V.int (number + bendAt a b c d p))).length := fun number => by
    rw [(pm.filter _).length_eq]
    unfold listedL
    rw [List.filter_map, List.length_map]
    congr 1
    refine List.filter_congr fun z _ => ?_
    show decide (V.int (z.1 - bendAt a b c d p) = V.int number) = _
    refine decide_eq_decide.mpr ⟨fun h => ?_, fun h => ?_⟩
    · injection h with h
      rw [show number + bendAt a b c d p = z.1 by omega]
    · injection h with h
      rw [show z.1 - bendAt a b c d p = number by omega]
  have rg0 : RgOk 0 40 := by
    unfold RgOk
    omega
  refine xss_cons (xs_for PassesOwn.never rfl (xi_rg1 hd.f_range (xe_int ⟨4, rfl, by decide, fun i t3 env => t3 = t1 + 1 + i ∧ ∃ z4 z7 z8 z9, env = [.d .jar, .d (fourD K [a, b, c, d]), .d (.int p), .d (.int (bendAt a b c d p)), z4, .d (tI3 (numsAt a b c d p).1 (numsAt a b c d p).2.1 (numsAt a b c d p).2.2), .d (.tup (L.map tT)), z7, z8, z9], ⟨rfl, _, _, _, _, rfl⟩, ?_, ?_⟩)))
  · rintro i e t3 env hi ⟨rfl, z4, z7, z8, z9, rfl⟩
    obtain ⟨hi1, rfl⟩ := rgD_at hi
    refine xg_name 4 hN ?_
    refine xss_cons (XS.mono (Q := fun t4 env1 => t4 = t1 + 1 + i + 1 ∧ ∃ number z4, env1 = [.d .jar, .d (fourD K [a, b, c, d]), .d (.int p), .d (.int (bendAt a b c d p)), z4, .d (tI3 (numsAt a b c d p).1 (numsAt a b c d p).2.1 (numsAt a b c d p).2.2), .d (.tup (L.map tT)), .d (.int number), z8, z9] ∧ number ≤ 60) ?_ ?_ fun _ _ _ r => r)
    · refine xs_set 7 hN (xe_call (w_law_take hd) (hr.mono (by decide)) (xa_cons (xv 0 rfl (xa_cons (xe_cat (xe_lcM (hb := rfl) (hg := fun _ _ _ _ _ => pg_name hN rfl (Or.inl rfl)) L tT (fun z => D.int z.1) 9 rfl hN (xi_tup (xv 6 rfl ⟨_, rfl, rfl, by omega, xe_listRg1 rfl hd.f_list hd.f_range (xe_int ⟨40, rfl, rg0, _, _, rfl, rfl, ?_, xa_nil ⟨_, _, rfl, .inl rfl, ?_, ?_, by omega, fun e he => ?_⟩⟩), fun z hz s H C cl fp => ?_⟩))))))))
      · rw [List.length_map, List.length_map, List.length_range]
        show _ + 40 ≤ 100000
        omega
      · rw [List.length_append, List.length_map, List.length_map, List.length_range]
        show 0 < _ + 40
        omega
      · rw [List.length_append, List.length_map, List.length_map, List.length_range]
        show _ + 40 < 2 ^ 29
        omega
      · rcases List.mem_append.mp he with h | h
        · obtain ⟨z, hz, rfl⟩ := List.mem_map.mp h
          exact ⟨rfl, z.1, _, rfl, (hrow z hz).2⟩
        · obtain ⟨k, hk, rfl⟩ := List.mem_map.mp h
          have := List.mem_range.mp hk
          exact ⟨rfl, _, _, rfl, by omega⟩
      · exact xe_ix (fun _ _ => rfl) (xv 9 rfl (xe_int ⟨_, 0, _, .inr rfl, rfl, by decide, rfl, rfl, rfl⟩))
    rintro t4 env1 ⟨rfl, number, z4, rfl, hn⟩
    refine xss_one (xs_if (xt_chain2 (xe_int (xe_add (xv 7 rfl (xv 3 rfl (I2.mk (I2.mk ⟨fun h1 => xe_int (I2.mk ⟨fun h2 => ?_, fun h2 => ?_⟩), fun h1 => ⟨nofun, fun _ => ?_⟩⟩))))))))
    · have m1 := of_decide_eq_true h2
      obtain ⟨M, hM⟩ : ∃ M : Int, number + bendAt a b c d p = M := ⟨_, rfl⟩
      have hb := manyF_bd (bendAt a b c d p) M (numsAt a b c d p) (by omega)
      have hc := cnt M (by omega) (by omega) (60 + bendAt a b c d p) (by omega) (by omega)
      have hc2 := fun fa fb fc fp fq fr fs red act => mf.count a b c d p M ok (by omega) (by omega) fa fb fc fp fq fr fs red act M (Int.le_refl _) (by omega)
      have hp := prs M (by omega) (by omega)
      refine xss_cons (xs_set 8 hN (xe_callW (wk_many_touching hd) (hr.mono (by decide)) (xk_cons (xv 7 rfl (xk_cons (xv 2 rfl (xk_cons (xv 1 rfl (xk_nil ⟨rfl, _, _, _, _, _, number, rfl, ok, by omega, by omega, ?_⟩)))))))))
      rw [hM]
      generalize manyF (bendAt a b c d p) M (numsAt a b c d p) = W at *
      refine xss_cons (XS.mono (Q := fun t4 env4 => t4 = t1 + 1 + i + 1 ∧ env4 = [.d .jar, .d (fourD K [a, b, c, d]), .d (.int p), .d (.int (bendAt a b c d p)), z4, .d (tI3 (numsAt a b c d p).1 (numsAt a b c d p).2.1 (numsAt a b c d p).2.2), .d (.tup (L.map tT)), .d (.int number), .d (.int W), z9]) ?_ ?_ fun _ _ _ r => r)
      · refine xs_if (xt_w (xw_or (xt_ne (xe_repr hd.f_repr (xv 8 rfl ⟨_, rfl, hb.1, xe_repr hd.f_repr (xe_call (w_law_pairs hd) (hr.mono (by decide)) (xa_cons (xv 5 rfl (xa_cons (xe_add (xv 7 rfl (xv 3 rfl (I2.mk (xa_nil ⟨_, _, _, _, rfl, c0, c1, c2, c3, D0, hDb, h1, by omega, fun x k1 k2 => ?_⟩)))))))))⟩)))))
        rw [hM] at k1 k2
        rw [hM, hp x k1 k2]
        refine ⟨_, rfl, hb.1, _, _, rfl, rfl, rfl, fun h => ?_, fun _ => xw_or1 (xt_ne (xe_boolOwn (k := 1) (hr.mono (by decide)) hd.f_bool (xe_call (w_touches hd hs) (hr.mono (by decide)) (xa_cons (xv 1 rfl (xa_cons (xv 2 rfl (xa_cons (xv 7 rfl (xa_nil ⟨_, _, _, _, _, _, rfl, ok, by omega, by omega, fun ga gb gc gp gq gr gs red2 act2 => ⟨fun hne ks fs => ⟨_, _, _, true, rfl, boolF_T hd hs, xe_gt (xv 8 rfl (xe_int (I2.mk ⟨_, _, rfl, rfl, rfl, ?_, ?_⟩)))⟩, fun he ks fs => ⟨_, _, _, false, rfl, boolF_U hd hs, xe_gt (xv 8 rfl (xe_int (I2.mk ⟨_, _, rfl, rfl, rfl, ?_, ?_⟩)))⟩⟩⟩))))))))))⟩
        · rw [decide_eq_true rfl] at h
          cases h
        · intro h
          have e : 0 < W := by
            rw [hc2 ga gb gc gp gq gr gs red2 act2]
            unfold hitsL at hne
            rw [hM] at hne
            have := List.length_pos_iff.mpr hne
            omega
          rw [decide_eq_true e, decide_eq_true rfl] at h
          cases h
        · exact fun _ => xss_nil ⟨rfl, rfl⟩
        · intro h
          have e : ¬ 0 < W := by
            rw [hc2 ga gb gc gp gq gr gs red2 act2]
            unfold hitsL at he
            rw [hM] at he
            rw [he]
            exact Int.lt_irrefl _
          rw [decide_eq_false e, decide_eq_true rfl] at h
          cases h
        · exact fun _ => xss_nil ⟨rfl, rfl⟩
      rintro t4 env4 ⟨rfl, rfl⟩
      refine xss_one (xs_if (xt_ne (xv 8 rfl (xe_len hd.f_len (xe_lcF (hb := rfl) (hg := fun _ _ _ _ _ => pg_name hN rfl (Or.inl rfl)) L tT tT (fun z => decide (V.int z.1 = V.int number)) 9 rfl hN (xi_tup (xv 6 rfl ⟨_, rfl, rfl, by omega, ⟨_, .inl rfl, _, _, rfl, rfl, rfl, fun h => ?_, fun h => xss_nil ⟨rfl, _, _, _, _, rfl⟩⟩, fun z hz s H C cl fp => xts_one (xt_eq (xe_ix (fun _ _ => rfl) (xv 9 rfl (xe_int ⟨_, 0, _, .inr rfl, rfl, by decide, rfl, xv 7 rfl ⟨_, _, rfl, rfl, rfl, rfl, rfl, fun _ s H C cl fp => xv 9 rfl ⟨rfl, rfl⟩⟩⟩))))⟩)))))))
      rw [List.length_map, hfil number, hM, ← hc, decide_eq_true rfl] at h
      cases h
    · exact xss_nil ⟨rfl, _, _, _, _, rfl⟩
    · exact xss_nil ⟨rfl, _, _, _, _, rfl⟩
  · rintro t3 env ⟨rfl, z4, z7, z8, z9, rfl⟩
    rw [rgD_len]
    exact xss_one (xs_ret (xe_bl (q _ (by omega))))
end
end BS

set_option Elab.async false
set_option linter.all false
set_option maxRecDepth 100000
set_option maxHeartbeats 4000000
/-! the walks: the law's jar and the law -/
namespace BS
open PySem PySem.Spec PyProof.Rows L2
section
variable {X : Cx} {a b : Expr} {t : Nat} {env : List Sl} {p2 pos : Pos}
/-- xs[:i] of the script -/
theorem xe_cutF {Q : Nat → D → Prop} (h : XE X a t env fun t1 x => XE X b t1 env fun t2 y => ∃ ns i, x = .fz X.K ns ∧ y = .int i ∧ 0 ≤ i ∧ Q t2 (.lst ((ns.take i.toNat).map D.int))) : XE X (.Subscript a (.Slice none (some b) none p2) pos) t env Q := fun J G0 H0 G H σ S => by
  refine WE.of (pe_slice sl_list pe_w po_none (po_some pe_w)) ((h J G0 H0 G H σ S).mono fun v H1 ⟨G1, t1, x, e1, S1, r1, q1⟩ => ?_)
  refine (q1 J G0 H0 G1 H1 σ S1).mono fun u H2 ⟨G2, t2, y, e2, S2, r2, ns, i, ex, ey, i0, q2⟩ => ?_
  subst ex ey
  obtain ⟨a, ev, r1⟩ := r1.mono e2
  obtain rfl : u = .int i := r2
  refine ⟨i, rfl, a, ns.map V.int, ev, sqL_same S2.sub r1, fun p np => alloc_e (d := .lst ((ns.take i.toNat).map D.int)) (e1.trans e2) S2 np ⟨p, _, rfl, upd_same, ?_⟩ q2⟩
  have e : cutV (ns.map V.int) none (some i) = (ns.take i.toNat).map V.int := by
    unfold cutV
    rw [HT.sIx_none, show i = ((i.toNat : Nat) : Int) by omega, HT.sIx_nat, Int.toNat_natCast, List.drop_zero, Nat.sub_zero, List.map_take, List.take_eq_take_iff]
    omega
  rw [e]
  exact RepL.of_ints _
end
section
variable {P : Program} {w : World} {K : PySem.W.Frag} {mg : Str → Option Value} {base : Heap}
theorem sc_law_jar : FnScope ["_law_script", "_law_cell"] ["_law_script"] (defScope s_law_jar) := ⟨rfl, rfl, rfl, by decide +kernel, rfl, by decide +kernel, by decide +kernel⟩
def S_law_jar (K : PySem.W.Frag) : SpT := fun ds t Q => ∃ ns : List Int, ds = [.fz K ns] ∧ ∀ cells : List Int, Q t (.lst [.lst (cells.map D.int), .int 0, .int 0])
theorem w_law_jar (hd : HF K mg) : Fn P w K mg base 1 "_law_jar" [] (S_law_jar K) := by
  refine mkF hd.d_law_jar sc_law_jar (fun ds t Q h => by obtain ⟨_, rfl, _⟩ := h; rfl) (fun _ _ _ _ _ _ us hl => match us, hl with | [_], _ => rfl) fun f cdv A outer s H E hr ds t Q h => ?_
  have hN := sc_law_jar.nd
  obtain ⟨ns, rfl, q⟩ := h
  refine xss_one (xs_ret (xe_l (xl_lst (xa_cons (xe_lcM (hb := rfl) (hg := fun _ _ _ _ _ => pg_name hN rfl (Or.inl rfl)) (ns.take 55) D.int D.int 1 rfl hN (xi_lst (xe_cutF (xv 0 rfl (xe_int ⟨ns, 55, rfl, rfl, by decide, _, rfl, rfl, ?_, xa_cons (xe_int (xa_cons (xe_int (xa_nil ⟨Nat.le_of_ble_eq_true rfl, q _⟩)))), fun n hn s H C cl fp => xe_int1 hd.f_int (xv 1 rfl (.inl ⟨_, rfl, rfl, rfl⟩))⟩)))))))))
  rw [List.length_take]
  omega
end
section
variable {w : World} {K : PySem.W.Frag} {mg : Str → Option Value} {base : Heap}
theorem sc_law : FnScope ["_law_script", "_law_jar_here", "_law_lap", "_law_turn", "_law_one", "_law_flat", "_law_number"] ["_law_script"] (defScope s_law) := ⟨rfl, rfl, rfl, by decide +kernel, rfl, by decide +kernel, by decide +kernel⟩
def spLaw (K : PySem.W.Frag) : Sp := fun vs H Q E => ∃ (a : Addr) (ns : List Int), vs = [.ref a] ∧ SqL K H a (ns.map V.int) ∧ ∀ H', Q (.bl true) H'
/-- the new list becomes the jar -/
theorem adopt {G0 H0 G H : Hp} {t : Nat} {σ : L2.St} {env : List Sl} {cells : List Int} (S : Stt none G0 H0 G H t σ env) (e : env[1]? = some (.d (.lst [.lst (cells.map D.int), .int 0, .int 0]))) (hl : env.length = 7) :
    ∃ p G2, Stt (some p) G2 (fun _ => none) G2 H t σ [.any, .d .jar, .any, .any, .any, .any, .any] := by
  obtain ⟨v, hv, p, xs, rfl, h1, x0, r0, rfl, ⟨c, ys, rfl, h2, r2⟩, x1, r1, rfl, r3, x2, r4, rfl, r5, r6⟩ := S.val 1 _ e
  obtain rfl : x1 = .int 0 := r3
  obtain rfl : x2 = .int 0 := r5
  obtain rfl : r4 = [] := r6
  obtain rfl := r2.ints
  have hcp : c ≠ p := fun e => by
    subst e
    rw [h1] at h2
    injection h2 with h2
    injection h2 with h2
    cases cells with
    | nil => cases h2
    | cons a b =>
      injection h2 with h2 _
      cases h2
  refine ⟨p, fun b => if b = p then none else G b, ⟨Same.refl _, nofun, nofun⟩, fun b o e => ?_, fun j e => ?_, by rw [S.len, hl] <;> rfl, fun i d e => ?_, fun i c e => ?_, fun i k c c' q e => ?_⟩
  · have e' : (if b = p then none else G b) = some o := e
    by_cases hb : b = p
    · rw [if_pos hb] at e'; cases e'
    · rw [if_neg hb] at e'; exact S.sub _ _ e'
  · injection e with e
    subst e
    exact ⟨c, 0, 0, cells, S.sub _ _ h1, by rw [if_neg hcp]; exact h2, if_pos rfl, by decide, by omega, by decide⟩
  · match i, e with
    | 1, e =>
      injection e with e
      injection e with e
      subst e
      exact ⟨.ref p, hv, p, rfl, rfl⟩
    | 0, e => cases e
    | 2, e => cases e
    | 3, e => cases e
    | 4, e => cases e
    | 5, e => cases e
    | 6, e => cases e
    | n + 7, e => cases e
  · match i, e with
    | 1, e => cases e
    | 0, e => cases e
    | 2, e => cases e
    | 3, e => cases e
    | 4, e => cases e
    | 5, e => cases e
    | 6, e => cases e
    | n + 7, e => cases e
  · match i, e with
    | 1, e => cases e
    | 0, e => cases e
    | 2, e => cases e
    | 3, e => cases e
    | 4, e => cases e
    | 5, e => cases e
    | 6, e => cases e
    | n + 7, e => cases e
theorem placeA : PlaceOk (-1) 2 2 3 0 := ⟨by decide, by decide, by decide, by decide, ⟨by decide, by decide, by decide, by decide, by decide, by decide, by decide, by decide, by decide⟩, by decide, by decide⟩
theorem placeB : PlaceOk 1 0 0 1 0 := ⟨by decide, by decide, by decide, by decide, ⟨by decide, by decide, by decide, by decide, by decide, by decide, by decide, by decide, by decide⟩, by decide, by decide⟩
theorem w_law_rest (hd : HF K mg) (hs : HS K mg) (mf : MF) (f : Addr) (cdv : Value) (A : Around) (outer : List Env) (s : Shared) (H : Hp) (E : XK) (hr : Room 10 (CxB prog0 w K mg base ["_law_script", "_law_jar_here", "_law_lap", "_law_turn", "_law_one", "_law_flat", "_law_number"] "law" s_law f cdv A outer s H E).A) :
    XSs (CxB prog0 w K mg base ["_law_script", "_law_jar_here", "_law_lap", "_law_turn", "_law_one", "_law_flat", "_law_number"] "law" s_law f cdv A outer s H E) ((defBody s_law).drop 1) 0 [.any, .d .jar, .any, .any, .any, .any, .any] (fun _ _ => False) (fun _ _ d => d = .bl true) := by
  have hN := sc_law.nd
  refine xss_cons (xs_for PassesOwn.never rfl (xi_rg1 hd.f_range (xe_int ⟨2, rfl, by decide, fun i t env => t ≤ 500 * i ∧ ∃ z2 z3 z4 z5 z6, env = [.any, .d .jar, z2, z3, z4, z5, z6], ⟨Nat.zero_le _, _, _, _, _, _, rfl⟩, ?_, ?_⟩)))
  · rintro i d t env hi ⟨ht, z2, z3, z4, z5, z6, rfl⟩
    obtain ⟨hi1, rfl⟩ := rgD_at hi
    refine xg_name 2 hN ?_
    refine xss_cons (XS.mono (Q := fun t1 env1 => t1 = t + 2 ∧ ∃ n : Nat, 0 < n ∧ n ≤ 12 ∧ env1 = [.any, .d .jar, .d (.int (0 + (i : Int))), z3, z4, z5, .d (.int n)]) ?_ ?_ fun _ _ _ r => r)
    · refine xs_set 6 hN (xe_add (xe_int (xe_call (w_law_lot hd) (hr.mono (by decide)) (xa_cons (xv 1 rfl (xa_cons (xe_call (w_law_take hd) (hr.mono (by decide)) (xa_cons (xv 1 rfl (xa_cons (xe_l (xl_lst (xa_cons (xe_int (xa_cons (xe_int (xa_cons (xe_int (xa_nil ⟨Nat.le_of_ble_eq_true rfl, xa_nil ⟨_, _, rfl, .inl rfl, by decide, by decide, by omega, fun e he => ?_⟩⟩)))))))))))))))))))
      obtain ⟨k, k0, k1, rfl⟩ : ∃ k : Int, 0 < k ∧ k ≤ 12 ∧ e = .int k := by
        rcases List.mem_cons.mp he with rfl | he
        · exact ⟨4, by decide, by decide, rfl⟩
        rcases List.mem_cons.mp he with rfl | he
        · exact ⟨8, by decide, by decide, rfl⟩
        rcases List.mem_cons.mp he with rfl | he
        · exact ⟨12, by decide, by decide, rfl⟩
        cases he
      refine xa_nil ⟨k, rfl, k0, by omega, by omega, fun r r0 r1 => I2.mk ⟨rfl, (1 + r).toNat, by omega, by omega, ?_⟩⟩
      rw [show (((1 + r).toNat : Nat) : Int) = 1 + r by omega]
      rfl
    rintro t1 env1 ⟨rfl, n, n0, n1, rfl⟩
    refine xss_cons (XS.mono (Q := fun t2 env2 => t2 ≤ t + 110 ∧ env2 = [.any, .d .jar, .d (.int (0 + (i : Int))), z3, z4, z5, .d (.int n)]) ?_ ?_ fun _ _ _ r => r)
    · refine xs_if (xt_not (xt_val (xe_call (w_law_rim_right hd mf) (hr.mono (by decide)) (xa_cons (xv 1 rfl (xa_cons (xv 6 rfl (xa_cons (xe_call (w_law_take hd) (hr.mono (by decide)) (xa_cons (xv 1 rfl (xa_cons (xe_l (xl_lst (xa_cons (xe_int (xa_cons (xe_int (xa_cons (xe_int (xa_nil ⟨Nat.le_of_ble_eq_true rfl, xa_nil ⟨_, _, rfl, .inl rfl, by decide, by decide, by omega, fun e he => ?_⟩⟩)))))))))))))))))))))
      obtain ⟨k, k0, k1, rfl⟩ : ∃ k : Int, 1 ≤ k ∧ k ≤ 60 ∧ e = .int k := by
        rcases List.mem_cons.mp he with rfl | he
        · exact ⟨20, by decide, by decide, rfl⟩
        rcases List.mem_cons.mp he with rfl | he
        · exact ⟨40, by decide, by decide, rfl⟩
        rcases List.mem_cons.mp he with rfl | he
        · exact ⟨60, by decide, by decide, rfl⟩
        cases he
      exact xa_nil ⟨n, k, rfl, n0, n1, k0, k1, by omega, fun t2 h2 => ⟨true, rfl, nofun, fun _ => xss_nil ⟨by omega, rfl⟩⟩⟩
    rintro t2 env2 ⟨h2, rfl⟩
    refine xss_one (xs_for PassesOwn.never rfl (xi_rg1 hd.f_range (xe_int ⟨2, rfl, by decide, fun j t3 env => t3 ≤ t + 110 + 100 * j ∧ ∃ z3, env = [.any, .d .jar, .d (.int (0 + (i : Int))), z3, z4, z5, .d (.int n)], ⟨h2, _, rfl⟩, ?_, ?_⟩)))
    · rintro j d t3 env hj ⟨h3, z3, rfl⟩
      obtain ⟨hj1, rfl⟩ := rgD_at hj
      refine xg_name 3 hN ?_
      exact xss_one (xs_if (xt_not (xt_val (xe_call (w_law_circle_right hd hs mf) (hr.mono (by decide)) (xa_cons (xv 1 rfl (xa_nil ⟨rfl, by omega, fun t4 h4 => ⟨true, rfl, nofun, fun _ => xss_nil ⟨by omega, _, rfl⟩⟩⟩)))))))
    · rintro t3 env ⟨h3, z3, rfl⟩
      rw [rgD_len] at h3
      exact ⟨by omega, _, _, _, _, _, rfl⟩
  · rintro t env ⟨ht, z2, z3, z4, z5, z6, rfl⟩
    obtain ⟨m1, m2, m3, m5, m6⟩ := mf.ones
    refine xss_cons (XS.mono (Q := fun t1 env1 => t1 = t ∧ env1 = [.any, .d .jar, z2, z3, .d (fourD K [-1, 2, 2, 3]), .d (fourD K [1, 0, 0, 1]), z6]) ?_ ?_ fun _ _ _ r => r)
    · exact xs_asg (xe_tup (xa_cons (xe_make (w_Four_init hd) (hr.mono (by decide)) (xa_cons (xe_l (xl_lst (xa_cons (xe_neg (xe_int ⟨_, rfl, xa_cons (xe_int (xa_cons (xe_int (xa_cons (xe_int (xa_nil ⟨Nat.le_of_ble_eq_true rfl, xa_nil ⟨_, [-1, 2, 2, 3], rfl, .inl rfl, ⟨rfl, rfl, by decide, by decide, by decide⟩, xa_cons (xe_make (w_Four_init hd) (hr.mono (by decide)) (xa_cons (xe_l (xl_lst (xa_cons (xe_int (xa_cons (xe_int (xa_cons (xe_int (xa_cons (xe_int (xa_nil ⟨Nat.le_of_ble_eq_true rfl, xa_nil ⟨_, [1, 0, 0, 1], rfl, .inl rfl, ⟨rfl, rfl, by decide, by decide, by decide⟩, xa_nil ⟨Nat.le_of_ble_eq_true rfl, xg_tup rfl (xgs_cons (xg_name 4 hN (xgs_cons (xg_name 5 hN (xgs_nil ⟨rfl, rfl⟩)))))⟩⟩⟩)))))))))))))⟩⟩))))))⟩)))))))))
    rintro t1 env1 ⟨rfl, rfl⟩
    refine xss_one (xs_ret (xe_and (xe_eqD hr.units (xe_lcM (hb := rfl) (hg := fun _ _ _ _ _ => pg_name hN rfl (Or.inl rfl)) [2, 3, 4, 6] D.int (fun k => D.int (manyF (-1) (k + -1) (1, 0, 1))) 6 rfl hN (xi_tup (xe_tup (xa_cons (xe_int (xa_cons (xe_int (xa_cons (xe_int (xa_cons (xe_int (xa_nil ⟨Nat.le_of_ble_eq_true rfl, _, rfl, rfl, by decide, ?_, fun k hk s H C cl fp => ?_⟩)))))))))))))))
    · have e : (List.map (fun k => D.int (manyF (-1) (k + -1) (1, 0, 1))) [2, 3, 4, 6]) = ([2, 2, 0, 4] : List Int).map D.int := by
        show [D.int (manyF (-1) 1 (1, 0, 1)), D.int (manyF (-1) 2 (1, 0, 1)), D.int (manyF (-1) 3 (1, 0, 1)), D.int (manyF (-1) 5 (1, 0, 1))] = _
        rw [m1, m2, m3, m5]
        rfl
      rw [e]
      refine xe_l (xl_lst (xa_cons (xe_int (xa_cons (xe_int (xa_cons (xe_int (xa_cons (xe_int (xa_nil ⟨Nat.le_of_ble_eq_true rfl, EqD.lsts (ns := [2, 2, 0, 4]) (ms := [2, 2, 0, 4]) ⟨_, rfl, fun _ => xe_one (xe_eq ?_), ?_⟩⟩))))))))))
      rotate_left
      · exact fun h => absurd h (by decide)
      refine xe_call (w_many_touching hd) (hr.mono (by decide)) (xa_cons (xv 5 rfl (xa_cons (xe_int (xa_cons (xe_int (xa_nil ⟨1, 0, 0, 1, 0, 1, rfl, placeB, by decide, by decide, xe_int ⟨_, _, rfl, rfl, rfl, ?_⟩⟩)))))))
      show D.bl (decide (V.int (manyF 1 2 (1, 0, 1)) = V.int 2)) = .bl true
      rw [m6]
      rfl
    · have hk1 : 2 ≤ k ∧ k ≤ 6 := by
        rcases List.mem_cons.mp hk with rfl | hk
        · decide
        rcases List.mem_cons.mp hk with rfl | hk
        · decide
        rcases List.mem_cons.mp hk with rfl | hk
        · decide
        rcases List.mem_cons.mp hk with rfl | hk
        · decide
        cases hk
      exact xe_call (w_many_touching hd) (hr.mono (by decide)) (xa_cons (xv 4 rfl (xa_cons (xe_int (xa_cons (xv 6 rfl (xa_nil ⟨-1, 2, 2, 3, 0, k, rfl, placeA, show 1 - -1 ≤ k by omega, show k ≤ 2000 - -1 by omega, rfl, rfl⟩)))))))
theorem w_law (hd : HF K mg) (hs : HS K mg) (mf : MF) {f : Addr} {fd : FuncData} (F : FunD K "law" "law" (defArgs s_law) (defBody s_law) (defScope s_law) [] [] f fd) : FnOk prog0 w K mg base CX0 11 f fd ["_law_script"] (spLaw K) := by
  refine F.ok sc_law (fun vs H Q E h => by obtain ⟨_, _, rfl, _⟩ := h; rfl) (fun cdv A outer s H vs Q E hr h => ?_)
  obtain ⟨a, ns, rfl, hS, q⟩ := h
  have hN := sc_law.nd
  have S0 : Stt none H H H H 0 (L2.start ["_law_script", "_law_jar_here", "_law_lap", "_law_turn", "_law_one", "_law_flat", "_law_number"] [.ref a]) (startE ["_law_script", "_law_jar_here", "_law_lap", "_law_turn", "_law_one", "_law_flat", "_law_number"] [.fz K ns]) :=
    start_stt (Same.refl _) (fun j e => nomatch e) ⟨.ref a, [], rfl, ⟨a, rfl, hS⟩, rfl⟩ (Nat.le_of_ble_eq_true rfl)
  refine ⟨WSs (CxB prog0 w K mg base ["_law_script", "_law_jar_here", "_law_lap", "_law_turn", "_law_one", "_law_flat", "_law_number"] "law" s_law f cdv A outer s H E) (defBody s_law), PSs.nox pss_w, ?_⟩
  have hb : defBody s_law = (defBody s_law).head (by decide) :: (defBody s_law).drop 1 := rfl
  rw [hb]
  refine WSs.of (pss_cons ps_w pss_w) ?_
  have st1 : XS (CxB prog0 w K mg base ["_law_script", "_law_jar_here", "_law_lap", "_law_turn", "_law_one", "_law_flat", "_law_number"] "law" s_law f cdv A outer s H E) ((defBody s_law).head (by decide)) 0 (startE ["_law_script", "_law_jar_here", "_law_lap", "_law_turn", "_law_one", "_law_flat", "_law_number"] [.fz K ns])
      (fun t1 env1 => t1 = 0 ∧ env1.length = 7 ∧ ∃ cells : List Int, env1[1]? = some (.d (.lst [.lst (cells.map D.int), .int 0, .int 0]))) (fun _ _ _ => False) :=
    xs_set 1 hN (xe_call (w_law_jar hd) (hr.mono (by decide)) (xa_cons (xv 0 rfl (xa_nil ⟨ns, rfl, fun cells => ⟨rfl, rfl, cells, rfl⟩⟩))))
  refine (st1 none H H H H _ S0).mono (fun σ' H' ⟨G', t', env', e1, S1, et, hl, cells, he⟩ => ?_) (fun v H' ⟨_, _, _, _, _, _, _, h⟩ => h.elim) (fun _ _ z => z) fun _ _ z => z
  subst et
  obtain ⟨p, G2, S2⟩ := adopt S1 he hl
  refine (w_law_rest hd hs mf f cdv A outer s H E hr (some p) G2 (fun _ => none) G2 H' σ' S2).mono (fun σ H3 ⟨_, _, _, _, _, h⟩ => h.elim) (fun v H3 ⟨G3, t3, σ3, env3, d, S3, r3, e⟩ => ?_) (fun _ _ z => z) fun _ _ z => z
  subst e
  obtain rfl : v = .bl true := r3
  exact q H3
end
end BS

set_option Elab.async false
set_option linter.all false
set_option maxRecDepth 100000
/-! plain: counting, automorphisms, roots and pairs -/
namespace BS
open PySem
/-! ### counting -/
theorem split_len {α : Type} (p : α → Bool) : ∀ L : List α, L.length = (L.filter p).length + (L.filter fun a => !p a).length
  | [] => rfl
  | a :: L => by
    have ih := split_len p L
    cases h : p a with
    | true =>
      rw [List.filter_cons_of_pos h, List.filter_cons_of_neg (by rw [h]; exact Bool.false_ne_true), List.length_cons, List.length_cons]
      omega
    | false =>
      rw [List.filter_cons_of_neg (by rw [h]; exact Bool.false_ne_true), List.filter_cons_of_pos (by rw [h] <;> rfl), List.length_cons, List.length_cons]
      omega
theorem sum_fib {α β : Type} [DecidableEq β] (g : α → β) : ∀ (K : List β) (L : List α), K.Nodup → (∀ a ∈ L, g a ∈ K) → (K.map fun k => (L.filter fun a => decide (g a = k)).length).sum = L.length
  | [], L, _, h => by
    cases L with
    | nil => rfl
    | cons a L => exact absurd (h a (List.mem_cons_self ..)) List.not_mem_nil
  | k :: K, L, nd, h => by
    obtain ⟨n1, n2⟩ := List.nodup_cons.mp nd
    rw [List.map_cons, List.sum_cons, split_len (fun a => decide (g a = k)) L]
    have ih := sum_fib g K (L.filter fun a => !decide (g a = k)) n2 fun a ha => by
      obtain ⟨h1, h2⟩ := List.mem_filter.mp ha
      rcases List.mem_cons.mp (h a h1) with e | e
      · rw [decide_eq_true e] at h2
        cases h2
      · exact e
    rw [← ih]
    congr 2
    refine List.map_congr_left fun k' hk' => ?_
    rw [List.filter_filter]
    congr 1
    refine List.filter_congr fun a _ => ?_
    by_cases e : g a = k'
    · have : ¬ g a = k := fun e2 => n1 (e2 ▸ e ▸ hk')
      rw [decide_eq_true e, decide_eq_false this]
      rfl
    · rw [decide_eq_false e]
      rfl
theorem sum_const {β : Type} (f : β → Nat) (μ : Nat) : ∀ K : List β, (∀ k ∈ K, f k = μ) → (K.map f).sum = K.length * μ
  | [], _ => by rw [List.length_nil, Nat.zero_mul] <;> rfl
  | k :: K, h => by
    rw [List.map_cons, List.sum_cons, sum_const f μ K fun k' hk => h k' (List.mem_cons_of_mem _ hk), h k (List.mem_cons_self ..), List.length_cons, Nat.succ_mul, Nat.add_comm]
theorem len_fib {α β : Type} [DecidableEq β] (g : α → β) (μ : Nat) (K : List β) (L : List α) (nd : K.Nodup) (h : ∀ a ∈ L, g a ∈ K) (hf : ∀ k ∈ K, (L.filter fun a => decide (g a = k)).length = μ) : L.length = K.length * μ := by
  rw [← sum_fib g K L nd h]
  exact sum_const _ μ K hf
theorem len_one {α : Type} {l : List α} (h : l.Nodup) {a : α} (hm : ∀ x, x ∈ l ↔ x = a) : l.length = 1 := by
  cases l with
  | nil => exact absurd ((hm a).mpr rfl) List.not_mem_nil
  | cons x l =>
    cases l with
    | nil => rfl
    | cons y l =>
      have e1 := (hm x).mp (List.mem_cons_self ..)
      have e2 := (hm y).mp (List.mem_cons_of_mem _ (List.mem_cons_self ..))
      exact absurd (e1.trans e2.symm) fun e => (List.nodup_cons.mp h).1 (e ▸ List.mem_cons_self ..)
theorem len_two {α : Type} {l : List α} (h : l.Nodup) {a b : α} (hab : a ≠ b) (hm : ∀ x, x ∈ l ↔ x = a ∨ x = b) : l.length = 2 := by
  cases l with
  | nil => exact absurd ((hm a).mpr (.inl rfl)) List.not_mem_nil
  | cons x l =>
    obtain ⟨n1, n2⟩ := List.nodup_cons.mp h
    have : l.length = 1 := by
      rcases (hm x).mp (List.mem_cons_self ..) with rfl | rfl
      · refine len_one n2 (a := b) fun y => ⟨fun hy => ?_, fun hy => ?_⟩
        · rcases (hm y).mp (List.mem_cons_of_mem _ hy) with rfl | rfl
          · exact absurd hy n1
          · rfl
        · subst hy
          rcases List.mem_cons.mp ((hm y).mpr (.inr rfl)) with e | e
          · exact absurd e.symm hab
          · exact e
      · refine len_one n2 (a := a) fun y => ⟨fun hy => ?_, fun hy => ?_⟩
        · rcases (hm y).mp (List.mem_cons_of_mem _ hy) with rfl | rfl
          · rfl
          · exact absurd hy n1
        · subst hy
          rcases List.mem_cons.mp ((hm y).mpr (.inl rfl)) with e | e
          · exact absurd e hab
          · exact e
    rw [List.length_cons, this]
/-! ### forms -/
theorem Act.disc2 {f h l a b c p q r s : Int} (A : Act f h l a b c p q r s) : a * c - b * b = f * l - h * h := by
  obtain ⟨rfl, rfl, rfl, det⟩ := A
  have : (f * l - h * h) * ((p * s - q * r) * (p * s - q * r)) = f * l - h * h := by rw [det]; grind
  grind
theorem bez : ∀ (n : Nat) (x y : Int), y.natAbs ≤ n → Nat.gcd x.natAbs y.natAbs = 1 → ∃ u v, x * v - u * y = 1
  | n, x, y, hn, hg => by
    by_cases hy : y = 0
    · subst hy
      rw [show (0 : Int).natAbs = 0 from rfl, Nat.gcd_zero_right] at hg
      refine ⟨0, x, ?_⟩
      rw [Int.zero_mul, Int.sub_zero, ← Int.natAbs_mul_self' x, hg]
      rfl
    · match n, hn with
      | 0, hn => omega
      | n + 1, hn =>
        have h1 := Int.emod_nonneg x hy
        have h2 := Int.emod_lt x hy
        have e : x % y + y * (x / y) = x := Int.emod_add_mul_ediv x y
        obtain ⟨u, v, h⟩ := bez n y (x % y) (by omega) (by
          rw [← hg]
          refine Nat.dvd_antisymm (Nat.dvd_gcd ?_ (Nat.gcd_dvd_left _ _)) (Nat.dvd_gcd (Nat.gcd_dvd_right _ _) ?_)
          · rw [← Int.ofNat_dvd_left]
            have d1 : ((Nat.gcd y.natAbs (x % y).natAbs : Nat) : Int) ∣ y := Int.ofNat_dvd_left.mpr (Nat.gcd_dvd_left _ _)
            have d2 : ((Nat.gcd y.natAbs (x % y).natAbs : Nat) : Int) ∣ x % y := Int.ofNat_dvd_left.mpr (Nat.gcd_dvd_right _ _)
            have d3 := Int.dvd_add d2 (Int.dvd_trans d1 (Int.dvd_mul_right y (x / y)))
            rw [e] at d3
            exact d3
          · rw [← Int.ofNat_dvd_left]
            have d1 : ((Nat.gcd x.natAbs y.natAbs : Nat) : Int) ∣ x := Int.ofNat_dvd_left.mpr (Nat.gcd_dvd_left _ _)
            have d2 : ((Nat.gcd x.natAbs y.natAbs : Nat) : Int) ∣ y := Int.ofNat_dvd_left.mpr (Nat.gcd_dvd_right _ _)
            rw [show x % y = x - y * (x / y) by omega]
            exact Int.dvd_sub d1 (Int.dvd_trans d2 (Int.dvd_mul_right y (x / y))))
        refine ⟨-(v + u * (x / y)), -u, ?_⟩
        rw [show x % y = x - y * (x / y) by omega] at h
        grind
theorem prim_of {x y u v : Int} (h : x * v - u * y = 1) : Nat.gcd x.natAbs y.natAbs = 1 := by
  have d1 : ((Nat.gcd x.natAbs y.natAbs : Nat) : Int) ∣ x := Int.ofNat_dvd_left.mpr (Nat.gcd_dvd_left _ _)
  have d2 : ((Nat.gcd x.natAbs y.natAbs : Nat) : Int) ∣ y := Int.ofNat_dvd_left.mpr (Nat.gcd_dvd_right _ _)
  have d3 : ((Nat.gcd x.natAbs y.natAbs : Nat) : Int) ∣ 1 := h ▸ Int.dvd_sub (Int.dvd_trans d1 (Int.dvd_mul_right x v)) (Int.dvd_trans d2 (Int.dvd_mul_left u y))
  exact Nat.dvd_one.mp (Int.ofNat_dvd.mp d3)
end BS

set_option Elab.async false
set_option linter.all false
set_option maxRecDepth 100000
/-! plain: automorphisms; roots and pairs -/
namespace BS
open PySem
/-- the equations of an automorphism -/
theorem aut_eqs {f h l p q r s : Int} (A : Act f h l f h l p q r s) : f * (p - s) + 2 * h * r = 0 ∧ f * q + l * r = 0 ∧ l * (s - p) + 2 * h * q = 0 := by
  obtain ⟨e1, e2, e3, det⟩ := A
  have z1 : f * (p - s) + 2 * h * r = (f * p * p + 2 * h * p * r + l * r * r) * (p - s) + 2 * (f * p * q + h * (p * s + q * r) + l * r * s) * r - ((f * p * p + 2 * h * p * r + l * r * r) * (p - s) + 2 * (f * p * q + h * (p * s + q * r) + l * r * s) * r) + (f * (p - s) + 2 * h * r) := by omega
  refine ⟨?_, ?_, ?_⟩
  · have : f * p + h * r = f * s - h * r := by
      have a1 : s * (f * p * p + 2 * h * p * r + l * r * r) - r * (f * p * q + h * (p * s + q * r) + l * r * s) = (f * p + h * r) * (p * s - q * r) := by grind
      rw [← e1, ← e2, det] at a1
      grind
    grind
  · have a1 : s * (f * p * q + h * (p * s + q * r) + l * r * s) - r * (f * q * q + 2 * h * q * s + l * s * s) = (f * q + h * s) * (p * s - q * r) := by grind
    rw [← e2, ← e3, det] at a1
    grind
  · have a1 : p * (f * q * q + 2 * h * q * s + l * s * s) - q * (f * p * q + h * (p * s + q * r) + l * r * s) = (h * q + l * s) * (p * s - q * r) := by grind
    rw [← e2, ← e3, det] at a1
    grind
theorem no_sqrt3 : ∀ (n : Nat) (x y : Nat), x ≤ n → x * x = 3 * (y * y) → x = 0
  | 0, x, y, hx, _ => by omega
  | n + 1, x, y, hx, h => by
    have h1 : x % 3 = 0 := by
      have : (x * x) % 3 = 0 := by rw [h]; omega
      rw [Nat.mul_mod] at this
      have h3 : x % 3 < 3 := Nat.mod_lt _ (by decide)
      generalize x % 3 = k at *
      match k, h3 with
      | 0, _ => rfl
      | 1, _ => simp at this
      | 2, _ => simp at this
    obtain ⟨z, rfl⟩ : ∃ z, x = 3 * z := ⟨x / 3, by omega⟩
    have h2 : y * y = 3 * (z * z) := by
      have : 9 * (z * z) = 3 * (y * y) := by rw [← h]; grind
      omega
    rcases Nat.eq_zero_or_pos z with e | e
    · subst e; rfl
    · have hy : y = 0 := no_sqrt3 n y z (by
        have : y * y < (3 * z) * (3 * z) := by
          rw [h]
          rcases Nat.eq_zero_or_pos y with e2 | e2
          · subst e2
            have : z * z = 0 := by omega
            have : 0 < z * z := Nat.mul_pos e e
            omega
          · have : 0 < y * y := Nat.mul_pos e2 e2
            omega
        have := Nat.mul_self_lt_mul_self_iff.mp this
        omega) h2
      subst hy
      have : 0 < z * z := Nat.mul_pos e e
      omega
theorem sq3 {x y : Int} (h : x * x = 3 * (y * y)) : x = 0 := by
  have : x.natAbs * x.natAbs = 3 * (y.natAbs * y.natAbs) := by
    have := abs_sq x
    have := abs_sq y
    omega
  have := no_sqrt3 _ _ _ (Nat.le_refl _) this
  omega
/-- the automorphisms of a form of square discriminant -/
theorem aut_cases {f h l n p q r s : Int} (hf : 0 < f) (hd : f * l - h * h = n * n) (hn : n ≠ 0) (hg : gcdL [f, h, l] = 1) (A : Act f h l f h l p q r s) :
    (p = 1 ∧ q = 0 ∧ r = 0 ∧ s = 1) ∨ (p = -1 ∧ q = 0 ∧ r = 0 ∧ s = -1) ∨ (n * n = 1 ∧ ((p = -h ∧ q = -l ∧ r = f ∧ s = h) ∨ (p = h ∧ q = l ∧ r = -f ∧ s = -h))) := by
  obtain ⟨a1, a2, a3⟩ := aut_eqs A
  have det := A.det
  have key : f * f * (4 - (p + s) * (p + s)) = 4 * (n * r) * (n * r) := by
    have b1 : f * f * ((p - s) * (p - s)) = (2 * h * r) * (2 * h * r) := by
      have : f * (p - s) = -(2 * h * r) := by omega
      grind
    have b2 : f * f * (q * r) = -(f * l * r * r) := by
      have : f * q = -(l * r) := by omega
      grind
    grind
  have hT : (p + s) * (p + s) ≤ 4 := by
    rcases Int.lt_or_le 4 ((p + s) * (p + s)) with z | z
    · exfalso
      have h1 : 0 ≤ 4 * (n * r) * (n * r) := by
        have := sq_nonneg' (n * r)
        rw [Int.mul_assoc]
        omega
      have h2 : f * f * (4 - (p + s) * (p + s)) < 0 := Int.mul_neg_of_pos_of_neg (Int.mul_pos hf hf) (by omega)
      omega
    · exact z
  have hT2 : (p + s).natAbs ≤ 2 := by
    rcases Nat.lt_or_ge 2 (p + s).natAbs with z | z
    · have := abs_sq (p + s)
      have h3 : 3 * 3 ≤ (p + s).natAbs * (p + s).natAbs := Nat.mul_le_mul z z
      omega
    · exact z
  have hT3 : p + s = 2 ∨ p + s = -2 ∨ p + s = 1 ∨ p + s = -1 ∨ p + s = 0 := by omega
  have two : (p + s) * (p + s) = 4 → r = 0 ∧ q = 0 ∧ p = s := fun e => by
    rw [e] at key
    have h1 : (n * r) * (n * r) = 0 := by
      have h0 : f * f * (4 - 4) = 0 := Int.mul_zero _
      rw [h0, Int.mul_assoc] at key
      omega
    have h2 : n * r = 0 := by
      rcases Int.mul_eq_zero.mp h1 with z | z <;> exact z
    have h3 : r = 0 := (Int.mul_eq_zero.mp h2).resolve_left hn
    subst h3
    have h4 : f * q = 0 := by omega
    have h5 : f * (p - s) = 0 := by omega
    have h6 : q = 0 := (Int.mul_eq_zero.mp h4).resolve_left (by omega)
    have h7 : p - s = 0 := (Int.mul_eq_zero.mp h5).resolve_left (by omega)
    exact ⟨rfl, h6, by omega⟩
  have one : (p + s) * (p + s) = 1 → False := fun e => by
    rw [e] at key
    have h1 : (2 * (n * r)) * (2 * (n * r)) = 3 * (f * f) := by grind
    have h2 := sq3 h1
    have h3 : f * f = 0 := by
      rw [h2] at h1
      omega
    rcases Int.mul_eq_zero.mp h3 with z | z <;> omega
  rcases hT3 with e | e | e | e | e
  · obtain ⟨h1, h2, h3⟩ := two (by rw [e]; rfl)
    exact .inl ⟨by omega, h2, h1, by omega⟩
  · obtain ⟨h1, h2, h3⟩ := two (by rw [e]; rfl)
    exact .inr (.inl ⟨by omega, h2, h1, by omega⟩)
  · exact absurd (by rw [e]; rfl) one
  · exact absurd (by rw [e]; rfl) one
  · obtain rfl : s = -p := by omega
    have k1 : f * f = (n * r) * (n * r) := by
      rw [e] at key
      grind
    have k2 : f * p + h * r = 0 := by
      have : 2 * (f * p + h * r) = f * (p - -p) + 2 * h * r := by grind
      omega
    have k3 : l * p - h * q = 0 := by
      have : 2 * (h * q - l * p) = l * (-p - p) + 2 * h * q := by grind
      omega
    have hr : r ≠ 0 := fun z => by
      subst z
      have : f * f = 0 := by rw [k1, Int.mul_zero] <;> rfl
      rcases Int.mul_eq_zero.mp this with z | z <;> omega
    have k4 : (f - n * r) * (f + n * r) = 0 := by grind
    obtain ⟨e', he, hr2⟩ : ∃ e' : Int, e' * e' = n * n ∧ f = e' * r := by
      rcases Int.mul_eq_zero.mp k4 with z | z
      · exact ⟨n, rfl, by omega⟩
      · exact ⟨-n, by grind, by grind⟩
    subst hr2
    have kl : l = -(e' * q) := by
      have : r * (e' * q + l) = 0 := by grind
      have := (Int.mul_eq_zero.mp this).resolve_left hr
      omega
    have kh : h = -(e' * p) := by
      have : r * (e' * p + h) = 0 := by grind
      have := (Int.mul_eq_zero.mp this).resolve_left hr
      omega
    subst kl kh
    have hg1 : e'.natAbs = 1 := gcd3_dvd hg (by rw [Int.natAbs_dvd]; exact Int.dvd_mul_right _ _) (by rw [Int.natAbs_dvd, Int.dvd_neg]; exact Int.dvd_mul_right _ _) (by rw [Int.natAbs_dvd, Int.dvd_neg]; exact Int.dvd_mul_right _ _)
    have hee : e' = 1 ∨ e' = -1 := by omega
    refine .inr (.inr ⟨by rw [← he]; rcases hee with rfl | rfl <;> rfl, ?_⟩)
    rcases hee with rfl | rfl
    · exact .inl ⟨by omega, by omega, by omega, by omega⟩
    · exact .inr ⟨by omega, by omega, by omega, by omega⟩
end BS

set_option Elab.async false
set_option linter.all false
set_option maxRecDepth 100000
/-! plain: roots and pairs -/
namespace BS
open PySem
def formAt (f h l : Int) (z : Int × Int) : Int := f * z.1 * z.1 + 2 * h * z.1 * z.2 + l * z.2 * z.2
def RelK (f h l M : Int) (k : Nat) (z : Int × Int) : Prop := (k : Int) < M ∧ ∃ u v c, Act f h l M (k : Int) c z.1 u z.2 v
theorem rel_ex {f h l M : Int} {z : Int × Int} (hM : 0 < M) (hz : Nat.gcd z.1.natAbs z.2.natAbs = 1) (hw : formAt f h l z = M) : ∃ k, RelK f h l M k z := by
  obtain ⟨x, y⟩ := z
  obtain ⟨u, v, e⟩ := bez _ x y (Nat.le_refl _) hz
  have A : Act f h l M (f * x * u + h * (x * v + u * y) + l * y * v) (f * u * u + 2 * h * u * v + l * v * v) x u y v := ⟨hw.symm, rfl, rfl, e⟩
  generalize f * x * u + h * (x * v + u * y) + l * y * v = b at A
  have B := A.shift (-(b / M))
  have e2 : b + -(b / M) * M = b % M := by
    have := Int.emod_add_mul_ediv b M
    grind
  rw [e2] at B
  have h1 := Int.emod_nonneg b (show M ≠ 0 by omega)
  have h2 := Int.emod_lt_of_pos b hM
  refine ⟨(b % M).toNat, by omega, ?_⟩
  rw [show (((b % M).toNat : Nat) : Int) = b % M by omega]
  exact ⟨_, _, _, B⟩
theorem rel_uniq {f h l M : Int} {z : Int × Int} {k k' : Nat} (hM : 0 < M) (R : RelK f h l M k z) (R' : RelK f h l M k' z) : k = k' := by
  obtain ⟨h1, u, v, c, A⟩ := R
  obtain ⟨h2, u', v', c', B⟩ := R'
  obtain ⟨x, y⟩ := z
  have e1 := A.det
  have e2 := B.det
  have e3 : (k : Int) - k' = ((u - u') * v - u * (v - v')) * M := by
    have d1 : u - u' = x * ((u - u') * v - u * (v - v')) := by grind
    have d2 : v - v' = y * ((u - u') * v - u * (v - v')) := by grind
    have a1 := A.eb
    have b1 := B.eb
    have a0 := A.ea
    generalize (u - u') * v - u * (v - v') = t at *
    have e4 : u = u' + x * t := by omega
    have e5 : v = v' + y * t := by omega
    subst e4 e5
    grind
  generalize (u - u') * v - u * (v - v') = t at *
  have : t = 0 := by
    rcases Int.lt_trichotomy t 0 with z | z | z
    · have := Int.mul_le_mul_of_nonneg_right (show t ≤ -1 by omega) (Int.le_of_lt hM)
      omega
    · exact z
    · have := Int.mul_le_mul_of_nonneg_right (show 1 ≤ t by omega) (Int.le_of_lt hM)
      omega
  subst this
  omega
theorem RelK.prim {f h l M : Int} {z : Int × Int} {k : Nat} (R : RelK f h l M k z) : Nat.gcd z.1.natAbs z.2.natAbs = 1 ∧ formAt f h l z = M := by
  obtain ⟨h1, u, v, c, A⟩ := R
  exact ⟨prim_of A.det, A.ea.symm⟩
theorem RelK.neg {f h l M : Int} {z : Int × Int} {k : Nat} (R : RelK f h l M k z) : RelK f h l M k (-z.1, -z.2) := by
  obtain ⟨h1, u, v, c, ⟨a1, a2, a3, a4⟩⟩ := R
  exact ⟨h1, -u, -v, c, ⟨by grind, by grind, by grind, by grind⟩⟩
/-- the other of a class when n*n = 1 -/
def mate (f h l : Int) (z : Int × Int) : Int × Int := (-h * z.1 + -l * z.2, f * z.1 + h * z.2)
theorem aut_J {f h l : Int} (hd : f * l - h * h = 1) : Act f h l f h l (-h) (-l) f h := ⟨by grind, by grind, by grind, by grind⟩
theorem RelK.mate {f h l M : Int} {z : Int × Int} {k : Nat} (hd : f * l - h * h = 1) (R : RelK f h l M k z) : RelK f h l M k (mate f h l z) := by
  obtain ⟨h1, u, v, c, A⟩ := R
  exact ⟨h1, _, _, c, (aut_J hd).comp A⟩
theorem rel_cases {f h l n M : Int} {z z' : Int × Int} {k : Nat} (hf : 0 < f) (hd : f * l - h * h = n * n) (hn : n ≠ 0) (hg : gcdL [f, h, l] = 1) (hM : 0 < M) (R : RelK f h l M k z) (R' : RelK f h l M k z') :
    z' = z ∨ z' = (-z.1, -z.2) ∨ (n * n = 1 ∧ (z' = mate f h l z ∨ z' = (-(mate f h l z).1, -(mate f h l z).2))) := by
  obtain ⟨h1, u, v, c, A⟩ := R
  obtain ⟨h2, u', v', c', B⟩ := R'
  obtain ⟨x, y⟩ := z
  obtain ⟨x', y'⟩ := z'
  have hc : c = c' := by
    have e1 := A.disc2
    have e2 := B.disc2
    have e3 : M * (c - c') = 0 := by grind
    have := (Int.mul_eq_zero.mp e3).resolve_left (by omega)
    omega
  subst hc
  have C := B.comp A.inv
  have d1 := A.det
  have back1 : x' = (x' * v + u' * -y) * x + (x' * -u + u' * x) * y := by grind
  have back2 : y' = (y' * v + v' * -y) * x + (y' * -u + v' * x) * y := by grind
  rcases aut_cases hf hd hn hg C with ⟨e1, e2, e3, e4⟩ | ⟨e1, e2, e3, e4⟩ | ⟨hn1, ⟨e1, e2, e3, e4⟩ | ⟨e1, e2, e3, e4⟩⟩
  · refine .inl ?_
    rw [e1, e2] at back1
    rw [e3, e4] at back2
    exact Prod.ext (by show x' = x; omega) (by show y' = y; omega)
  · refine .inr (.inl ?_)
    rw [e1, e2] at back1
    rw [e3, e4] at back2
    exact Prod.ext (by show x' = -x; omega) (by show y' = -y; omega)
  · refine .inr (.inr ⟨hn1, .inl ?_⟩)
    rw [e1, e2] at back1
    rw [e3, e4] at back2
    exact Prod.ext back1 back2
  · refine .inr (.inr ⟨hn1, .inr ?_⟩)
    rw [e1, e2] at back1
    rw [e3, e4] at back2
    exact Prod.ext (by show x' = -(-h * x + -l * y); grind) (by show y' = -(f * x + h * y); grind)
end BS

set_option Elab.async false
set_option linter.all false
set_option maxRecDepth 100000
/-! plain: the number of pairs is the number of roots -/
namespace BS
open PySem
def LedAll : Prop := ∀ f h l : Int, 0 < f → 0 < f * l - h * h → ∃ a b c p q r s, Red a b c ∧ Act f h l a b c p q r s
noncomputable def rootK (n M f h l : Int) : List Nat := (List.range M.toNat).filter fun k => rootOk n M k && decide (redOf (rootT n M k) = redOf (f, h, l))
theorem rootK_len (n M f h l : Int) : ((rootsL n M).filter fun z => decide (redOf z = redOf (f, h, l))).length = (rootK n M f h l).length := by
  unfold rootsL rootK
  rw [List.filter_map, List.length_map, List.filter_filter]
  congr 1
  refine List.filter_congr fun k _ => ?_
  rw [Bool.and_comm]
  rfl
theorem rootOk_iff {n M : Int} {k : Nat} : rootOk n M k = true ↔ ((k : Int) * k + n * n) % M = 0 ∧ gcdL [M, (k : Int), ((k : Int) * k + n * n) / M] = 1 := by
  unfold rootOk
  rw [Bool.and_eq_true, decide_eq_true_iff, decide_eq_true_iff]
  exact ⟨fun ⟨a, b⟩ => ⟨by injection a, by injection b⟩, fun ⟨a, b⟩ => ⟨by rw [a], by rw [b]⟩⟩
theorem root_form {n M : Int} {k : Nat} (hM : 0 < M) (h : ((k : Int) * k + n * n) % M = 0) : M * (((k : Int) * k + n * n) / M) - (k : Int) * k = n * n := by
  have := Int.emod_add_mul_ediv ((k : Int) * k + n * n) M
  omega
theorem sq_pos' {n : Int} (hn : n ≠ 0) : 0 < n * n := by
  rcases Int.lt_or_gt_of_ne hn with z | z
  · exact Int.mul_pos_of_neg_of_neg z z
  · exact Int.mul_pos z z
theorem rootK_mem {f h l n M : Int} (led : LedAll) (hf : 0 < f) (hd : f * l - h * h = n * n) (hn : n ≠ 0) (hg : gcdL [f, h, l] = 1) (hM : 0 < M) (k : Nat) : k ∈ rootK n M f h l ↔ ∃ z, RelK f h l M k z := by
  unfold rootK
  rw [List.mem_filter, List.mem_range, Bool.and_eq_true, rootOk_iff, decide_eq_true_iff]
  have n2 := sq_pos' hn
  obtain ⟨a, b, c, p, q, r, s, red, act⟩ := led f h l hf (by omega)
  constructor
  · rintro ⟨h1, ⟨h2, h3⟩, h4⟩
    have hd2 := root_form hM h2
    unfold rootT at h4
    generalize ((k : Int) * k + n * n) / M = e at *
    obtain ⟨a', b', c', p', q', r', s', red', act'⟩ := led M (k : Int) e hM (by omega)
    rw [redOf_eq red act, redOf_eq red' act'] at h4
    injection h4 with e1 h4
    injection h4 with e2 e3
    subst e1 e2 e3
    have A := act.comp act'.inv
    exact ⟨(_, _), by omega, _, _, e, A⟩
  · rintro ⟨z, h1, u, v, e, A⟩
    have hd2 := A.disc2
    have h5 : (k : Int) * k + n * n = M * e := by omega
    have h6 : ((k : Int) * k + n * n) / M = e := by rw [h5]; exact Int.mul_ediv_cancel_left _ (by omega)
    refine ⟨by omega, ⟨by rw [h5]; exact Int.mul_emod_right _ _, by rw [h6]; exact A.gcd hg⟩, ?_⟩
    unfold rootT
    rw [h6, redOf_eq red act, redOf_eq red (A.inv.comp act)]
noncomputable def rootOf (f h l M : Int) (z : Int × Int) : Nat := @Classical.epsilon _ ⟨0⟩ fun k => RelK f h l M k z
theorem count_gen {f h l n M : Int} (led : LedAll) (hf : 0 < f) (hd : f * l - h * h = n * n) (hn : n ≠ 0) (hg : gcdL [f, h, l] = 1) (hM : 0 < M)
    (nrm : Int × Int → Bool) (N1 : ∀ z : Int × Int, Nat.gcd z.1.natAbs z.2.natAbs = 1 → nrm z = true ∨ nrm (-z.1, -z.2) = true) (N2 : ∀ z : Int × Int, nrm z = true → nrm (-z.1, -z.2) = true → False)
    (PL : List (Int × Int)) (nd : PL.Nodup) (mem : ∀ z, z ∈ PL ↔ Nat.gcd z.1.natAbs z.2.natAbs = 1 ∧ nrm z = true ∧ formAt f h l z = M) : (PL.length : Int) = manyF n M (f, h, l) := by
  have spec : ∀ z ∈ PL, RelK f h l M (rootOf f h l M z) z := fun z hz => by
    obtain ⟨h1, _, h2⟩ := (mem z).mp hz
    obtain ⟨k, hk⟩ := rel_ex hM h1 h2
    exact @Classical.epsilon_spec_aux _ ⟨0⟩ (fun k => RelK f h l M k z) ⟨k, hk⟩
  have fib : ∀ (k : Nat) z, z ∈ PL.filter (fun a => decide (rootOf f h l M a = k)) ↔ nrm z = true ∧ RelK f h l M k z := fun k z => by
    rw [List.mem_filter, decide_eq_true_iff]
    constructor
    · rintro ⟨h1, h2⟩
      exact ⟨((mem z).mp h1).2.1, h2 ▸ spec z h1⟩
    · rintro ⟨h1, h2⟩
      have hz := (mem z).mpr ⟨h2.prim.1, h1, h2.prim.2⟩
      exact ⟨hz, rel_uniq hM (spec z hz) h2⟩
  have base : ∀ k ∈ rootK n M f h l, ∃ z, nrm z = true ∧ RelK f h l M k z := fun k hk => by
    obtain ⟨z, R⟩ := (rootK_mem led hf hd hn hg hM k).mp hk
    rcases N1 z R.prim.1 with e | e
    · exact ⟨z, e, R⟩
    · exact ⟨_, e, R.neg⟩
  have into : ∀ z ∈ PL, rootOf f h l M z ∈ rootK n M f h l := fun z hz => (rootK_mem led hf hd hn hg hM _).mpr ⟨z, spec z hz⟩
  have ndK : (rootK n M f h l).Nodup := (List.nodup_range).filter _
  unfold manyF
  simp only
  rw [rootK_len]
  by_cases h1 : n * n = 1
  · have hn1 : n = 1 ∨ n = -1 := by
      have := abs_sq n
      have h2 : n.natAbs * n.natAbs = 1 := by omega
      have h3 := Nat.eq_one_of_mul_eq_one_left h2
      omega
    rw [if_pos hn1]
    have := len_fib (rootOf f h l M) 2 (rootK n M f h l) PL ndK into fun k hk => by
      obtain ⟨z0, b1, b2⟩ := base k hk
      have hd1 : f * l - h * h = 1 := by omega
      have R2 := b2.mate hd1
      have hw : formAt f h l z0 = M := b2.prim.2
      have ne : ∀ e : Int, ¬ ((mate f h l z0).1 = e * z0.1 ∧ (mate f h l z0).2 = e * z0.2) := fun e ⟨m1, m2⟩ => by
        unfold mate at m1 m2
        unfold formAt at hw
        simp only at m1 m2
        have : f * z0.1 * z0.1 + 2 * h * z0.1 * z0.2 + l * z0.2 * z0.2 = z0.1 * (f * z0.1 + h * z0.2) - z0.2 * (-h * z0.1 + -l * z0.2) := by grind
        rw [m1, m2] at this
        have h9 : z0.1 * (e * z0.2) - z0.2 * (e * z0.1) = 0 := by grind
        omega
      have other : ∃ w, nrm w = true ∧ RelK f h l M k w ∧ z0 ≠ w ∧ (w = mate f h l z0 ∨ w = (-(mate f h l z0).1, -(mate f h l z0).2)) := by
        rcases N1 _ R2.prim.1 with e | e
        · refine ⟨_, e, R2, fun q => ne 1 ⟨?_, ?_⟩, .inl rfl⟩
          · rw [← q, Int.one_mul]
          · rw [← q, Int.one_mul]
        · refine ⟨_, e, R2.neg, fun q => ne (-1) ⟨?_, ?_⟩, .inr rfl⟩
          · have := congrArg Prod.fst q
            simp only at this
            omega
          · have := congrArg Prod.snd q
            simp only at this
            omega
      obtain ⟨w, w1, w2, w3, w4⟩ := other
      refine len_two (nd.filter _) w3 fun z => (fib k z).trans ⟨fun ⟨q1, q2⟩ => ?_, fun q => ?_⟩
      · rcases rel_cases hf hd hn hg hM b2 q2 with e | e | ⟨_, e⟩
        · exact .inl e
        · exact (N2 z0 b1 (e ▸ q1)).elim
        · refine .inr ?_
          have both : ∀ x : Int × Int, nrm x = true → nrm (-x.1, -x.2) = true → False := N2
          rcases w4 with w4 | w4 <;> rcases e with e | e
          · rw [w4, e]
          · exact (N2 _ (w4 ▸ w1) (e ▸ q1)).elim
          · exact (N2 _ (e ▸ q1) (w4 ▸ w1)).elim
          · rw [w4, e]
      · rcases q with rfl | rfl
        · exact ⟨b1, b2⟩
        · exact ⟨w1, w2⟩
    omega
  · have hn1 : ¬ (n = 1 ∨ n = -1) := fun e => h1 (by rcases e with rfl | rfl <;> rfl)
    rw [if_neg hn1]
    have := len_fib (rootOf f h l M) 1 (rootK n M f h l) PL ndK into fun k hk => by
      obtain ⟨z0, b1, b2⟩ := base k hk
      refine len_one (nd.filter _) fun z => (fib k z).trans ⟨fun ⟨q1, q2⟩ => ?_, fun q => q ▸ ⟨b1, b2⟩⟩
      rcases rel_cases hf hd hn hg hM b2 q2 with e | e | ⟨e, _⟩
      · exact e
      · exact (N2 z0 b1 (e ▸ q1)).elim
      · exact absurd e h1
    omega
end BS

set_option Elab.async false
set_option linter.all false
set_option maxRecDepth 100000
/-! plain: the told pairs -/
namespace BS
open PySem L2
theorem le_isqrt {n r : Nat} (h : r * r ≤ n) : r ≤ Float64.isqrt n := by
  have h1 := (Float64.isqrt_spec n).2
  have := Nat.mul_self_lt_mul_self_iff.mp (Nat.lt_of_le_of_lt h h1)
  omega
theorem worth_sq (a b c x y : Int) : a * worthF a b c x y = (a * x + b * y) * (a * x + b * y) + (a * c - b * b) * y * y := by
  unfold worthF
  grind
theorem cols_mem {a b c x y m : Int} (ha : 0 < a) : x ∈ colsL a b c y m ↔ worthF a b c x y ≤ m := by
  have e := worth_sq a b c x y
  have i1 : worthF a b c x y ≤ m ↔ (a * x + b * y) * (a * x + b * y) ≤ a * m - (a * c - b * b) * y * y := by
    constructor
    · intro h
      have := Int.mul_le_mul_of_nonneg_left h (Int.le_of_lt ha)
      omega
    · intro h
      exact Int.le_of_mul_le_mul_left (show a * worthF a b c x y ≤ a * m by omega) ha
  rw [i1]
  unfold colsL
  by_cases hg : a * m - (a * c - b * b) * y * y < 0
  · rw [if_pos hg]
    have := sq_nonneg' (a * x + b * y)
    constructor
    · intro h
      exact absurd h List.not_mem_nil
    · intro h
      omega
  · rw [if_neg hg, List.mem_map]
    have hw : (a * x + b * y) * (a * x + b * y) ≤ a * m - (a * c - b * b) * y * y ↔ -(colsW a b c y m) ≤ a * x + b * y ∧ a * x + b * y ≤ colsW a b c y m := by
      have s1 := colsW_sq (a := a) (b := b) (c := c) (y := y) (m := m) (by omega)
      constructor
      · intro h
        have : (a * x + b * y).natAbs ≤ Float64.isqrt (a * m - (a * c - b * b) * y * y).toNat := le_isqrt (by
          have := abs_sq (a * x + b * y)
          omega)
        unfold colsW
        omega
      · rintro ⟨h1, h2⟩
        have : (a * x + b * y).natAbs * (a * x + b * y).natAbs ≤ (colsW a b c y m).natAbs * (colsW a b c y m).natAbs := Nat.mul_le_mul (by omega) (by omega)
        have q1 := abs_sq (a * x + b * y)
        have q2 := abs_sq (colsW a b c y m)
        omega
    rw [hw]
    have u1 : a * x + b * y ≤ colsW a b c y m ↔ x ≤ colsHi a b c y m := by
      unfold colsHi
      rw [Int.le_ediv_iff_mul_le ha, Int.mul_comm x a]
      omega
    have u2 : -(colsW a b c y m) ≤ a * x + b * y ↔ colsLo a b c y m ≤ x := by
      unfold colsLo
      have : -x ≤ (colsW a b c y m + b * y) / a ↔ -x * a ≤ colsW a b c y m + b * y := Int.le_ediv_iff_mul_le ha
      rw [show -x * a = -(a * x) by grind] at this
      omega
    rw [u1, u2]
    constructor
    · rintro ⟨k, hk, rfl⟩
      have := List.mem_range.mp hk
      omega
    · rintro ⟨h1, h2⟩
      exact ⟨(x - colsLo a b c y m).toNat, List.mem_range.mpr (by omega), by omega⟩
theorem cols_nodup (a b c y m : Int) : (colsL a b c y m).Nodup := by
  unfold colsL
  split
  · exact List.nodup_nil
  · exact List.pairwise_map.mpr (List.nodup_range.imp fun h e => h (by omega))
theorem rowL_mem {a b c x y y' m : Int} (ha : 0 < a) : (x, y) ∈ rowL a b c m y' ↔ y = y' ∧ worthF a b c x y ≤ m ∧ Nat.gcd x.natAbs y.natAbs = 1 := by
  unfold rowL
  rw [List.mem_map]
  constructor
  · rintro ⟨u, hu, e⟩
    injection e with e1 e2
    subst e1 e2
    obtain ⟨h1, h2⟩ := List.mem_filter.mp hu
    refine ⟨rfl, (cols_mem ha).mp h1, ?_⟩
    have := eq_of_beq h2
    unfold gcd2 at this
    omega
  · rintro ⟨rfl, h1, h2⟩
    refine ⟨x, List.mem_filter.mpr ⟨(cols_mem ha).mpr h1, ?_⟩, rfl⟩
    unfold gcd2
    rw [h2]
    rfl
theorem pairsL_mem {a b c m : Int} {n : Nat} (ha : 0 < a) (z : Int × Int) : z ∈ pairsL a b c m n ↔ z = (1, 0) ∨ (0 < z.2 ∧ z.2 ≤ n ∧ worthF a b c z.1 z.2 ≤ m ∧ Nat.gcd z.1.natAbs z.2.natAbs = 1) := by
  unfold pairsL
  rw [List.mem_cons, List.mem_flatMap]
  refine or_congr Iff.rfl ⟨?_, ?_⟩
  · rintro ⟨i, hi, h⟩
    have h1 := List.mem_range.mp hi
    obtain ⟨h2, h3, h4⟩ := (rowL_mem ha).mp h
    exact ⟨by omega, by omega, h3, h4⟩
  · rintro ⟨h1, h2, h3, h4⟩
    exact ⟨(z.2 - 1).toNat, List.mem_range.mpr (by omega), (rowL_mem ha).mpr ⟨by omega, h3, h4⟩⟩
theorem pairsL_nodup {a b c m : Int} {n : Nat} (ha : 0 < a) : (pairsL a b c m n).Nodup := by
  unfold pairsL
  refine List.nodup_cons.mpr ⟨fun h => ?_, ?_⟩
  · obtain ⟨i, hi, h⟩ := List.mem_flatMap.mp h
    have := ((rowL_mem ha).mp h).1
    omega
  · refine List.pairwise_flatMap.mpr ⟨fun i _ => ?_, List.nodup_range.imp fun {i j} h z hz z' hz' e => ?_⟩
    · unfold rowL
      exact List.pairwise_map.mpr (((cols_nodup a b c _ m).filter _).imp fun h e => h (by injection e))
    · subst e
      have h1 := ((rowL_mem ha).mp hz).1
      have h2 := ((rowL_mem ha).mp hz').1
      omega
theorem rows_le' {a b c x y m : Int} (ha : 0 < a) (hD : 0 < a * c - b * b) (hy : 0 < y) (h : worthF a b c x y ≤ m) : y ≤ (rowsF a b c m : Int) := by
  have e := worth_sq a b c x y
  have h1 := Int.mul_le_mul_of_nonneg_left h (Int.le_of_lt ha)
  have h2 := sq_nonneg' (a * x + b * y)
  have h3 : y * y ≤ a * m / (a * c - b * b) := by
    rw [Int.le_ediv_iff_mul_le hD]
    have : y * y * (a * c - b * b) = (a * c - b * b) * y * y := by grind
    omega
  have := le_isqrt (n := (a * m / (a * c - b * b)).toNat) (r := y.natAbs) (by
    have := abs_sq y
    omega)
  unfold rowsF
  omega
def nrmY (z : Int × Int) : Bool := decide (0 < z.2 ∨ (z.2 = 0 ∧ z.1 = 1))
theorem manyF_same {n M f h l a b c p q r s : Int} (red : Red a b c) (act : Act f h l a b c p q r s) : manyF n M (f, h, l) = manyF n M (a, b, c) := by
  unfold manyF
  rw [redOf_eq red act, redOf_eq red (Act.id a b c)]
theorem prim_abs {x : Int} (h : Nat.gcd x.natAbs (0 : Int).natAbs = 1) : x = 1 ∨ x = -1 := by
  rw [show (0 : Int).natAbs = 0 from rfl, Nat.gcd_zero_right] at h
  omega
theorem count_spots {a b c n M most p q r s : Int} (led : LedAll) (red : Red a b c) (hd : a * c - b * b = n * n) (hn : n ≠ 0) (hg : gcdL [a, b, c] = 1) (hM : 0 < M) (hm : M ≤ most) :
    manyF n M (a, b, c) = (((spotsL a b c p q r s most).filter fun z => decide (V.int z.1 = V.int M)).length : Int) := by
  have ha := red.1
  have hD := sq_pos' hn
  have hlow : ∀ z : Int × Int, Nat.gcd z.1.natAbs z.2.natAbs = 1 → a ≤ worthF a b c z.1 z.2 := fun z hz => by
    obtain ⟨x, y⟩ := z
    by_cases hy : y = 0
    · subst hy
      unfold worthF
      simp only
      rcases prim_abs hz with h | h
      · rw [show x = 1 from h]; grind
      · rw [show x = -1 from h]; grind
    · have h1 := red_min (x := x) red hy
      have h2 := red_ac red
      have h3 := Int.mul_nonneg (show 0 ≤ c - a by omega) (sq_nonneg' y)
      unfold worthF
      simp only
      omega
  have N1 : ∀ z : Int × Int, Nat.gcd z.1.natAbs z.2.natAbs = 1 → nrmY z = true ∨ nrmY (-z.1, -z.2) = true := fun z hz => by
    unfold nrmY
    rw [decide_eq_true_iff, decide_eq_true_iff]
    simp only
    by_cases hy : z.2 = 0
    · rw [hy] at hz
      have := prim_abs hz
      omega
    · omega
  have N2 : ∀ z : Int × Int, nrmY z = true → nrmY (-z.1, -z.2) = true → False := fun z h1 h2 => by
    unfold nrmY at h1 h2
    rw [decide_eq_true_iff] at h1 h2
    simp only at h1 h2
    omega
  unfold spotsL
  split
  · have := count_gen led ha hd hn hg hM nrmY N1 N2 [] List.nodup_nil fun z => ⟨fun h => absurd h List.not_mem_nil, fun ⟨h1, _, h3⟩ => by
      have := hlow z h1
      have e : worthF a b c z.1 z.2 = M := h3
      omega⟩
    rw [← this]
    rfl
  · rw [List.filter_map, List.length_map]
    have := count_gen led ha hd hn hg hM nrmY N1 N2 ((pairsL a b c most (rowsF a b c most)).filter fun z => decide (V.int (worthF a b c z.1 z.2) = V.int M)) ((pairsL_nodup ha).filter _) fun z => by
      rw [List.mem_filter, pairsL_mem ha, decide_eq_true_iff]
      unfold nrmY
      rw [decide_eq_true_iff]
      constructor
      · rintro ⟨h1, h2⟩
        injection h2 with h2
        rcases h1 with rfl | ⟨h1, _, _, h4⟩
        · exact ⟨rfl, .inr ⟨rfl, rfl⟩, h2⟩
        · exact ⟨h4, .inl h1, h2⟩
      · rintro ⟨h1, h2, h3⟩
        have h4 : worthF a b c z.1 z.2 = M := h3
        refine ⟨?_, by rw [h4]⟩
        rcases h2 with h2 | ⟨h2, h5⟩
        · exact .inr ⟨h2, rows_le' (x := z.1) ha (by omega) h2 (by omega), by omega, h1⟩
        · exact .inl (Prod.ext h5 h2)
    rw [← this]
    rfl
theorem spots_worth {a b c p q r s m : Int} {z : Int × Int × Int} (red : Red a b c) (hz : z ∈ spotsL a b c p q r s m) : 0 < z.1 ∧ z.1 ≤ m := by
  have ha := red.1
  unfold spotsL at hz
  split at hz
  · exact absurd hz List.not_mem_nil
  · obtain ⟨y, hy, rfl⟩ := List.mem_map.mp hz
    rcases (pairsL_mem ha y).mp hy with rfl | ⟨h1, h2, h3, h4⟩
    · unfold worthF
      simp only
      omega
    · have h5 := red_min (x := y.1) red (show y.2 ≠ 0 by omega)
      have h6 := Int.mul_nonneg (show 0 ≤ c - a by have := red_ac red; omega) (sq_nonneg' y.2)
      refine ⟨?_, h3⟩
      show 0 < worthF a b c y.1 y.2
      unfold worthF
      omega
end BS

set_option Elab.async false
set_option linter.all false
set_option maxRecDepth 100000
/-! plain: the law's pairs -/
namespace BS
open PySem L2
theorem isq_iff {g v : Int} : (isq g * isq g = g ∧ (v = isq g ∨ v = -isq g)) ↔ v * v = g := by
  constructor
  · rintro ⟨h1, rfl | rfl⟩
    · exact h1
    · rw [Int.neg_mul_neg]
      exact h1
  · intro h
    subst h
    have e : isq (v * v) = (v.natAbs : Int) := by
      unfold isq
      have : (v * v).toNat = v.natAbs * v.natAbs := by
        have := abs_sq v
        omega
      rw [this, isqrt_sq]
    rw [e]
    exact ⟨abs_sq v, by omega⟩
theorem secL_mem2 {r bx s : Int} : s ∈ secL r bx ↔ s + bx = r ∨ s + bx = -r := by
  unfold secL
  split
  · rename_i h
    subst h
    rw [List.mem_singleton]
    omega
  · rw [List.mem_cons, List.mem_singleton]
    omega
theorem secL_nodup (r bx : Int) : (secL r bx).Nodup := by
  unfold secL
  split
  · exact List.nodup_cons.mpr ⟨List.not_mem_nil, List.nodup_nil⟩
  · refine List.nodup_cons.mpr ⟨fun h => ?_, List.nodup_cons.mpr ⟨List.not_mem_nil, List.nodup_nil⟩⟩
    rw [List.mem_singleton] at h
    omega
theorem secsX_mem {a b c m x s : Int} : s ∈ secsX a b c m x ↔ (s + b * x) * (s + b * x) = m * c - (a * c - b * b) * x * x := by
  rw [← isq_iff]
  unfold secsX
  split
  · rename_i h
    rw [secL_mem2]
    exact ⟨fun h2 => ⟨h, h2⟩, fun h2 => h2.2⟩
  · rename_i h
    exact ⟨fun h2 => absurd h2 List.not_mem_nil, fun h2 => absurd h2.1 h⟩
theorem secsX_nodup (a b c m x : Int) : (secsX a b c m x).Nodup := by
  unfold secsX
  split
  · exact secL_nodup _ _
  · exact List.nodup_nil
theorem gcdL2 (x y : Int) : gcdL [x, y] = ((Nat.gcd x.natAbs y.natAbs : Nat) : Int) := by
  unfold gcdL gcd2
  show ((Nat.gcd (Nat.gcd (0 : Int).natAbs x.natAbs : Int).natAbs y.natAbs : Nat) : Int) = _
  rw [show (0 : Int).natAbs = 0 from rfl, Nat.gcd_zero_left, Int.natAbs_natCast]
theorem goodY_iff {c x s : Int} : goodY c x s = true ↔ s / c * c = s ∧ ((0 < x ∧ Nat.gcd x.natAbs (s / c).natAbs = 1) ∨ (x = 0 ∧ s / c = 1)) := by
  unfold goodY
  rw [Bool.and_eq_true, Bool.or_eq_true, Bool.and_eq_true, decide_eq_true_iff, decide_eq_true_iff, decide_eq_true_iff, decide_eq_true_iff, gcdL2]
  constructor
  · rintro ⟨h1, h2⟩
    injection h1 with h1
    refine ⟨h1, ?_⟩
    rcases h2 with ⟨h2, h3⟩ | h2
    · injection h3 with h3
      exact .inl ⟨h2, by omega⟩
    · injection h2 with h2 h3
      injection h3 with h3
      exact .inr ⟨h2, h3⟩
  · rintro ⟨h1, h2⟩
    refine ⟨by rw [h1], ?_⟩
    rcases h2 with ⟨h2, h3⟩ | ⟨h2, h3⟩
    · exact .inl ⟨h2, by rw [h3]; rfl⟩
    · exact .inr (by rw [h2, h3])
def nrmX (z : Int × Int) : Bool := decide (0 < z.1 ∨ (z.1 = 0 ∧ z.2 = 1))
def pairsP (a b c m : Int) (n : Nat) : List (Int × Int) := (List.range n).flatMap fun x : Nat => ((secsX a b c m (x : Int)).filter (goodY c (x : Int))).map fun s => ((x : Int), s / c)
theorem pairsP_len (a b c m : Int) (n : Nat) : (pairsP a b c m n).length = pairsN a b c m n := by
  unfold pairsP pairsN
  rw [List.length_flatMap]
  congr 1
  refine List.map_congr_left fun x _ => ?_
  rw [List.length_map]
  rfl
theorem worth_sq2 (a b c x y : Int) : c * worthF a b c x y = (c * y + b * x) * (c * y + b * x) + (a * c - b * b) * x * x := by
  unfold worthF
  grind
theorem count_pairs {a b c n M : Int} (led : LedAll) (ha : 0 < a) (hc : 0 < c) (hd : a * c - b * b = n * n) (hn : n ≠ 0) (hg : gcdL [a, b, c] = 1) (hM : 0 < M) (k : Nat)
    (k2 : M * c < (k : Int) * k * (a * c - b * b)) : ((pairsN a b c M k : Nat) : Int) = manyF n M (a, b, c) := by
  have hD := sq_pos' hn
  have N1 : ∀ z : Int × Int, Nat.gcd z.1.natAbs z.2.natAbs = 1 → nrmX z = true ∨ nrmX (-z.1, -z.2) = true := fun z hz => by
    unfold nrmX
    rw [decide_eq_true_iff, decide_eq_true_iff]
    simp only
    by_cases hy : z.1 = 0
    · rw [hy, Nat.gcd_comm] at hz
      have := prim_abs hz
      omega
    · omega
  have N2 : ∀ z : Int × Int, nrmX z = true → nrmX (-z.1, -z.2) = true → False := fun z h1 h2 => by
    unfold nrmX at h1 h2
    rw [decide_eq_true_iff] at h1 h2
    simp only at h1 h2
    omega
  rw [← pairsP_len]
  refine count_gen led ha hd hn hg hM nrmX N1 N2 (pairsP a b c M k) ?_ fun z => ?_
  · unfold pairsP
    refine List.pairwise_flatMap.mpr ⟨fun i _ => ?_, List.nodup_range.imp fun {i j} h z hz z' hz' e => ?_⟩
    · refine List.pairwise_map.mpr (List.Pairwise.imp_of_mem (fun {s s'} hs hs' h e => h ?_) ((secsX_nodup a b c M _).filter _))
      injection e with _ e
      have g1 := (goodY_iff.mp (List.mem_filter.mp hs).2).1
      have g2 := (goodY_iff.mp (List.mem_filter.mp hs').2).1
      rw [← g1, ← g2, e]
    · subst e
      obtain ⟨s, _, e1⟩ := List.mem_map.mp hz
      obtain ⟨s', _, e2⟩ := List.mem_map.mp hz'
      rw [← e2] at e1
      injection e1 with e1
      omega
  · unfold pairsP nrmX
    rw [List.mem_flatMap, decide_eq_true_iff]
    have e : formAt a b c z = worthF a b c z.1 z.2 := rfl
    have w := worth_sq2 a b c z.1 z.2
    rw [e]
    constructor
    · rintro ⟨x, hx, h⟩
      obtain ⟨s, hs, e1⟩ := List.mem_map.mp h
      obtain ⟨h1, h2⟩ := List.mem_filter.mp hs
      rw [secsX_mem] at h1
      obtain ⟨h3, h4⟩ := goodY_iff.mp h2
      subst e1
      simp only at w ⊢
      have e3 : c * (s / c) = s := by rw [Int.mul_comm]; exact h3
      rw [e3, h1] at w
      have e4 : worthF a b c x (s / c) = M := by
        have : c * (worthF a b c x (s / c) - M) = 0 := by grind
        have := (Int.mul_eq_zero.mp this).resolve_left (by omega)
        omega
      rcases h4 with ⟨h4, h5⟩ | ⟨h4, h5⟩
      · exact ⟨h5, .inl h4, e4⟩
      · refine ⟨?_, .inr ⟨h4, h5⟩, e4⟩
        rw [h4, h5]
        rfl
    · rintro ⟨h1, h2, h3⟩
      rw [h3] at w
      have x0 : 0 ≤ z.1 := by omega
      have xk : z.1 < k := by
        rcases Int.lt_or_le z.1 k with q | q
        · exact q
        · exfalso
          have q1 : (k : Int) * k ≤ z.1 * z.1 := Int.mul_le_mul q q (by omega) x0
          have q2 := Int.mul_le_mul_of_nonneg_right q1 (show 0 ≤ a * c - b * b by omega)
          have q3 : z.1 * z.1 * (a * c - b * b) = (a * c - b * b) * z.1 * z.1 := by grind
          have q4 := sq_nonneg' (c * z.2 + b * z.1)
          have q5 : M * c = c * M := Int.mul_comm _ _
          omega
      refine ⟨z.1.toNat, List.mem_range.mpr (by omega), List.mem_map.mpr ⟨c * z.2, List.mem_filter.mpr ⟨?_, ?_⟩, ?_⟩⟩
      · rw [show ((z.1.toNat : Nat) : Int) = z.1 by omega, secsX_mem]
        have q5 : M * c = c * M := Int.mul_comm _ _
        omega
      · rw [show ((z.1.toNat : Nat) : Int) = z.1 by omega, goodY_iff, Int.mul_ediv_cancel_left _ (show c ≠ 0 by omega)]
        refine ⟨Int.mul_comm _ _, ?_⟩
        rcases h2 with h2 | h2
        · exact .inl ⟨h2, h1⟩
        · exact .inr h2
      · rw [Int.mul_ediv_cancel_left _ (show c ≠ 0 by omega)]
        exact Prod.ext (by show ((z.1.toNat : Nat) : Int) = z.1; omega) rfl
end BS

set_option Elab.async false
set_option linter.all false
set_option maxRecDepth 100000
/-! plain: reduction exists; the law's forms; the rim's sum -/
namespace BS
open PySem L2
theorem Act.swap2 {f h l a b c p q r s : Int} (A : Act f h l a b c p q r s) : Act f h l c (-b) a q (-p) s (-r) := by
  obtain ⟨rfl, rfl, rfl, det⟩ := A
  exact ⟨by grind, by grind, by grind, by grind⟩
theorem led_ex : ∀ (n : Nat) (f h l : Int), f.toNat ≤ n → 0 < f → 0 < f * l - h * h → ∃ a b c p q r s, Red a b c ∧ Act f h l a b c p q r s
  | 0, f, h, l, hn, hf, _ => by omega
  | n + 1, f, h, l, hn, hf, hD => by
    have A := (Act.id f h l).shift (-((2 * h + f - 1) / (2 * f)))
    have e := Int.emod_add_mul_ediv (2 * h + f - 1) (2 * f)
    have e1 := Int.emod_nonneg (2 * h + f - 1) (show 2 * f ≠ 0 by omega)
    have e2 := Int.emod_lt_of_pos (2 * h + f - 1) (show 0 < 2 * f by omega)
    have b1 : 2 * (h + -((2 * h + f - 1) / (2 * f)) * f) = (2 * h + f - 1) % (2 * f) - f + 1 := by grind
    have dd := A.disc2
    generalize h + -((2 * h + f - 1) / (2 * f)) * f = h' at *
    generalize l + 2 * -((2 * h + f - 1) / (2 * f)) * h + -((2 * h + f - 1) / (2 * f)) * -((2 * h + f - 1) / (2 * f)) * f = l' at *
    have hl : 0 < l' := by
      rcases Int.lt_or_le 0 l' with z | z
      · exact z
      · exfalso
        have := Int.mul_nonneg (Int.le_of_lt hf) (show 0 ≤ -l' by omega)
        have := sq_nonneg' h'
        rw [Int.mul_neg] at *
        omega
    rcases Int.lt_trichotomy f l' with z | z | z
    · exact ⟨_, _, _, _, _, _, _, ⟨hf, by omega, by omega, .inl z⟩, A⟩
    · by_cases hb : 0 ≤ h'
      · exact ⟨_, _, _, _, _, _, _, ⟨hf, by omega, by omega, .inr ⟨z, hb⟩⟩, A⟩
      · exact ⟨_, _, _, _, _, _, _, ⟨hl, by omega, by omega, .inr ⟨z.symm, by omega⟩⟩, A.swap2⟩
    · obtain ⟨a, b, c, p, q, r, s, red, B⟩ := led_ex n l' (-h') f (by omega) hl (by
        rw [Int.neg_mul_neg, Int.mul_comm]
        omega)
      exact ⟨a, b, c, _, _, _, _, red, A.swap2.comp B⟩
theorem led_all : LedAll := fun f h l hf hD => led_ex _ f h l (Nat.le_refl _) hf hD
/-! ### the law's forms -/
theorem lawA_mem {n : Int} {k : Nat} (z : Int × Int × Int) : z ∈ lawA n k ↔ 0 < z.1 ∧ z.1 ≤ k ∧ -z.1 ≤ z.2.1 ∧ z.2.1 ≤ z.1 ∧ lawP n z.1 z.2.1 = true ∧ z.2.2 = lastOf n z.1 z.2.1 := by
  unfold lawA lawR
  rw [List.mem_flatMap]
  constructor
  · rintro ⟨i, hi, h⟩
    have h1 := List.mem_range.mp hi
    obtain ⟨h', h2, rfl⟩ := List.mem_map.mp h
    obtain ⟨h3, h4⟩ := List.mem_filter.mp h2
    obtain ⟨j, h5, rfl⟩ := List.mem_map.mp h3
    have h6 := List.mem_range.mp h5
    exact ⟨by show 0 < 1 + (i : Int); omega, by show 1 + (i : Int) ≤ k; omega, by show -(1 + (i : Int)) ≤ -(1 + (i : Int)) + (j : Int); omega, by show -(1 + (i : Int)) + (j : Int) ≤ 1 + (i : Int); omega, h4, rfl⟩
  · rintro ⟨h1, h2, h3, h4, h5, h6⟩
    obtain ⟨f, h, l⟩ := z
    simp only at *
    subst h6
    refine ⟨(f - 1).toNat, List.mem_range.mpr (by omega), ?_⟩
    rw [show 1 + (((f - 1).toNat : Nat) : Int) = f by omega]
    exact List.mem_map.mpr ⟨h, List.mem_filter.mpr ⟨List.mem_map.mpr ⟨(h + f).toNat, List.mem_range.mpr (by omega), by omega⟩, h5⟩, rfl⟩
theorem lawA_nodup (n : Int) (k : Nat) : (lawA n k).Nodup := by
  unfold lawA lawR
  refine List.pairwise_flatMap.mpr ⟨fun i _ => ?_, List.nodup_range.imp fun {i j} h z hz z' hz' e => ?_⟩
  · refine List.pairwise_map.mpr (List.Pairwise.imp (fun {s s'} h e => h ?_) (List.Pairwise.filter _ (List.pairwise_map.mpr (List.nodup_range.imp fun {u v} h e => h ?_)) : List.Pairwise (· ≠ ·) _))
    · injection e with _ e
      injection e
    · omega
  · subst e
    obtain ⟨s, _, e1⟩ := List.mem_map.mp hz
    obtain ⟨s', _, e2⟩ := List.mem_map.mp hz'
    rw [← e2] at e1
    injection e1 with e1
    omega
theorem lawP_iff {n f h : Int} : lawP n f h = true ↔ (h * h + n * n) % f = 0 ∧ lawLeast n f h = true ∧ gcdL [f, h, lastOf n f h] = 1 := by
  unfold lawP
  rw [Bool.and_eq_true, Bool.and_eq_true, decide_eq_true_iff, decide_eq_true_iff]
  exact ⟨fun ⟨a, b, c⟩ => ⟨by injection a, b, by injection c⟩, fun ⟨a, b, c⟩ => ⟨by rw [a], b, by rw [c]⟩⟩
theorem lawA_red {n : Int} {k : Nat} {z : Int × Int × Int} (h : z ∈ lawA n k) : Red z.1 z.2.1 z.2.2 ∧ z.1 * z.2.2 - z.2.1 * z.2.1 = n * n ∧ gcdL [z.1, z.2.1, z.2.2] = 1 := by
  obtain ⟨h1, h2, h3, h4, h5, h6⟩ := (lawA_mem z).mp h
  obtain ⟨f, b, l⟩ := z
  simp only at *
  obtain ⟨h7, h8, h9⟩ := lawP_iff.mp h5
  unfold lawLeast at h8
  rw [decide_eq_true_iff] at h8
  rw [← h6] at h8 h9
  have e : f * l = b * b + n * n := by
    rw [h6]
    unfold lastOf
    have := Int.emod_add_mul_ediv (b * b + n * n) f
    omega
  exact ⟨⟨h1, by omega, by omega, by omega⟩, by omega, h9⟩
theorem lawA_of {n a b c : Int} (hn : 0 < n) (red : Red a b c) (hd : a * c - b * b = n * n) (hg : gcdL [a, b, c] = 1) : (a, b, c) ∈ lawA n (6 * n / 5).toNat := by
  obtain ⟨r1, r2, r3, r4⟩ := red
  have hl : lastOf n a b = c := by
    unfold lastOf
    rw [show b * b + n * n = a * c by omega]
    exact Int.mul_ediv_cancel_left _ (by omega)
  have hac : a ≤ c := by omega
  have h1 : 5 * a ≤ 6 * n := by
    rcases Int.lt_or_le (6 * n) (5 * a) with z | z
    · exfalso
      have q1 : (6 * n) * (6 * n) < (5 * a) * (5 * a) := Int.mul_lt_mul' (Int.le_of_lt z) z (by omega) (by omega)
      have q2 : a * a ≤ a * c := Int.mul_le_mul_of_nonneg_left hac (by omega)
      have q3 : (2 * b).natAbs * (2 * b).natAbs ≤ a.natAbs * a.natAbs := Nat.mul_le_mul (by omega) (by omega)
      have q4 := abs_sq (2 * b)
      have q5 := abs_sq a
      have q6 : (2 * b) * (2 * b) = 4 * (b * b) := by grind
      have q7 : (6 * n) * (6 * n) = 36 * (n * n) := by grind
      have q8 : (5 * a) * (5 * a) = 25 * (a * a) := by grind
      have q9 := sq_pos' (show n ≠ 0 by omega)
      omega
    · exact z
  refine (lawA_mem _).mpr ⟨r1, ?_, by show -a ≤ b; omega, by show b ≤ a; omega, lawP_iff.mpr ⟨?_, ?_, by show gcdL [a, b, lastOf n a b] = 1; rw [hl]; exact hg⟩, hl.symm⟩
  · show a ≤ ((6 * n / 5).toNat : Int)
    omega
  · show (b * b + n * n) % a = 0
    rw [show b * b + n * n = a * c by omega]
    exact Int.mul_emod_right _ _
  · show lawLeast n a b = true
    unfold lawLeast
    rw [decide_eq_true_iff, hl]
    omega
end BS

set_option Elab.async false
set_option linter.all false
set_option maxRecDepth 100000
/-! plain: the rim's sum; the last values -/
namespace BS
open PySem L2
theorem perm_sumI {l l' : List Int} (h : l.Perm l') : l.sum = l'.sum := by
  induction h with
  | nil => rfl
  | cons a _ ih => rw [List.sum_cons, List.sum_cons, ih]
  | swap a b l => rw [List.sum_cons, List.sum_cons, List.sum_cons, List.sum_cons]; omega
  | trans _ _ i1 i2 => exact i1.trans i2
theorem sum_mulI {α : Type} (c : Int) (f : α → Nat) : ∀ L : List α, (L.map fun z => c * (f z : Int)).sum = c * (((L.map f).sum : Nat) : Int)
  | [] => by simp
  | a :: L => by
    rw [List.map_cons, List.sum_cons, List.map_cons, List.sum_cons, sum_mulI c f L]
    grind
theorem rootOk_neg (n v : Int) : rootOk (-n) v = rootOk n v := by
  funext k
  unfold rootOk
  rw [Int.neg_mul_neg]
theorem rim_sum {n : Nat} {v : Int} (n0 : 0 < n) (v0 : 0 < v) {L : List (Int × Int × Int)} (pm : L.Perm (lawA n (6 * (n : Int) / 5).toNat)) : (L.map fun z => manyF (-(n : Int)) v z).sum = lawManyF n v := by
  rw [perm_sumI (pm.map _)]
  have hn : (n : Int) ≠ 0 := by omega
  have n2 := sq_pos' hn
  have each : ∀ z ∈ lawA n (6 * (n : Int) / 5).toNat, manyF (-(n : Int)) v z = (if (n : Int) = 1 then 2 else 1) * ((((rootsL (-(n : Int)) v).filter fun a => decide (redOf a = z)).length : Nat) : Int) := fun z hz => by
    obtain ⟨f, h, l⟩ := z
    have red := (lawA_red hz).1
    have e := redOf_eq red (Act.id f h l)
    simp only at e
    unfold manyF
    rw [e]
    simp only
    by_cases h1 : (n : Int) = 1
    · rw [if_pos h1, if_pos (by omega)]
    · rw [if_neg h1, if_neg (by omega), Int.one_mul]
  rw [List.map_congr_left each, sum_mulI, sum_fib redOf _ _ (lawA_nodup _ _) fun a ha => ?_]
  · have hl : (rootsL (-(n : Int)) v).length = ((List.range v.toNat).filter (rootOk n v)).length := by
      unfold rootsL
      rw [List.length_map, rootOk_neg]
    rw [hl]
    unfold lawManyF
    simp only
    split
    · rfl
    · rw [Int.one_mul]
  · unfold rootsL at ha
    obtain ⟨k, hk, rfl⟩ := List.mem_map.mp ha
    obtain ⟨h1, h2⟩ := List.mem_filter.mp hk
    rw [rootOk_iff] at h2
    have hd := root_form v0 h2.1
    unfold rootT
    obtain ⟨a, b, c, p, q, r, s, red, act⟩ := led_all v (k : Int) _ v0 (by rw [hd, Int.neg_mul_neg]; omega)
    rw [redOf_eq red act]
    exact lawA_of (by omega) red (by rw [act.disc2, hd, Int.neg_mul_neg]) (act.gcd h2.2)
theorem red101 : Red 1 0 1 := ⟨by decide, by decide, by decide, .inr ⟨rfl, by decide⟩⟩
theorem one_of {n M k : Int} (hd : 1 = n * n) (hM : 0 < M) (h : (((spotsL 1 0 1 1 0 0 1 M).filter fun z => decide (V.int z.1 = V.int M)).length : Int) = k) : manyF n M (1, 0, 1) = k :=
  (count_spots led_all red101 hd (fun e => by subst e; omega) (by decide) hM (Int.le_refl _)).trans h
theorem ones : manyF (-1) 1 (1, 0, 1) = 2 ∧ manyF (-1) 2 (1, 0, 1) = 2 ∧ manyF (-1) 3 (1, 0, 1) = 0 ∧ manyF (-1) 5 (1, 0, 1) = 4 ∧ manyF 1 2 (1, 0, 1) = 2 :=
  ⟨one_of rfl (by decide) (by decide +kernel), one_of rfl (by decide) (by decide +kernel), one_of rfl (by decide) (by decide +kernel), one_of rfl (by decide) (by decide +kernel), one_of rfl (by decide) (by decide +kernel)⟩
end BS

set_option Elab.async false
set_option linter.all false
set_option maxRecDepth 100000
/-! plain: the finite facts; all plain facts -/
namespace BS
open PySem L2
def formB (a b c : Int) (n : Nat) : Bool := decide (0 < a ∧ 0 < c ∧ a * c - b * b = (n : Int) * n ∧ 0 < n ∧ n < 2 ^ 31 ∧ a < 2 ^ 60 ∧ b.natAbs < 2 ^ 60 ∧ c < 2 ^ 60 ∧ gcdL [a, b, c] = 1)
theorem formB_ok {a b c : Int} {n : Nat} (h : formB a b c n = true) : FormOk a b c n := by
  obtain ⟨h1, h2, h3, h4, h5, h6, h7, h8, h9⟩ := of_decide_eq_true h
  exact ⟨h1, h2, h3, h4, h5, h6, h7, h8, h9⟩
def fourB (ns : List Int) : Bool := decide (ns.length = 4 ∧ 2 * (ns.map fun b => b * b).sum = ns.sum * ns.sum ∧ 0 < ns.sum ∧ gcdL ns = 1 ∧ ∀ x ∈ ns, x.natAbs < 2 ^ 40)
theorem fourB_ok {ns : List Int} (h : fourB ns = true) : FourOk ns := by
  obtain ⟨h1, h2, h3, h4, h5⟩ := of_decide_eq_true h
  exact ⟨h1, h2, h3, h4, h5⟩
def placeC (a b c d p : Int) : Bool := decide (0 ≤ p ∧ p < 4 ∧ bendAt a b c d p ≠ 0 ∧ (bendAt a b c d p).natAbs < 2 ^ 14 ∧ (numsAt a b c d p).1 < 2 ^ 15 ∧ (numsAt a b c d p).2.1.natAbs < 2 ^ 58) && formB (numsAt a b c d p).1 (numsAt a b c d p).2.1 (numsAt a b c d p).2.2 (bendAt a b c d p).natAbs
theorem placeC_ok {a b c d p : Int} (h : placeC a b c d p = true) : PlaceOk a b c d p := by
  unfold placeC at h
  rw [Bool.and_eq_true] at h
  obtain ⟨h1, h2, h3, h4, h5, h6⟩ := of_decide_eq_true h.1
  exact ⟨h1, h2, h3, h4, formB_ok h.2, h5, h6⟩
def rimB (n : Nat) : Bool := (lawA n (6 * (n : Int) / 5).toNat).all fun z => formB z.1 z.2.1 z.2.2 n && (fourB (fourR n z) && (placeC (-(n : Int)) (z.1 + n) (z.2.2 + n) (z.1 + z.2.2 - 2 * z.2.1 + n) 0 && decide (numsAt (-(n : Int)) (z.1 + n) (z.2.2 + n) (z.1 + z.2.2 - 2 * z.2.1 + n) 0 = z)))
theorem rimB_all : (List.range 12).all (fun n => rimB (n + 1)) = true := by decide +kernel
theorem rimOk : ∀ n : Nat, 0 < n → n ≤ 12 → ∀ z ∈ lawA n (6 * (n : Int) / 5).toNat, FormOk z.1 z.2.1 z.2.2 n ∧ FourOk (fourR n z) ∧ PlaceOk (-(n : Int)) (z.1 + n) (z.2.2 + n) (z.1 + z.2.2 - 2 * z.2.1 + n) 0 ∧ numsAt (-(n : Int)) (z.1 + n) (z.2.2 + n) (z.1 + z.2.2 - 2 * z.2.1 + n) 0 = z := fun n n0 n1 z hz => by
  have h := List.all_eq_true.mp rimB_all (n - 1) (List.mem_range.mpr (by omega))
  rw [show n - 1 + 1 = n by omega] at h
  have h2 := List.all_eq_true.mp h z hz
  rw [Bool.and_eq_true, Bool.and_eq_true, Bool.and_eq_true] at h2
  exact ⟨formB_ok h2.1, fourB_ok h2.2.1, placeC_ok h2.2.2.1, of_decide_eq_true h2.2.2.2⟩
/-! ### the circles -/
def exchAll : Nat → List Int → List (List Int)
  | 0, a => [a]
  | k + 1, a => a :: (List.range 4).flatMap fun p => exchAll k (exchF a p)
theorem exchAll_mem : ∀ (k : Nat) (a b : List Int), Exch k a b → b ∈ exchAll k a
  | 0, a, b, h => by
    have e : b = a := h
    rw [e]
    exact List.mem_cons_self ..
  | k + 1, a, b, h => by
    rcases h with rfl | ⟨p, hp, h⟩
    · exact List.mem_cons_self ..
    · exact List.mem_cons_of_mem _ (List.mem_flatMap.mpr ⟨p, List.mem_range.mpr hp, exchAll_mem k _ b h⟩)
def circB (ms : List Int) : Bool := fourB ms && decide ((∀ x ∈ ms, x ≠ 0 ∧ -60 ≤ x ∧ x < 2 ^ 13) ∧ ms.Pairwise fun x y => 0 < x + y)
def circN (n : Nat) : Bool := (numsA n (numsN n)).all fun z => (exchAll 3 (bendsF n z)).all circB
theorem circN_all : (List.range 9).all (fun n => circN (n + 1)) = true := by decide +kernel
def rimsB (n : Nat) : Bool := decide (0 < (numsA n (numsN n)).length ∧ (numsA n (numsN n)).length < 2 ^ 29)
theorem rimsB_all : (List.range 9).all (fun n => rimsB (n + 1)) = true := by decide +kernel
end BS

set_option Elab.async false
set_option linter.all false
set_option maxRecDepth 100000
/-! plain: the circle that is drawn; all plain facts -/
namespace BS
open PySem L2
theorem gcdL_dvd : ∀ (ns : List Int) (g : Int), ns.foldl gcd2 g ∣ g ∧ ∀ x ∈ ns, ns.foldl gcd2 g ∣ x
  | [], g => ⟨Int.dvd_refl _, fun x hx => absurd hx List.not_mem_nil⟩
  | n :: ns, g => by
    obtain ⟨h1, h2⟩ := gcdL_dvd ns (gcd2 g n)
    have d1 : gcd2 g n ∣ g := Int.ofNat_dvd_left.mpr (Nat.gcd_dvd_left _ _)
    have d2 : gcd2 g n ∣ n := Int.ofNat_dvd_left.mpr (Nat.gcd_dvd_right _ _)
    refine ⟨Int.dvd_trans h1 d1, fun x hx => ?_⟩
    rcases List.mem_cons.mp hx with rfl | hx
    · exact Int.dvd_trans h1 d2
    · exact h2 x hx
theorem dvd_gcdL : ∀ (ns : List Int) (g : Int) (k : Nat), (k : Int) ∣ g → (∀ x ∈ ns, (k : Int) ∣ x) → (k : Int) ∣ ns.foldl gcd2 g
  | [], g, k, h, _ => h
  | n :: ns, g, k, h, h2 => by
    refine dvd_gcdL ns (gcd2 g n) k ?_ fun x hx => h2 x (List.mem_cons_of_mem _ hx)
    unfold gcd2
    exact Int.ofNat_dvd.mpr (Nat.dvd_gcd (Int.ofNat_dvd_left.mp h) (Int.ofNat_dvd_left.mp (h2 n (List.mem_cons_self ..))))
theorem gcdL_nonneg : ∀ (ns : List Int) (g : Int), 0 ≤ g → 0 ≤ ns.foldl gcd2 g
  | [], g, h => h
  | n :: ns, g, h => gcdL_nonneg ns _ (Int.natCast_nonneg _)
theorem gcdL_one {ns : List Int} : gcdL ns = 1 ↔ ∀ k : Nat, (∀ x ∈ ns, (k : Int) ∣ x) → k = 1 := by
  constructor
  · intro h k hk
    have := dvd_gcdL ns 0 k (Int.dvd_zero _) hk
    have e : ns.foldl gcd2 0 = 1 := h
    rw [e] at this
    exact Nat.dvd_one.mp (Int.ofNat_dvd.mp this)
  · intro h
    have h0 := gcdL_nonneg ns 0 (Int.le_refl _)
    have := h (ns.foldl gcd2 0).toNat fun x hx => by
      rw [Int.toNat_of_nonneg h0]
      exact (gcdL_dvd ns 0).2 x hx
    show ns.foldl gcd2 0 = 1
    omega
theorem FourOk.perm {ns ms : List Int} (p : ms.Perm ns) (h : FourOk ns) : FourOk ms := by
  refine ⟨p.length_eq.trans h.len, ?_, ?_, ?_, fun x hx => h.b x (p.mem_iff.mp hx)⟩
  · rw [perm_sumI (p.map _), perm_sumI p]
    exact h.t
  · rw [perm_sumI p]
    exact h.s
  · exact gcdL_one.mpr fun k hk => gcdL_one.mp h.g k fun x hx => hk x (p.mem_iff.mpr hx)
theorem sq_dvd {g x : Nat} (h : g * g ∣ x * x) : g ∣ x := by
  have : g ^ 2 ∣ x ^ 2 := by rw [Nat.pow_two, Nat.pow_two]; exact h
  exact (Nat.pow_dvd_pow_iff (by decide)).mp this
/-- the form seen from x -/
theorem form_of4 {x y z w : Int} (ht : 2 * (x * x + y * y + z * z + w * w) = (x + y + z + w) * (x + y + z + w)) (hg : ∀ k : Nat, (k : Int) ∣ x → (k : Int) ∣ y → (k : Int) ∣ z → (k : Int) ∣ w → k = 1) (hx : x ≠ 0) (h1 : 0 < x + y) (h2 : 0 < x + z)
    (bx : x.natAbs < 2 ^ 13) (bY : y.natAbs < 2 ^ 13) (bz : z.natAbs < 2 ^ 13) (bw : w.natAbs < 2 ^ 13) : FormOk (x + y) ((x + y + z - w) / 2) (x + z) x.natAbs := by
  obtain ⟨h, hh⟩ : ∃ h, x + y + z - w = 2 * h := by
    have : (x + y + z + w) % 2 = 0 := by
      rcases Int.emod_two_eq (x + y + z + w) with e | e
      · exact e
      · exfalso
        obtain ⟨k, hk⟩ : ∃ k, x + y + z + w = 2 * k + 1 := ⟨(x + y + z + w) / 2, by omega⟩
        rw [hk] at ht
        have : (2 * k + 1) * (2 * k + 1) = 2 * (2 * (k * k) + 2 * k) + 1 := by grind
        omega
    exact ⟨(x + y + z - w) / 2, by omega⟩
  have hd : (x + y + z - w) / 2 = h := by omega
  rw [hd]
  have hw : w = x + y + z - 2 * h := by omega
  have disc : (x + y) * (x + z) - h * h = x * x := by
    subst hw
    grind
  refine ⟨h1, h2, ?_, by omega, by omega, by omega, by omega, by omega, ?_⟩
  · rw [abs_sq]
    exact disc
  · refine gcd3_of fun g d1 d2 d3 => ?_
    have dx : (g : Int) ∣ x := by
      refine Int.ofNat_dvd_left.mpr (sq_dvd ?_)
      have e1 : (g : Int) * g ∣ x * x := by
        rw [← disc]
        exact Int.dvd_sub (Int.mul_dvd_mul d1 d3) (Int.mul_dvd_mul d2 d2)
      rw [← Int.natAbs_mul]
      have : ((g * g : Nat) : Int) ∣ x * x := by rw [Int.natCast_mul]; exact e1
      exact Int.ofNat_dvd_left.mp this
    have dy : (g : Int) ∣ y := by
      have := Int.dvd_sub d1 dx
      rw [show x + y - x = y by omega] at this
      exact this
    have dz : (g : Int) ∣ z := by
      have := Int.dvd_sub d3 dx
      rw [show x + z - x = z by omega] at this
      exact this
    refine hg g dx dy dz ?_
    rw [hw]
    exact Int.dvd_sub (Int.dvd_add (Int.dvd_add dx dy) dz) (Int.dvd_trans d2 (Int.dvd_mul_left 2 h))
theorem circ_place {a b c d : Int} (f4 : FourOk [a, b, c, d]) (ha : ∀ x ∈ [a, b, c, d], x ≠ 0 ∧ -60 ≤ x ∧ x < 2 ^ 13) (hp : [a, b, c, d].Pairwise fun x y => 0 < x + y) (p : Int) (p0 : 0 ≤ p) (p1 : p < 4) : CircOk a b c d p := by
  have ht : 2 * (a * a + b * b + c * c + d * d) = (a + b + c + d) * (a + b + c + d) := by
    have := f4.t
    simp only [List.map_cons, List.map_nil, List.sum_cons, List.sum_nil, Int.add_zero] at this
    rw [show a + b + c + d = a + (b + (c + d)) by omega, ← this]
    omega
  have hg := gcdL_one.mp f4.g
  have g4 : ∀ k : Nat, (k : Int) ∣ a → (k : Int) ∣ b → (k : Int) ∣ c → (k : Int) ∣ d → k = 1 := fun k ka kb kc kd => hg k fun x hx => by
    simp only [List.mem_cons, List.not_mem_nil, or_false] at hx
    rcases hx with rfl | rfl | rfl | rfl <;> assumption
  obtain ⟨a0, a1, a2⟩ := ha a (by simp)
  obtain ⟨b0, b1, b2⟩ := ha b (by simp)
  obtain ⟨c0, c1, c2⟩ := ha c (by simp)
  obtain ⟨d0, d1, d2⟩ := ha d (by simp)
  simp only [List.pairwise_cons, List.mem_cons, List.not_mem_nil, or_false, forall_eq_or_imp, forall_eq, List.Pairwise.nil, and_true, false_implies, implies_true] at hp
  obtain ⟨⟨s1, s2, s3⟩, ⟨s4, s5⟩, s6⟩ := hp
  have q : p = 0 ∨ p = 1 ∨ p = 2 ∨ p = 3 := by omega
  rcases q with rfl | rfl | rfl | rfl
  · have F := form_of4 (x := a) (y := b) (z := c) (w := d) ht g4 a0 s1 s2 (by omega) (by omega) (by omega) (by omega)
    exact ⟨⟨by decide, by decide, a0, show a.natAbs < 2 ^ 14 by omega, F, show a + b < 2 ^ 15 by omega, show ((a + b + c - d) / 2).natAbs < 2 ^ 58 by omega⟩, a1, a2, s2, show a + c < 2 ^ 28 by omega, show ((a + b + c - d) / 2).natAbs < 2 ^ 28 by omega, show (a + b).natAbs < 2 ^ 28 by omega⟩
  · have F := form_of4 (x := b) (y := a) (z := c) (w := d) (by grind) (fun k k1 k2 k3 k4 => g4 k k2 k1 k3 k4) b0 (by omega) s4 (by omega) (by omega) (by omega) (by omega)
    exact ⟨⟨by decide, by decide, b0, show b.natAbs < 2 ^ 14 by omega, F, show b + a < 2 ^ 15 by omega, show ((b + a + c - d) / 2).natAbs < 2 ^ 58 by omega⟩, b1, b2, s4, show b + c < 2 ^ 28 by omega, show ((b + a + c - d) / 2).natAbs < 2 ^ 28 by omega, show (b + a).natAbs < 2 ^ 28 by omega⟩
  · have F := form_of4 (x := c) (y := a) (z := b) (w := d) (by grind) (fun k k1 k2 k3 k4 => g4 k k2 k3 k1 k4) c0 (by omega) (by omega) (by omega) (by omega) (by omega) (by omega)
    exact ⟨⟨by decide, by decide, c0, show c.natAbs < 2 ^ 14 by omega, F, show c + a < 2 ^ 15 by omega, show ((c + a + b - d) / 2).natAbs < 2 ^ 58 by omega⟩, c1, c2, show 0 < c + b by omega, show c + b < 2 ^ 28 by omega, show ((c + a + b - d) / 2).natAbs < 2 ^ 28 by omega, show (c + a).natAbs < 2 ^ 28 by omega⟩
  · have F := form_of4 (x := d) (y := a) (z := b) (w := c) (by grind) (fun k k1 k2 k3 k4 => g4 k k2 k3 k4 k1) d0 (by omega) (by omega) (by omega) (by omega) (by omega) (by omega)
    exact ⟨⟨by decide, by decide, d0, show d.natAbs < 2 ^ 14 by omega, F, show d + a < 2 ^ 15 by omega, show ((d + a + b - c) / 2).natAbs < 2 ^ 58 by omega⟩, d1, d2, show 0 < d + b by omega, show d + b < 2 ^ 28 by omega, show ((d + a + b - c) / 2).natAbs < 2 ^ 28 by omega, show (d + a).natAbs < 2 ^ 28 by omega⟩
theorem circ_in {n : Nat} (n0 : 0 < n) (n1 : n ≤ 9) {z : Int × Int × Int} (hz : z ∈ numsA n (numsN n)) {ms' : List Int} (h : Exch 3 (bendsF n z) ms') : circB ms' = true := by
  have h1 := List.all_eq_true.mp circN_all (n - 1) (List.mem_range.mpr (by omega))
  rw [show n - 1 + 1 = n by omega] at h1
  exact List.all_eq_true.mp (List.all_eq_true.mp h1 z hz) ms' (exchAll_mem 3 _ _ h)
theorem circB_ok {ms : List Int} (h : circB ms = true) : FourOk ms ∧ (∀ x ∈ ms, x ≠ 0 ∧ -60 ≤ x ∧ x < 2 ^ 13) ∧ ms.Pairwise fun x y => 0 < x + y := by
  unfold circB at h
  rw [Bool.and_eq_true] at h
  exact ⟨fourB_ok h.1, of_decide_eq_true h.2⟩
theorem mf_all : MF := by
  refine ⟨rimOk, fun n v n0 _ v0 _ L pm => rim_sum n0 v0 pm, fun n n0 n1 => ?_, fun n n0 n1 => ?_, fun n n0 n1 z hz ms' hE ms pm => ?_, ?_, ?_, ?_, ones, led_all⟩
  · have h := List.all_eq_true.mp rimsB_all (n - 1) (List.mem_range.mpr (by omega))
    rw [show n - 1 + 1 = n by omega] at h
    exact ⟨(of_decide_eq_true h).1, fun z hz => (circB_ok (circ_in n0 n1 hz (Exch.refl 3 _))).1⟩
  · have h := List.all_eq_true.mp rimsB_all (n - 1) (List.mem_range.mpr (by omega))
    rw [show n - 1 + 1 = n by omega] at h
    exact (of_decide_eq_true h).2
  · obtain ⟨h1, h2, h3⟩ := circB_ok (circ_in n0 n1 hz hE)
    have f4 := h1.perm pm
    refine ⟨f4, ?_⟩
    have hl := f4.len
    match ms, hl with
    | [a, b, c, d], _ => exact ⟨a, b, c, d, rfl, circ_place f4 (fun x hx => h2 x (pm.mem_iff.mp hx)) ((pm.pairwise_iff fun {x y} h => by omega).mpr h3)⟩
  · intro a b c d p M ok m0 m1 fa fb fc fp fq fr fs red act most h1 h2
    have hd := ok.f.d
    rw [abs_sq] at hd
    rw [show numsAt a b c d p = ((numsAt a b c d p).1, (numsAt a b c d p).2.1, (numsAt a b c d p).2.2) from rfl, manyF_same red act]
    exact count_spots led_all red (act.disc2.trans hd) ok.z (act.gcd ok.f.g) m0 h1
  · intro a b c d p M ok m0 m1 n _ h2
    have hd := ok.f.d
    rw [abs_sq] at hd
    exact count_pairs led_all ok.f.pa ok.f.pc hd ok.z ok.f.g m0 n h2
  · intro a b c p q r s m z red _ _ hz
    exact spots_worth red hz
end BS

set_option Elab.async false
set_option linter.all false
set_option maxRecDepth 100000
set_option maxHeartbeats 0
/-! the head: facts by names, the run -/
namespace BS
open PySem PySem.Spec PyProof.Rows L2
def q_is_integer : He.DefD := ⟨("is_integer", none), "is_integer", "is_integer", defArgs s_is_integer, defBody s_is_integer, defScope s_is_integer, [], []⟩
def q_is_within : He.DefD := ⟨("is_within", none), "is_within", "is_within", defArgs s_is_within, defBody s_is_within, defScope s_is_within, [], []⟩
def q_is_place : He.DefD := ⟨("is_place", none), "is_place", "is_place", defArgs s_is_place, defBody s_is_place, defScope s_is_place, [], []⟩
def q_are_integers : He.DefD := ⟨("are_integers", none), "are_integers", "are_integers", defArgs s_are_integers, defBody s_are_integers, defScope s_are_integers, [], []⟩
def q_need_number : He.DefD := ⟨("need_number", none), "need_number", "need_number", defArgs s_need_number, defBody s_need_number, defScope s_need_number, [], []⟩
def q_need_place : He.DefD := ⟨("need_place", none), "need_place", "need_place", defArgs s_need_place, defBody s_need_place, defScope s_need_place, [], []⟩
def q_measure : He.DefD := ⟨("measure", none), "measure", "measure", defArgs s_measure, defBody s_measure, defScope s_measure, [], []⟩
def q_root_of : He.DefD := ⟨("root_of", none), "root_of", "root_of", defArgs s_root_of, defBody s_root_of, defScope s_root_of, [], []⟩
def q_need_numbers : He.DefD := ⟨("need_numbers", none), "need_numbers", "need_numbers", defArgs s_need_numbers, defBody s_need_numbers, defScope s_need_numbers, [], []⟩
def q_need_form : He.DefD := ⟨("need_form", none), "need_form", "need_form", defArgs s_need_form, defBody s_need_form, defScope s_need_form, [.str "form"], []⟩
def q_worth_of : He.DefD := ⟨("worth_of", none), "worth_of", "worth_of", defArgs s_worth_of, defBody s_worth_of, defScope s_worth_of, [], []⟩
def q_Form_init : He.DefD := ⟨("Form", some "__init__"), "__init__", "Form.__init__", defArgs s_Form_init, defBody s_Form_init, defScope s_Form_init, [], []⟩
def q_need_bends : He.DefD := ⟨("need_bends", none), "need_bends", "need_bends", defArgs s_need_bends, defBody s_need_bends, defScope s_need_bends, [], []⟩
def q_need_four : He.DefD := ⟨("need_four", none), "need_four", "need_four", defArgs s_need_four, defBody s_need_four, defScope s_need_four, [.str "four"], []⟩
def q_Four_init : He.DefD := ⟨("Four", some "__init__"), "__init__", "Four.__init__", defArgs s_Four_init, defBody s_Four_init, defScope s_Four_init, [], []⟩
def q_others_of : He.DefD := ⟨("others_of", none), "others_of", "others_of", defArgs s_others_of, defBody s_others_of, defScope s_others_of, [], []⟩
def q_numbers_at : He.DefD := ⟨("numbers_at", none), "numbers_at", "numbers_at", defArgs s_numbers_at, defBody s_numbers_at, defScope s_numbers_at, [], []⟩
def q_bends_from : He.DefD := ⟨("bends_from", none), "bends_from", "bends_from", defArgs s_bends_from, defBody s_bends_from, defScope s_bends_from, [], []⟩
def q_need_bent : He.DefD := ⟨("need_bent", none), "need_bent", "need_bent", defArgs s_need_bent, defBody s_need_bent, defScope s_need_bent, [], []⟩
def q_need_round : He.DefD := ⟨("need_round", none), "need_round", "need_round", defArgs s_need_round, defBody s_need_round, defScope s_need_round, [], []⟩
def q_form_at : He.DefD := ⟨("form_at", none), "form_at", "form_at", defArgs s_form_at, defBody s_form_at, defScope s_form_at, [], []⟩
def q_four_from : He.DefD := ⟨("four_from", none), "four_from", "four_from", defArgs s_four_from, defBody s_four_from, defScope s_four_from, [], []⟩
def q_fixed : He.DefD := ⟨("fixed", none), "fixed", "fixed", defArgs s_fixed, defBody s_fixed, defScope s_fixed, [], []⟩
def q_Paper_init : He.DefD := ⟨("Paper", some "__init__"), "__init__", "Paper.__init__", defArgs s_Paper_init, defBody s_Paper_init, defScope s_Paper_init, [], []⟩
def q_Paper_bool : He.DefD := ⟨("Paper", some "__bool__"), "__bool__", "Paper.__bool__", defArgs s_Paper_bool, defBody s_Paper_bool, defScope s_Paper_bool, [], []⟩
def q_Denial_bool : He.DefD := ⟨("Denial", some "__bool__"), "__bool__", "Denial.__bool__", defArgs s_Denial_bool, defBody s_Denial_bool, defScope s_Denial_bool, [], []⟩
def q_shifted : He.DefD := ⟨("shifted", none), "shifted", "shifted", defArgs s_shifted, defBody s_shifted, defScope s_shifted, [], []⟩
def q_exchanged_ends : He.DefD := ⟨("exchanged_ends", none), "exchanged_ends", "exchanged_ends", defArgs s_exchanged_ends, defBody s_exchanged_ends, defScope s_exchanged_ends, [], []⟩
def q_is_in_order : He.DefD := ⟨("is_in_order", none), "is_in_order", "is_in_order", defArgs s_is_in_order, defBody s_is_in_order, defScope s_is_in_order, [], []⟩
def q_led : He.DefD := ⟨("led", none), "led", "led", defArgs s_led, defBody s_led, defScope s_led, [], []⟩
def q_form_of : He.DefD := ⟨("form_of", none), "form_of", "form_of", defArgs s_form_of, defBody s_form_of, defScope s_form_of, [], []⟩
def q_told : He.DefD := ⟨("told", none), "told", "told", defArgs s_told, defBody s_told, defScope s_told, [], []⟩
def q_columns : He.DefD := ⟨("columns", none), "columns", "columns", defArgs s_columns, defBody s_columns, defScope s_columns, [], []⟩
def q_spots : He.DefD := ⟨("spots", none), "spots", "spots", defArgs s_spots, defBody s_spots, defScope s_spots, [], []⟩
def q_forms_with : He.DefD := ⟨("forms_with", none), "forms_with", "forms_with", defArgs s_forms_with, defBody s_forms_with, defScope s_forms_with, [], []⟩
def q_need_worth : He.DefD := ⟨("need_worth", none), "need_worth", "need_worth", defArgs s_need_worth, defBody s_need_worth, defScope s_need_worth, [], []⟩
def q_touching : He.DefD := ⟨("touching", none), "touching", "touching", defArgs s_touching, defBody s_touching, defScope s_touching, [], []⟩
def q_touches : He.DefD := ⟨("touches", none), "touches", "touches", defArgs s_touches, defBody s_touches, defScope s_touches, [], []⟩
def q_roots_by : He.DefD := ⟨("roots_by", none), "roots_by", "roots_by", defArgs s_roots_by, defBody s_roots_by, defScope s_roots_by, [], []⟩
def q_many_touching : He.DefD := ⟨("many_touching", none), "many_touching", "many_touching", defArgs s_many_touching, defBody s_many_touching, defScope s_many_touching, [], []⟩
def q_numbers_of : He.DefD := ⟨("numbers_of", none), "numbers_of", "numbers_of", defArgs s_numbers_of, defBody s_numbers_of, defScope s_numbers_of, [], []⟩
def q_all_bends : He.DefD := ⟨("all_bends", none), "all_bends", "all_bends", defArgs s_all_bends, defBody s_all_bends, defScope s_all_bends, [], []⟩
def q_rim_fours : He.DefD := ⟨("rim_fours", none), "rim_fours", "rim_fours", defArgs s_rim_fours, defBody s_rim_fours, defScope s_rim_fours, [], []⟩
def q_law_jar : He.DefD := ⟨("_law_jar", none), "_law_jar", "_law_jar", defArgs s_law_jar, defBody s_law_jar, defScope s_law_jar, [], []⟩
def q_law_lot : He.DefD := ⟨("_law_lot", none), "_law_lot", "_law_lot", defArgs s_law_lot, defBody s_law_lot, defScope s_law_lot, [], []⟩
def q_law_take : He.DefD := ⟨("_law_take", none), "_law_take", "_law_take", defArgs s_law_take, defBody s_law_take, defScope s_law_take, [], []⟩
def q_law_mixed : He.DefD := ⟨("_law_mixed", none), "_law_mixed", "_law_mixed", defArgs s_law_mixed, defBody s_law_mixed, defScope s_law_mixed, [], []⟩
def q_law_divisor : He.DefD := ⟨("_law_divisor", none), "_law_divisor", "_law_divisor", defArgs s_law_divisor, defBody s_law_divisor, defScope s_law_divisor, [], []⟩
def q_law_forms : He.DefD := ⟨("_law_forms", none), "_law_forms", "_law_forms", defArgs s_law_forms, defBody s_law_forms, defScope s_law_forms, [], []⟩
def q_law_walked : He.DefD := ⟨("_law_walked", none), "_law_walked", "_law_walked", defArgs s_law_walked, defBody s_law_walked, defScope s_law_walked, [], []⟩
def q_law_many : He.DefD := ⟨("_law_many", none), "_law_many", "_law_many", defArgs s_law_many, defBody s_law_many, defScope s_law_many, [], []⟩
def q_law_root : He.DefD := ⟨("_law_root", none), "_law_root", "_law_root", defArgs s_law_root, defBody s_law_root, defScope s_law_root, [], []⟩
def q_law_pairs : He.DefD := ⟨("_law_pairs", none), "_law_pairs", "_law_pairs", defArgs s_law_pairs, defBody s_law_pairs, defScope s_law_pairs, [], []⟩
def q_law_rim_right : He.DefD := ⟨("_law_rim_right", none), "_law_rim_right", "_law_rim_right", defArgs s_law_rim_right, defBody s_law_rim_right, defScope s_law_rim_right, [], []⟩
def q_law_circle_right : He.DefD := ⟨("_law_circle_right", none), "_law_circle_right", "_law_circle_right", defArgs s_law_circle_right, defBody s_law_circle_right, defScope s_law_circle_right, [], []⟩
def q_law : He.DefD := ⟨("law", none), "law", "law", defArgs s_law, defBody s_law, defScope s_law, [], []⟩
def hfn0 : List He.DefD := [q_is_integer, q_is_within, q_is_place, q_are_integers, q_need_number, q_need_place, q_measure, q_root_of, q_need_numbers, q_need_form, q_worth_of, q_Form_init, q_need_bends, q_need_four, q_Four_init, q_others_of, q_numbers_at, q_bends_from, q_need_bent, q_need_round, q_form_at, q_four_from, q_fixed, q_Paper_init, q_Paper_bool, q_Denial_bool, q_shifted, q_exchanged_ends, q_is_in_order, q_led]
def hfn1 : List He.DefD := [q_form_of, q_told, q_columns, q_spots, q_forms_with, q_need_worth, q_touching, q_touches, q_roots_by, q_many_touching, q_numbers_of, q_all_bends, q_rim_fours, q_law_jar, q_law_lot, q_law_take, q_law_mixed, q_law_divisor, q_law_forms, q_law_walked, q_law_many, q_law_root, q_law_pairs, q_law_rim_right, q_law_circle_right, q_law]
def hfn : List He.DefD := hfn0 ++ hfn1
def hfa0 : List He.Fa := [.glo "is_integer", .glo "is_within", .glo "is_place", .glo "are_integers", .glo "need_number", .glo "need_place", .glo "measure", .glo "root_of", .glo "need_numbers", .glo "need_form", .glo "worth_of", .glo "need_bends", .glo "need_four", .glo "others_of", .glo "numbers_at", .glo "bends_from", .glo "need_bent", .glo "need_round", .glo "form_at", .glo "four_from", .glo "fixed", .glo "shifted", .glo "exchanged_ends", .glo "is_in_order", .glo "led", .glo "form_of", .glo "told", .glo "columns", .glo "spots", .glo "forms_with"]
def hfa1 : List He.Fa := [.glo "need_worth", .glo "touching", .glo "touches", .glo "roots_by", .glo "many_touching", .glo "numbers_of", .glo "all_bends", .glo "rim_fours", .glo "_law_jar", .glo "_law_lot", .glo "_law_take", .glo "_law_mixed", .glo "_law_divisor", .glo "_law_forms", .glo "_law_walked", .glo "_law_many", .glo "_law_root", .glo "_law_pairs", .glo "_law_rim_right", .glo "_law_circle_right", .glo "law", .glo "Form", .cls "Form", .glo "Four", .cls "Four", .glo "Paper", .cls "Paper", .glo "Denial", .cls "Denial", .glo "Touching"]
def hfa2 : List He.Fa := [.cls "Touching", .glo "Untouched", .cls "Untouched", .mkr "Form", .mkr "Four", .free "isinstance", .free "int", .free "bool", .free "list", .free "tuple", .free "all", .free "len", .free "sum", .free "sorted", .free "set", .free "range", .free "abs", .free "max", .free "repr", .free "str", .free "super", .int "PLACES" 4, .int "MOST_BEND" 500, .int "MOST_WORTH" 2000, .int "MOST_RIM" 60, .noat "Form" "numbers", .noat "Form" "side", .noat "Four" "bends", .noat "Four" "total", .noat "Touching" "word"]
def hfa3 : List He.Fa := [.noat "Touching" "parts", .noat "Touching" "x", .noat "Touching" "y", .noat "Untouched" "word", .noat "Untouched" "parts", .noat "Untouched" "forms", .mkr "Paper", .mkr "Touching", .mkr "Untouched"]
def hfa : List He.Fa := hfa0 ++ hfa1 ++ hfa2 ++ hfa3
def hexL (K : PySem.W.Frag) : List Bool := [He.eqO (PySem.W.nsIn K mainGlobals "gcd") (some (some (.builtin "math.gcd"))),
  He.eqO (PySem.W.nsIn K mainGlobals "isqrt") (some (some (.builtin "math.isqrt"))),
  He.eqO (PySem.W.specialIn K (.builtin "object.__class__") "__get__") (some (some (.builtin "getset_descriptor.__get__"))),
  decide (PySem.W.takesIn K (.builtin "object.__class__") = some true),
  He.eqO (PySem.W.findIn K (.ref (He.ga K "Form")) "__class__") (some (some (.builtin "object.__class__"))),
  decide (PySem.W.mroIn K (He.ga K "Form") (.type "object") = some true),
  He.eqO (PySem.W.findIn K (.ref (He.ga K "Four")) "__class__") (some (some (.builtin "object.__class__"))),
  decide (PySem.W.mroIn K (He.ga K "Four") (.type "object") = some true),
  He.eqO (PySem.W.findIn K (.ref (He.ga K "Paper")) "__class__") (some (some (.builtin "object.__class__"))),
  decide (PySem.W.mroIn K (He.ga K "Paper") (.type "object") = some true),
  He.eqO (PySem.W.findIn K (.ref (He.ga K "Denial")) "__class__") (some (some (.builtin "object.__class__"))),
  decide (PySem.W.mroIn K (He.ga K "Denial") (.type "object") = some true),
  He.eqO (PySem.W.findIn K (.ref (He.ga K "Touching")) "__class__") (some (some (.builtin "object.__class__"))),
  decide (PySem.W.mroIn K (He.ga K "Touching") (.type "object") = some true),
  He.eqO (PySem.W.findIn K (.ref (He.ga K "Untouched")) "__class__") (some (some (.builtin "object.__class__"))),
  decide (PySem.W.mroIn K (He.ga K "Untouched") (.type "object") = some true)]
abbrev prgH : Program := (PySem.Challenge.rw_bendsigns_k21_whole_bends_that_touch_a_r).prog
/-- a def with a closure -/
def iniA (K : PySem.W.Frag) (T : Str) : Addr := He.ma K (He.ga K T) "__init__"
def cloB (K : PySem.W.Frag) (T q : Str) : Bool := match K.lookup (iniA K T) with
  | some ⟨_, _, .func fd, _⟩ => (match fd.closure, fd.defaults, fd.code with
    | [(n, cc)], .none, .ref cda => decide (n = "__class__") && (PySem.W.codeIn K (.ref cda) q && ((match K.lookup cda with
        | some ⟨_, _, .fields vs, _⟩ => (match vs[2]? with
          | some (Value.str file _) => (prgH.main.file : Str) == file
          | _ => false)
        | _ => false) && (match K.lookup cc with
        | some ⟨_, none, .cell (some (.ref C)), _⟩ => decide (C = He.ga K T)
        | some ⟨_, some _, .cell (some (.ref C)), _⟩ => decide (C = He.ga K T)
        | _ => false)))
    | _, _, _ => false)
  | _ => false
def fnTy (K : PySem.W.Frag) (a : Addr) : Bool := match K.lookup a with
  | some o => decide (o.cls = .type "function")
  | none => false
def supL (K : PySem.W.Frag) (T q : Str) : List Bool := [cloB K T q,
  (PySem.W.clsIn K (He.ga K T)).isSome,
  decide (PySem.W.mroIn K (He.ga K T) (.ref (He.ga K T)) = some true),
  He.eqO (PySem.W.nsIn K PySem.cStatics "thirdparty.any") (some none),
  He.eqO (PySem.W.ks_superIn K (He.ga K T) (He.ga K T) "__init__") (some (some (.ref (iniA K "Paper")))),
  decide (PySem.W.typeIn K (.ref (iniA K "Paper")) = some (.type "function")),
  PySem.W.fnIn K (iniA K "Paper")]
def hex2L (K : PySem.W.Frag) : List Bool := [decide (PySem.W.kitAny K (.ref (He.ga K "Form")) [.type "list", .type "tuple"] = some false),
  He.eqO (PySem.W.findIn K (.ref (He.ga K "Touching")) "__bool__") (some (some (.ref (He.ma K (He.ga K "Paper") "__bool__")))),
  He.eqO (PySem.W.findIn K (.ref (He.ga K "Untouched")) "__bool__") (some (some (.ref (He.ma K (He.ga K "Denial") "__bool__")))),
  fnTy K (He.ma K (He.ga K "Paper") "__bool__"),
  fnTy K (He.ma K (He.ga K "Denial") "__bool__")]
def hex (K : PySem.W.Frag) : Bool := (hexL K).all id && ((hex2L K).all id && ((supL K "Touching" "Touching.__init__").all id && (supL K "Untouched" "Untouched.__init__").all id))
abbrev FnC : Type := Option (Str × Str × Arguments × FuncBody × Scope × Addr × List Str × Addr)
def fnC (K : PySem.W.Frag) (T : Str) : FnC := match K.lookup (iniA K T) with
  | some ⟨_, _, .func fd, _⟩ => some (fd.name, fd.qualname, fd.params, fd.body, fd.scope, fd.globals, fd.closure.map (·.1), fd.builtins)
  | _ => none
def valC : List FnC := [some ("__init__", "Touching.__init__", defArgs s_Touching_init, .stmts (defBody s_Touching_init), defScope s_Touching_init, mainGlobals, ["__class__"], builtinsNs),
  some ("__init__", "Untouched.__init__", defArgs s_Untouched_init, .stmts (defBody s_Untouched_init), defScope s_Untouched_init, mainGlobals, ["__class__"], builtinsNs)]
def exY (K : PySem.W.Frag) : Bool × List FnC := (hex K, [fnC K "Touching", fnC K "Untouched"])
/-- the addresses that are looked at: the names' objects, what they name, four turns -/
def refsY (o : Obj) : List Addr := match o.data with
  | .dict es _ => es.toList.flatMap fun e => He.refV e.val
  | .func fd => He.refV fd.code ++ (He.refV fd.defaults ++ fd.closure.map (·.2))
  | .cls cd => cd.ns :: cd.mro.flatMap He.refV
  | _ => []
def growY (g : Addr → Option Obj) (as : List Addr) : List Addr := as.flatMap fun a => match g a with
  | some o => refsY o
  | none => []
def asY (g : Addr → Option Obj) : List Addr :=
  let f1 := growY g [mainGlobals]
  let f2 := growY g f1
  let f3 := growY g f2
  mainGlobals :: PySem.cStatics :: (f1 ++ (f2 ++ (f3 ++ growY g f3)))
def frY (g : Addr → Option Obj) : PySem.W.Frag := He.frG g (asY g)
def obsY (fa : List He.Fa) (fn : List He.DefD) (ex : PySem.W.Frag → Bool × List FnC) (K : PySem.W.Frag) : He.AlD × (Bool × List FnC) := (He.obsD fa fn K, ex K)
/-- the facts' hook, with more of K -/
def hookY (fa : List He.Fa) (fn : List He.DefD) (ex : PySem.W.Frag → Bool × List FnC) : PySem.W.Hook where
  α := He.AlD × (Bool × List FnC)
  obs := fun s => obsY fa fn ex (frY s.heap.get?)
  val := fun _ => (He.valD fn, (true, valC))
  says := fun _ h => ∃ K : PySem.W.Frag, K.In h ∧ He.SaysD fa fn K ∧ ex K = (true, valC)
  of := fun _ _ e => ⟨_, He.frG_in, congrArg (fun z : He.AlD × (Bool × List FnC) => z.1) e, congrArg (fun z : He.AlD × (Bool × List FnC) => z.2) e⟩
  keeps := fun _ _ _ ⟨K, hK, c⟩ k => ⟨K, PySem.W.Frag.In.keeps hK k, c⟩
abbrev hR : PySem.W.OpenRow := PySem.W.OpenLaw.row PySem.Challenge.rw_bendsigns_k21_whole_bends_that_touch_a_r
abbrev hV : Program := PySem.W.view hR.prog [0, 88]
abbrev hk : PySem.W.Hook := hookY hfa hfn exY
def hob (s : PySem.W.SharedT) : He.AlD × (Bool × List FnC) := obsY hfa hfn exY (frY (HandSHeadRun.getT s))
theorem hob_eq (s : PySem.W.SharedT) : hob s = hk.obs s.abs := by
  have e : HandSHeadRun.getT s = s.abs.heap.get? := funext (HandSHeadRun.getT_eq s)
  unfold hob
  rw [e]
  rfl
def hloose0 : List PySem.Str := ["_wall", "__name__", "BendError", "BadNumber", "BadFour", "BadForm", "Missing", "NoPlace", "Flat", "BadText", "PLACES", "DIGITS", "is_integer", "is_within", "is_place", "are_integers", "need_number", "need_place", "measure", "root_of", "MOST_DIGITS", "is_written", "Scan", "need_numbers", "need_form", "worth_of", "Form", "need_bends", "need_four", "let_in"]
def hloose1 : List PySem.Str := ["exchanged_at", "Four", "others_of", "numbers_at", "bends_from", "need_bent", "need_round", "form_at", "four_from", "fixed", "Paper", "Denial", "shifted", "exchanged_ends", "is_in_order", "led", "form_of", "MOST_BEND", "MOST_WORTH", "Touching", "Untouched", "told", "columns", "spots", "forms_with", "need_worth", "touching", "touches", "roots_by", "many_touching"]
def hloose2 : List PySem.Str := ["MOST_RIM", "numbers_of", "all_bends", "rim_fours", "_law_jar", "_law_lot", "_law_take", "_law_mixed", "_law_divisor", "_law_forms", "_law_walked", "_law_many", "_law_root", "_law_pairs", "_law_rim_right", "_law_circle_right"]
def hloose : List PySem.Str := hloose0 ++ hloose1 ++ hloose2
theorem hrun (w : World) : HandSHeadRun.RunEqI hR hV hk hob 7000 hloose w := by
  unfold HandSHeadRun.RunEqI
  kernel_rfl
end BS

set_option Elab.async false
set_option linter.all false
set_option maxRecDepth 100000
set_option maxHeartbeats 4000000
/-! the head's facts as the walks want them; the end -/
namespace BS
open PySem PySem.Spec PyProof.Rows L2
section
variable {K : PySem.W.Frag} {h : Heap} {mg : Str → Option Value} {x : Str} {st : Stmt}
theorem all_get {L : List Bool} (h : L.all id = true) (i : Nat) {b : Bool} (hb : L[i]? = some b) : b = true := List.all_eq_true.mp h b (List.mem_of_getElem? hb)
theorem knf {dvs : List V} (h : ∃ fd, FunD K x x (defArgs st) (defBody st) (defScope st) dvs [] (He.ga K x) fd) (g : mg x = some (.ref (He.ga K x))) : KnF K mg x st dvs := h.elim fun fd F => ⟨_, fd, F, g⟩
theorem kni {C q : Str} (h : ∃ fd, FunD K "__init__" q (defArgs st) (defBody st) (defScope st) [] [] (He.ma K (He.ga K C) "__init__") fd) (m : Mk K (He.ga K C) (He.ma K (He.ga K C) "__init__")) (g : mg C = some (.ref (He.ga K C))) : KnI K mg C q st := h.elim fun fd F => ⟨_, fd, F, m, g⟩
theorem knm {C n q : Str} (h : ∃ fd, FunD K n q (defArgs st) (defBody st) (defScope st) [] [] (He.ma K (He.ga K C) n) fd) : KnM K C n q st := h.elim fun fd F => ⟨_, fd, F, rfl⟩
theorem hf_of (X : K.In h) (G : h.Ns mainGlobals mg) (c : He.SaysD hfa hfn K) (e : exY K = (true, valC)) : HF K mg := by
  have e0 : hex K = true := congrArg (fun z : Bool × List FnC => z.1) e
  obtain ⟨e1, _⟩ := Bool.and_eq_true_iff.mp e0
  exact {
    d_is_integer := knf (c.def_ 0 (d := q_is_integer)) (He.glo_ok X G (c.fact 0 (f := .glo "is_integer")))
    d_is_within := knf (c.def_ 1 (d := q_is_within)) (He.glo_ok X G (c.fact 1 (f := .glo "is_within")))
    d_is_place := knf (c.def_ 2 (d := q_is_place)) (He.glo_ok X G (c.fact 2 (f := .glo "is_place")))
    d_are_integers := knf (c.def_ 3 (d := q_are_integers)) (He.glo_ok X G (c.fact 3 (f := .glo "are_integers")))
    d_need_number := knf (c.def_ 4 (d := q_need_number)) (He.glo_ok X G (c.fact 4 (f := .glo "need_number")))
    d_need_place := knf (c.def_ 5 (d := q_need_place)) (He.glo_ok X G (c.fact 5 (f := .glo "need_place")))
    d_measure := knf (c.def_ 6 (d := q_measure)) (He.glo_ok X G (c.fact 6 (f := .glo "measure")))
    d_root_of := knf (c.def_ 7 (d := q_root_of)) (He.glo_ok X G (c.fact 7 (f := .glo "root_of")))
    d_need_numbers := knf (c.def_ 8 (d := q_need_numbers)) (He.glo_ok X G (c.fact 8 (f := .glo "need_numbers")))
    d_need_form := knf (c.def_ 9 (d := q_need_form)) (He.glo_ok X G (c.fact 9 (f := .glo "need_form")))
    d_worth_of := knf (c.def_ 10 (d := q_worth_of)) (He.glo_ok X G (c.fact 10 (f := .glo "worth_of")))
    d_Form_init := kni (c.def_ 11 (d := q_Form_init)) (He.mkr_ok (c.fact 63 (f := .mkr "Form"))) (He.glo_ok X G (c.fact 51 (f := .glo "Form")))
    d_need_bends := knf (c.def_ 12 (d := q_need_bends)) (He.glo_ok X G (c.fact 11 (f := .glo "need_bends")))
    d_need_four := knf (c.def_ 13 (d := q_need_four)) (He.glo_ok X G (c.fact 12 (f := .glo "need_four")))
    d_Four_init := kni (c.def_ 14 (d := q_Four_init)) (He.mkr_ok (c.fact 64 (f := .mkr "Four"))) (He.glo_ok X G (c.fact 53 (f := .glo "Four")))
    d_others_of := knf (c.def_ 15 (d := q_others_of)) (He.glo_ok X G (c.fact 13 (f := .glo "others_of")))
    d_numbers_at := knf (c.def_ 16 (d := q_numbers_at)) (He.glo_ok X G (c.fact 14 (f := .glo "numbers_at")))
    d_bends_from := knf (c.def_ 17 (d := q_bends_from)) (He.glo_ok X G (c.fact 15 (f := .glo "bends_from")))
    d_need_bent := knf (c.def_ 18 (d := q_need_bent)) (He.glo_ok X G (c.fact 16 (f := .glo "need_bent")))
    d_need_round := knf (c.def_ 19 (d := q_need_round)) (He.glo_ok X G (c.fact 17 (f := .glo "need_round")))
    d_form_at := knf (c.def_ 20 (d := q_form_at)) (He.glo_ok X G (c.fact 18 (f := .glo "form_at")))
    d_four_from := knf (c.def_ 21 (d := q_four_from)) (He.glo_ok X G (c.fact 19 (f := .glo "four_from")))
    d_fixed := knf (c.def_ 22 (d := q_fixed)) (He.glo_ok X G (c.fact 20 (f := .glo "fixed")))
    d_Paper_init := kni (c.def_ 23 (d := q_Paper_init)) (He.mkr_ok (c.fact 96 (f := .mkr "Paper"))) (He.glo_ok X G (c.fact 55 (f := .glo "Paper")))
    d_Paper_bool := knm (c.def_ 24 (d := q_Paper_bool))
    d_Denial_bool := knm (c.def_ 25 (d := q_Denial_bool))
    d_shifted := knf (c.def_ 26 (d := q_shifted)) (He.glo_ok X G (c.fact 21 (f := .glo "shifted")))
    d_exchanged_ends := knf (c.def_ 27 (d := q_exchanged_ends)) (He.glo_ok X G (c.fact 22 (f := .glo "exchanged_ends")))
    d_is_in_order := knf (c.def_ 28 (d := q_is_in_order)) (He.glo_ok X G (c.fact 23 (f := .glo "is_in_order")))
    d_led := knf (c.def_ 29 (d := q_led)) (He.glo_ok X G (c.fact 24 (f := .glo "led")))
    d_form_of := knf (c.def_ 30 (d := q_form_of)) (He.glo_ok X G (c.fact 25 (f := .glo "form_of")))
    d_told := knf (c.def_ 31 (d := q_told)) (He.glo_ok X G (c.fact 26 (f := .glo "told")))
    d_columns := knf (c.def_ 32 (d := q_columns)) (He.glo_ok X G (c.fact 27 (f := .glo "columns")))
    d_spots := knf (c.def_ 33 (d := q_spots)) (He.glo_ok X G (c.fact 28 (f := .glo "spots")))
    d_forms_with := knf (c.def_ 34 (d := q_forms_with)) (He.glo_ok X G (c.fact 29 (f := .glo "forms_with")))
    d_need_worth := knf (c.def_ 35 (d := q_need_worth)) (He.glo_ok X G (c.fact 30 (f := .glo "need_worth")))
    d_touching := knf (c.def_ 36 (d := q_touching)) (He.glo_ok X G (c.fact 31 (f := .glo "touching")))
    d_touches := knf (c.def_ 37 (d := q_touches)) (He.glo_ok X G (c.fact 32 (f := .glo "touches")))
    d_roots_by := knf (c.def_ 38 (d := q_roots_by)) (He.glo_ok X G (c.fact 33 (f := .glo "roots_by")))
    d_many_touching := knf (c.def_ 39 (d := q_many_touching)) (He.glo_ok X G (c.fact 34 (f := .glo "many_touching")))
    d_numbers_of := knf (c.def_ 40 (d := q_numbers_of)) (He.glo_ok X G (c.fact 35 (f := .glo "numbers_of")))
    d_all_bends := knf (c.def_ 41 (d := q_all_bends)) (He.glo_ok X G (c.fact 36 (f := .glo "all_bends")))
    d_rim_fours := knf (c.def_ 42 (d := q_rim_fours)) (He.glo_ok X G (c.fact 37 (f := .glo "rim_fours")))
    d_law_jar := knf (c.def_ 43 (d := q_law_jar)) (He.glo_ok X G (c.fact 38 (f := .glo "_law_jar")))
    d_law_lot := knf (c.def_ 44 (d := q_law_lot)) (He.glo_ok X G (c.fact 39 (f := .glo "_law_lot")))
    d_law_take := knf (c.def_ 45 (d := q_law_take)) (He.glo_ok X G (c.fact 40 (f := .glo "_law_take")))
    d_law_mixed := knf (c.def_ 46 (d := q_law_mixed)) (He.glo_ok X G (c.fact 41 (f := .glo "_law_mixed")))
    d_law_divisor := knf (c.def_ 47 (d := q_law_divisor)) (He.glo_ok X G (c.fact 42 (f := .glo "_law_divisor")))
    d_law_forms := knf (c.def_ 48 (d := q_law_forms)) (He.glo_ok X G (c.fact 43 (f := .glo "_law_forms")))
    d_law_walked := knf (c.def_ 49 (d := q_law_walked)) (He.glo_ok X G (c.fact 44 (f := .glo "_law_walked")))
    d_law_many := knf (c.def_ 50 (d := q_law_many)) (He.glo_ok X G (c.fact 45 (f := .glo "_law_many")))
    d_law_root := knf (c.def_ 51 (d := q_law_root)) (He.glo_ok X G (c.fact 46 (f := .glo "_law_root")))
    d_law_pairs := knf (c.def_ 52 (d := q_law_pairs)) (He.glo_ok X G (c.fact 47 (f := .glo "_law_pairs")))
    d_law_rim_right := knf (c.def_ 53 (d := q_law_rim_right)) (He.glo_ok X G (c.fact 48 (f := .glo "_law_rim_right")))
    d_law_circle_right := knf (c.def_ 54 (d := q_law_circle_right)) (He.glo_ok X G (c.fact 49 (f := .glo "_law_circle_right")))
    d_law := knf (c.def_ 55 (d := q_law)) (He.glo_ok X G (c.fact 50 (f := .glo "law")))
    f_isinstance := He.free_ok X G (c.fact 65 (f := .free "isinstance"))
    f_int := He.free_ok X G (c.fact 66 (f := .free "int"))
    f_bool := He.free_ok X G (c.fact 67 (f := .free "bool"))
    f_list := He.free_ok X G (c.fact 68 (f := .free "list"))
    f_tuple := He.free_ok X G (c.fact 69 (f := .free "tuple"))
    f_all := He.free_ok X G (c.fact 70 (f := .free "all"))
    f_len := He.free_ok X G (c.fact 71 (f := .free "len"))
    f_sum := He.free_ok X G (c.fact 72 (f := .free "sum"))
    f_sorted := He.free_ok X G (c.fact 73 (f := .free "sorted"))
    f_set := He.free_ok X G (c.fact 74 (f := .free "set"))
    f_range := He.free_ok X G (c.fact 75 (f := .free "range"))
    f_abs := He.free_ok X G (c.fact 76 (f := .free "abs"))
    f_max := He.free_ok X G (c.fact 77 (f := .free "max"))
    f_repr := He.free_ok X G (c.fact 78 (f := .free "repr"))
    f_str := He.free_ok X G (c.fact 79 (f := .free "str"))
    f_super := He.free_ok X G (c.fact 80 (f := .free "super"))
    g_gcd := PySem.W.mg_of X G (He.eqO_ok (all_get e1 0 rfl))
    g_isqrt := PySem.W.mg_of X G (He.eqO_ok (all_get e1 1 rfl))
    i_PLACES := He.int_ok X G (c.fact 81 (f := .int "PLACES" 4))
    i_MOST_BEND := He.int_ok X G (c.fact 82 (f := .int "MOST_BEND" 500))
    i_MOST_WORTH := He.int_ok X G (c.fact 83 (f := .int "MOST_WORTH" 2000))
    i_MOST_RIM := He.int_ok X G (c.fact 84 (f := .int "MOST_RIM" 60))
    c_Form := He.cls_ok (c.fact 52 (f := .cls "Form"))
    a_Form := He.eqO_ok (all_get e1 4 rfl)
    o_Form := of_decide_eq_true (all_get e1 5 rfl)
    m_Form := He.glo_ok X G (c.fact 51 (f := .glo "Form"))
    c_Four := He.cls_ok (c.fact 54 (f := .cls "Four"))
    a_Four := He.eqO_ok (all_get e1 6 rfl)
    o_Four := of_decide_eq_true (all_get e1 7 rfl)
    m_Four := He.glo_ok X G (c.fact 53 (f := .glo "Four"))
    c_Paper := He.cls_ok (c.fact 56 (f := .cls "Paper"))
    a_Paper := He.eqO_ok (all_get e1 8 rfl)
    o_Paper := of_decide_eq_true (all_get e1 9 rfl)
    m_Paper := He.glo_ok X G (c.fact 55 (f := .glo "Paper"))
    c_Denial := He.cls_ok (c.fact 58 (f := .cls "Denial"))
    a_Denial := He.eqO_ok (all_get e1 10 rfl)
    o_Denial := of_decide_eq_true (all_get e1 11 rfl)
    m_Denial := He.glo_ok X G (c.fact 57 (f := .glo "Denial"))
    c_Touching := He.cls_ok (c.fact 60 (f := .cls "Touching"))
    a_Touching := He.eqO_ok (all_get e1 12 rfl)
    o_Touching := of_decide_eq_true (all_get e1 13 rfl)
    m_Touching := He.glo_ok X G (c.fact 59 (f := .glo "Touching"))
    c_Untouched := He.cls_ok (c.fact 62 (f := .cls "Untouched"))
    a_Untouched := He.eqO_ok (all_get e1 14 rfl)
    o_Untouched := of_decide_eq_true (all_get e1 15 rfl)
    m_Untouched := He.glo_ok X G (c.fact 61 (f := .glo "Untouched"))
    gs1 := He.eqO_ok (all_get e1 2 rfl)
    gs2 := of_decide_eq_true (all_get e1 3 rfl)
    n_Form_numbers := He.noat_ok (c.fact 85 (f := .noat "Form" "numbers"))
    n_Form_side := He.noat_ok (c.fact 86 (f := .noat "Form" "side"))
    n_Four_bends := He.noat_ok (c.fact 87 (f := .noat "Four" "bends"))
    n_Four_total := He.noat_ok (c.fact 88 (f := .noat "Four" "total"))
    n_Touching_word := He.noat_ok (c.fact 89 (f := .noat "Touching" "word"))
    n_Touching_parts := He.noat_ok (c.fact 90 (f := .noat "Touching" "parts"))
    n_Touching_x := He.noat_ok (c.fact 91 (f := .noat "Touching" "x"))
    n_Touching_y := He.noat_ok (c.fact 92 (f := .noat "Touching" "y"))
    n_Untouched_word := He.noat_ok (c.fact 93 (f := .noat "Untouched" "word"))
    n_Untouched_parts := He.noat_ok (c.fact 94 (f := .noat "Untouched" "parts"))
    n_Untouched_forms := He.noat_ok (c.fact 95 (f := .noat "Untouched" "forms")) }
abbrev vC (q : Str) (st : Stmt) : FnC := some ("__init__", q, defArgs st, .stmts (defBody st), defScope st, mainGlobals, ["__class__"], builtinsNs)
theorem sup_of {T q : Str} (hv : fnC K T = vC q st) (hs : (supL K T q).all id = true) (f : mg "super" = none) (m : Mk K (He.ga K T) (iniA K T)) :
    ∃ f fd cda cc, Sup prog0 K mg (He.ga K T) q st f (He.ma K (He.ga K "Paper") "__init__") fd cda cc ∧ Mk K (He.ga K T) f := by
  have h0 : cloB K T q = true := all_get hs 0 rfl
  unfold cloB at h0
  unfold fnC at hv
  cases e : K.lookup (iniA K T) with
  | none => rw [e] at h0; cases h0
  | some o =>
    obtain ⟨oc, od, dt, osl⟩ := o
    rw [e] at h0 hv
    cases dt with
    | func fd =>
      obtain ⟨n1, n2, n3, n4, n5, n6, n7, n8, n9, n10, n11, n12, n13, n14, n15⟩ := fd
      have e2 : (some (n1, n2, n3, n4, n5, n6, n7.map (·.1), n15) : FnC) = vC q st := hv
      simp only [Option.some.injEq, Prod.mk.injEq] at e2
      obtain ⟨h1, h2, h3, h4, h5, h6, h7, h8⟩ := e2
      subst h1 h2 h3 h4 h5 h6 h8
      cases n7 with
      | nil => cases h7
      | cons p n7 =>
        cases n7 with
        | cons _ _ => exact absurd (congrArg List.length h7) (by simp)
        | nil =>
          obtain ⟨n, cc⟩ := p
          cases n8 with
          | none =>
            cases n13 with
            | ref cda =>
              simp only [Bool.and_eq_true] at h0
              obtain ⟨k1, k2, k3, k4⟩ := h0
              have kn := of_decide_eq_true k1
              subst kn
              refine ⟨iniA K T, _, cda, cc, ⟨⟨oc, od, n9, n10, n11, n14, n12, osl, rfl, e⟩, k2, ?_, ?_, Option.isSome_iff_exists.mp (all_get hs 1 rfl), of_decide_eq_true (all_get hs 2 rfl), f, by decide +kernel, He.eqO_ok (all_get hs 3 rfl), He.eqO_ok (all_get hs 4 rfl), of_decide_eq_true (all_get hs 5 rfl), all_get hs 6 rfl⟩, m⟩
              · cases e3 : K.lookup cda with
                | none => rw [e3] at k3; cases k3
                | some o3 =>
                  obtain ⟨a1, a2, a3, a4⟩ := o3
                  rw [e3] at k3
                  cases a3 with
                  | fields vs =>
                    simp only at k3
                    cases e4 : vs[2]? with
                    | none => rw [e4] at k3; cases k3
                    | some v =>
                      rw [e4] at k3
                      cases v with
                      | str file tf => exact ⟨a1, a2, vs, a4, file, tf, rfl, e4, k3⟩
                      | _ => cases k3
                  | _ => cases k3
              · cases e3 : K.lookup cc with
                | none => rw [e3] at k4; cases k4
                | some o3 =>
                  obtain ⟨a1, a2, a3, a4⟩ := o3
                  rw [e3] at k4
                  cases a3 with
                  | cell ov =>
                    cases ov with
                    | none => cases a2 <;> cases k4
                    | some v =>
                      cases v with
                      | ref C =>
                        have hC : C = He.ga K T := by
                          cases a2 with
                          | none => exact of_decide_eq_true k4
                          | some _ => exact of_decide_eq_true k4
                        subst hC
                        exact ⟨a1, a2, a4, rfl⟩
                      | _ => cases a2 <;> cases k4
                  | _ => cases a2 <;> cases k4
            | _ => cases h0
          | _ => cases n13 <;> cases h0
    | _ => cases h0
theorem fnTy_ok {a : Addr} (h : fnTy K a = true) : ∃ oF, K.lookup a = some oF ∧ oF.cls = .type "function" := by
  unfold fnTy at h
  cases e : K.lookup a with
  | none => rw [e] at h; cases h
  | some o => rw [e] at h; exact ⟨o, rfl, of_decide_eq_true h⟩
theorem hs_of (X : K.In h) (G : h.Ns mainGlobals mg) (c : He.SaysD hfa hfn K) (e : exY K = (true, valC)) : HS K mg := by
  have hf := hf_of X G c e
  have e0 : hex K = true := congrArg (fun z : Bool × List FnC => z.1) e
  obtain ⟨_, e1⟩ := Bool.and_eq_true_iff.mp e0
  obtain ⟨e2, e3⟩ := Bool.and_eq_true_iff.mp e1
  obtain ⟨e4, e5⟩ := Bool.and_eq_true_iff.mp e3
  have ev : [fnC K "Touching", fnC K "Untouched"] = valC := congrArg (fun z : Bool × List FnC => z.2) e
  unfold valC at ev
  simp only [List.cons.injEq, and_true] at ev
  exact ⟨of_decide_eq_true (all_get e2 0 rfl), sup_of ev.1 e4 hf.f_super (He.mkr_ok (c.fact 97 (f := .mkr "Touching"))), sup_of ev.2 e5 hf.f_super (He.mkr_ok (c.fact 98 (f := .mkr "Untouched"))),
    He.eqO_ok (all_get e2 1 rfl), He.eqO_ok (all_get e2 2 rfl), fnTy_ok (all_get e2 3 rfl), fnTy_ok (all_get e2 4 rfl)⟩
end
end BS

set_option Elab.async false
set_option linter.all false
set_option maxRecDepth 100000
set_option maxHeartbeats 4000000
/-! the end: the given statement -/
namespace BS
open PySem PySem.Spec PyProof.Rows L2
theorem law_fn {w : World} {K : PySem.W.Frag} {h : Heap} {mg : Str → Option Value} {f : Addr} (X : K.In h) (G : h.Ns mainGlobals mg) (g : mg ("law" : Str) = some (.ref f)) (c : He.SaysD hfa hfn K) (e : exY K = (true, valC)) :
    ∃ fd : FuncData, (∀ (s : Shared) (v : Value), BindsTo s fd ⟨[v], []⟩ [("_law_script", v)]) ∧ ∀ base : Heap, K.In base → base.Ns mainGlobals mg → FnOk prog0 w K mg base CX0 11 f fd ["_law_script"] (spLaw K) := by
  have hd := hf_of X G c e
  have hs := hs_of X G c e
  obtain ⟨f0, fd, F, g0⟩ := hd.d_law
  obtain rfl : f0 = f := by
    have e1 := g0.symm.trans g
    injection e1 with e1
    injection e1 with e1
  have b := FunD.bindsA (ps := ["_law_script"]) F fun _ _ _ _ _ _ us hl => match us, hl with | [_], _ => rfl
  exact ⟨fd, fun s v => b s [v] rfl, fun base _ _ => w_law hd hs mf_all F⟩
end BS
open PySem PySem.W PySem.Calls PyProof.Rows
set_option maxRecDepth 100000 in
set_option maxHeartbeats 0 in
theorem PySem.Challenge.cw_bendsigns_k21_whole_bends_that_touch_a_r_holds : PySem.Challenge.rw_bendsigns_k21_whole_bends_that_touch_a_r.Holds := by
  w_on; o_law
  refine HandSHeadRun.head_imp (r := BS.hR) (q := BS.hV) (H := BS.hk) (ob := BS.hob) (M := 7000) (loose := BS.hloose) (d := HandSHeadRun.topDef BS.hR.prog 88) (kwd := []) BS.hob_eq
    BS.hrun (by kernel_rfl) (by kernel_rfl) (by kernel_rfl) (by rfl) (by first | assumption | decide +kernel) (by decide +kernel) ⟨rfl, rfl, rfl, rfl, rfl, by decide +kernel⟩ ?hw ?hc
  case hw => w_witness2
  case hc =>
    refine L2.walk_ofE (l := PySem.Challenge.rw_bendsigns_k21_whole_bends_that_touch_a_r) (n := 63) (k := 11) (x := "_law_script") (CX := L2.CX0) rfl (by decide) (by kernel_rfl) ⟨rfl, by decide, by decide⟩ ?F (fun _ _ _ _ z => z)
    intro w mg fa h Y G hmg0
    obtain ⟨K, KX, c, ex⟩ := Y
    have hmg : mg ("law" : PySem.Str) = some (.ref fa) := by
      have e : (HandSHeadRun.topDef BS.hR.prog 88).name = ("law" : PySem.Str) := by kernel_rfl
      rw [← e]
      exact hmg0
    obtain ⟨fd, hb, hF⟩ := BS.law_fn (w := w) KX G hmg c ex
    exact ⟨K, fd, BS.spLaw K, KX, hb, fun H a ns hl _ hS => ⟨a, ns, rfl, hS, fun _ => rfl⟩, hF⟩

